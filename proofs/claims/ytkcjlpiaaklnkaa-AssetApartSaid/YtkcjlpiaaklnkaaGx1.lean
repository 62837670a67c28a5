/- Shows what functions of the program come to, each as a plain function: written by a program of the author's for this claim. -/
import Derived.Test.YtkcjlpiaaklnkaaGx0
namespace Go.Proofs.Ytkcjlpiaaklnkaa
open Go Go.Pm
set_option linter.unusedVariables false
set_option linter.unusedSimpArgs false
noncomputable def lombardlaw13_filled.b0 (x0 : List lombardlaw13_Act) (v25 : Int) (v26 : Bool) (v27 : List api_Asset) (v28 : List Int) (v29 : List lombardref13_Known) : Option ((Int × Bool × (List api_Asset) × (List Int) × (List lombardref13_Known)) ⊕ ((asset_Book × (List lombardref13_Known) × Bool) ⊕ (Bool × (List api_Asset) × (List Int) × (List lombardref13_Known)))) :=
  if ((decide (v25 < (List.length x0 : Int))) && (decide (v25 < 90))) = true then
    if (0 : Int) ≤ v25 ∧ v25 < (List.length x0 : Int) then
    if ((decide ((List.length ((nth x0 v25).Prices) : Int) ≤ 100)) = true → (0 : Int) ≤ v25 ∧ v25 < (List.length x0 : Int)) then
    (if (decide ((List.length ((nth x0 v25).Prices) : Int) ≤ 100)) = true then lombardlaw13_does.f (⟨v27, v28, v26⟩ : asset_Book) v29 (⟨(nth x0 v25).Kind, ((nth x0 v25).Asset), (nth x0 v25).Prices⟩ : lombardlaw13_Act) else some (default, (⟨v27, v28, v26⟩ : asset_Book), v29)).bind fun t56 =>
    if ((decide ((List.length ((nth x0 v25).Prices) : Int) ≤ 100)) && (!t56.1)) = true then
      some (.inr (.inl (t56.2.1, t56.2.2, false)))
    else
      some (.inl ((IntKind.wrap .i64 (v25 + 1)), t56.2.1.made, t56.2.1.l, t56.2.1.prices, t56.2.2))
    else none
    else none
  else
    some (.inr (.inr (v26, v27, v28, v29)))
noncomputable def lombardlaw13_filled.r0 (x0 : List lombardlaw13_Act) (s : Int × Bool × (List api_Asset) × (List Int) × (List lombardref13_Known)) : Option ((Int × Bool × (List api_Asset) × (List Int) × (List lombardref13_Known)) ⊕ ((asset_Book × (List lombardref13_Known) × Bool) ⊕ (Bool × (List api_Asset) × (List Int) × (List lombardref13_Known)))) := lombardlaw13_filled.b0 x0 s.1 s.2.1 s.2.2.1 s.2.2.2.1 s.2.2.2.2
noncomputable def lombardlaw13_filled.f (x0 : List lombardlaw13_Act) : Option (asset_Book × (List lombardref13_Known) × Bool) :=
  (asset_New.f).bind fun t1 =>
  (loop (lombardlaw13_filled.r0 x0) (0, t1.made, t1.l, t1.prices, [])).bind fun o49 =>
  match o49 with
  | .inl r61 => some r61
  | .inr w48 =>
    some ((⟨w48.2.1, w48.2.2.1, w48.1⟩ : asset_Book), w48.2.2.2, true)
set_option maxRecDepth 100000 in
set_option maxHeartbeats 4000000 in
theorem lombardlaw13_filled.ok {x0 : List lombardlaw13_Act} {r : asset_Book × (List lombardref13_Known) × Bool} (h : lombardlaw13_filled.f x0 = some r) : Pm.Spec prog 11 [.imm (.row 7 (List.map lombardlaw13_Act.enc x0))] (.tup [.xbox [.xown 29 5 (List.map api_Asset.enc r.1.l), .xown 3 1 (List.map (encI .i64) r.1.prices), .imm (.val (.bool r.1.made))], .xown 46 6 (List.map lombardref13_Known.enc r.2.1), .imm (.val (.bool r.2.2))]) [none] := by
 unfold lombardlaw13_filled.f at h; refine Pm.Spec.of_body Try.func11 rfl (by kernel_rfl) (Nat.le_of_ble_eq_true rfl) (Nat.le_of_ble_eq_true rfl) ?_; refine W.ghost (σ' := (mkSt [(0, some (.imm (.row 7 (List.map lombardlaw13_Act.enc x0))))] [] 1000)) (Gives.entry (.c rfl .n) .n) ?_; refine W.seq ?_; refine W.pk ?_; (iterate 3 refine .a rfl rfl rfl rfl ?_); refine .nil ?_; refine W.seq ?_; obtain ⟨t1, b2, h⟩ := bnd1 h; refine W.pk ?_; refine .call (.ptr 1000 0) [(1000, some (.box [.own 1001, .own 1002, .b t1.made])), (1001, some (.rows 29 5 (List.map api_Asset.enc t1.l) false)), (1002, some (.rows 3 1 (List.map (encI .i64) t1.prices) false))] 3 (asset_New.ok b2) rfl rfl rfl ca20 rfl rfl .nil rfl rfl rfl rfl rfl ?_; refine .a rfl rfl rfl rfl ?_; refine .nil ?_; refine W.seq ?_; refine W.pk ?_; refine .t rfl rfl (O.alloc z31 rfl) ?_; refine .nil ?_; (iterate 2 refine W.seq ?_); refine W.pk ?_; refine .a rfl rfl rfl rfl ?_; refine .nil ?_; refine W.ghost (Gives.mintB 1003 0 46 6 rfl rfl) ?_; obtain ⟨o49, b50, z51⟩ := bnd1 h; refine W.fork2 (out := o49) (fun (w48 : Bool × (List api_Asset) × (List Int) × (List lombardref13_Known)) => mkSt [(5, some (.ptr 1000 0)), (6, some (.ptr 1003 0))] [(1000, some (.box [.own 1001, .own 1002, .b w48.1])), (1001, some (.rows 29 5 (List.map api_Asset.enc w48.2.1) false)), (1002, some (.rows 3 1 (List.map (encI .i64) w48.2.2.1) false)), (1003, some (.box [.own 1004])), (1004, some (.rows 46 6 (List.map lombardref13_Known.enc w48.2.2.2) false))] 1005) ?_ ?_
 ·clear h; refine W.block ?_; refine W.loopF (fun (s_ : Int × Bool × (List api_Asset) × (List Int) × (List lombardref13_Known)) => mkSt [(0, some (.imm (.row 7 (List.map lombardlaw13_Act.enc x0)))), (5, some (.ptr 1000 0)), (6, some (.ptr 1003 0)), (7, some (.i s_.1))] [(1000, some (.box [.own 1001, .own 1002, .b s_.2.1])), (1001, some (.rows 29 5 (List.map api_Asset.enc s_.2.2.1) false)), (1002, some (.rows 3 1 (List.map (encI .i64) s_.2.2.2.1) false)), (1003, some (.box [.own 1004])), (1004, some (.rows 46 6 (List.map lombardref13_Known.enc s_.2.2.2.2) false))] 1005) b50 (Gives.mkR [] (.e rfl rfl) (.e rfl rfl) rfl rfl rfl) ?_; rintro ⟨v25, v26, v27, v28, v29⟩ s_ hr; have h : lombardlaw13_filled.b0 x0 v25 v26 v27 v28 v29 = some s_ := hr; unfold lombardlaw13_filled.b0 at h; (iterate 2 refine W.seq ?_); refine W.fork (mkSt [(0, some (.imm (.row 7 (List.map lombardlaw13_Act.enc x0)))), (5, some (.ptr 1000 0)), (6, some (.ptr 1003 0)), (7, some (.i v25)), (16, some (.b ((decide (v25 < (List.length x0 : Int))) && (decide (v25 < 90)))))] [(1000, some (.box [.own 1001, .own 1002, .b v26])), (1001, some (.rows 29 5 (List.map api_Asset.enc v27) false)), (1002, some (.rows 3 1 (List.map (encI .i64) v28) false)), (1003, some (.box [.own 1004])), (1004, some (.rows 46 6 (List.map lombardref13_Known.enc v29) false))] 1005) ?_ ?_
  ·refine W.cond rfl (fun q53 => ?_) (fun q53 => ?_)
   ·have h := ifT q53 h; refine W.skip ?_; refine W.seq ?_; refine W.block ?_; refine W.seq ?_; obtain ⟨c54, h⟩ := chk h; obtain ⟨c55, h⟩ := chk h; obtain ⟨t56, b57, h⟩ := bnd1 h; refine W.fork (mkSt [(0, some (.imm (.row 7 (List.map lombardlaw13_Act.enc x0)))), (5, some (.ptr 1000 0)), (6, some (.ptr 1003 0)), (7, some (.i v25)), (34, some (.b ((decide ((List.length ((nth x0 v25).Prices) : Int) ≤ 100)) && (!t56.1))))] [(1000, some (.box [.own 1005, .own 1006, .b t56.2.1.made])), (1003, some (.box [.own 1007])), (1005, some (.rows 29 5 (List.map api_Asset.enc t56.2.1.l) false)), (1006, some (.rows 3 1 (List.map (encI .i64) t56.2.1.prices) false)), (1007, some (.rows 46 6 (List.map lombardref13_Known.enc t56.2.2) false))] 1008) ?_ ?_
    ·refine W.cond rfl (fun q59 => ?_) (fun q59 => ?_)
     ·have h := ifT q59 h; refine W.seq ?_; refine W.dk (unm 5 [0, 0, 1, 7, 15]) rfl (by kernel_rfl) ?_; refine .m rfl rfl rfl rfl ?_; refine .v rfl rfl (O.ld (y := .own 1007) ty31 rfl rfl rfl) ?_; (iterate 3 refine .a rfl rfl rfl rfl ?_); refine .nil ?_; refine ⟨by kernel_rfl, by kernel_rfl, ?_⟩; refine W.ret ?_; cases h; refine rdR fun e_ => ?_; subst e_; have h := z51; dsimp only at h; refine fkR ?_; cases h; exact leaves (.inr rfl) rfl (.tup _ _ _ _ (cC (.ptr _ _ _ _ _ rfl (cC (.own _ _ _ _ rfl) (cC (.own _ _ _ _ rfl) (cC (.imm _) .nil)))) (cC (.own _ _ _ _ rfl) (cC (.imm _) .nil)))) (cN .nil) rfl rfl
     ·have h := ifF q59 h; refine W.skip ?_; refine W.pk ?_; refine .m rfl rfl rfl rfl ?_; refine .v rfl rfl (OpL.binI rfl rfl rfl rfl) ?_; refine .a rfl rfl rfl rfl ?_; refine .nil ?_; cases h; exact rdN (Gives.mkR [(1001, 1005), (1002, 1006), (1004, 1007)] (.e rfl rfl) (.e rfl rfl) rfl rfl rfl)
    ·clear h; refine W.pk ?_; (iterate 2 refine .m rfl rfl rfl rfl ?_); refine .v rfl rfl (O.idx sl27 c54 rfl rfl rfl) ?_; refine .v rfl rfl (O.fld fld51_2 rfl rfl rfl) ?_; refine .v rfl rfl (O.ld (y := .imm (.row 2 (List.map api_Price.enc ((nth x0 v25).Prices)))) ty49 rfl rfl rfl) ?_; refine .v rfl rfl (O.lenR sl49 rfl rfl) ?_; refine .v rfl rfl (OpL.binI rfl rfl rfl rfl) ?_; refine .m rfl rfl rfl rfl ?_; rcases tf (decide ((List.length ((nth x0 v25).Prices) : Int) ≤ 100)) with g58 | g58
     ·(iterate 3 refine .m rfl (met rfl rfl rfl g58) rfl rfl ?_); refine .v rfl (met rfl rfl rfl g58) (O.idx sl27 (c55 (by simp only [g58, BL])) rfl rfl rfl) ?_; refine .v rfl (met rfl rfl rfl g58) (O.ldN ty51 rfl rfl rfl) ?_; refine .call (.b t56.1) [(1000, some (.box [.own 1005, .own 1006, .b t56.2.1.made])), (1005, some (.rows 29 5 (List.map api_Asset.enc t56.2.1.l) false)), (1006, some (.rows 3 1 (List.map (encI .i64) t56.2.1.prices) false)), (1003, some (.box [.own 1007])), (1007, some (.rows 46 6 (List.map lombardref13_Known.enc t56.2.2) false)), (1000, none), (1001, none), (1002, none), (1003, none), (1004, none)] 3 (lombardlaw13_does.ok ((if_pos (by simp only [g58, BL])).symm.trans b57)) rfl (met rfl rfl rfl g58) rfl ca21 rfl rfl (cC (.ptr _ _ _ _ _ rfl (cC (.own _ _ _ _ rfl) (cC (.own _ _ _ _ rfl) (cC (.imm _) .nil)))) (cC (.ptr _ _ _ _ _ rfl (cC (.own _ _ _ _ rfl) .nil)) (cC (.agg _ _ _ _ (cC (.imm _) (cC (.imm _) (cC (.imm _) (cC (.imm _) (cC (.imm _) (cC (.imm _) (cC (.imm _) .nil)))))))) .nil))) rfl rfl rfl rfl rfl ?_; refine .v rfl (met rfl rfl rfl g58) (OpL.unV rfl rfl rfl) ?_; refine .v rfl rfl (O.pickT g58 rfl rfl rfl) ?_; refine .nil ?_; exact toN (Gives.mkR [] (.r rfl rfl (.r rfl rfl (.r rfl rfl (.r rfl rfl (.c rfl (sbb (by simp only [g58, BL])) rfl .n))))) (.e rfl rfl) rfl rfl rfl)
     ·(iterate 7 refine .x rfl (unmet rfl rfl rfl g58) ?_); refine .v rfl rfl (O.pickF g58 rfl rfl rfl) ?_; refine .nil ?_; have e60 : t56 = (default, (⟨v27, v28, v26⟩ : asset_Book), v29) := (Option.some.inj ((if_neg (by simp only [g58, BL, Bool.true_eq_false, Bool.false_eq_true, false_and, and_false, true_and, and_true, not_false_eq_true])).symm.trans b57)).symm; exact toN (Gives.mkR [(1005, 1001), (1006, 1002), (1007, 1004)] (.r rfl rfl (.r rfl rfl (.r rfl rfl (.r rfl rfl (.c rfl (sbb (by first | (simp only [g58, e60, BL]; done) | (repeat (first | rw [g58] | rw [e60])) <;> simp only [BL])) rfl .n))))) (.c rfl (.box (.cons (.rfl _) (.cons (.rfl _) (.cons (sbb (by first | (simp only [g58, e60, BL]; done) | (repeat (first | rw [g58] | rw [e60])) <;> simp only [BL])) .nil)))) rfl rfl (.r rfl rfl rfl (.c rfl (kro (by first | (simp only [g58, e60, BL]; done) | (repeat (first | rw [g58] | rw [e60])) <;> simp only [BL])) rfl rfl (.c rfl (kro (by first | (simp only [g58, e60, BL]; done) | (repeat (first | rw [g58] | rw [e60])) <;> simp only [BL])) rfl rfl (.c rfl (kro (by first | (simp only [g58, e60, BL]; done) | (repeat (first | rw [g58] | rw [e60])) <;> simp only [BL])) rfl rfl .n))))) rfl rfl rfl)
   ·have h := ifF q53 h; refine W.exit ?_; cases h; refine rdX fun e_ => ?_; subst e_; (repeat with_reducible refine thru ?_); refine hit ?_; exact fkN (Gives.mkR [] (.e rfl rfl) (.e rfl rfl) rfl rfl rfl)
  ·clear h; refine W.pk ?_; (iterate 2 refine .m rfl rfl rfl rfl ?_); refine .v rfl rfl (O.lenR sl27 rfl rfl) ?_; refine .v rfl rfl (OpL.binI rfl rfl rfl rfl) ?_; refine .m rfl rfl rfl rfl ?_; rcases tf (decide (v25 < (List.length x0 : Int))) with g52 | g52
   ·refine .m rfl (met rfl rfl rfl g52) rfl rfl ?_; refine .v rfl (met rfl rfl rfl g52) (OpL.binI rfl rfl rfl rfl) ?_; refine .v rfl rfl (O.pickT g52 rfl rfl rfl) ?_; refine .nil ?_; exact toN (Gives.mkR [] (.r rfl rfl (.r rfl rfl (.r rfl rfl (.r rfl rfl (.c rfl (sbb (by simp only [g52, BL])) rfl .n))))) (.e rfl rfl) rfl rfl rfl)
   ·(iterate 2 refine .x rfl (unmet rfl rfl rfl g52) ?_); refine .v rfl rfl (O.pickF g52 rfl rfl rfl) ?_; refine .nil ?_; exact toN (Gives.mkR [] (.r rfl rfl (.r rfl rfl (.r rfl rfl (.r rfl rfl (.c rfl (sbb (by simp only [g52, BL])) rfl .n))))) (.e rfl rfl) rfl rfl rfl)
 ·intro w48 e_; subst e_; clear h; have h := z51; dsimp only at h; refine W.seq ?_; refine W.dk (unm 5 [0, 0, 1, 7, 15]) rfl (by kernel_rfl) ?_; refine .m rfl rfl rfl rfl ?_; refine .v rfl rfl (O.ld (y := .own 1004) ty31 rfl rfl rfl) ?_; (iterate 3 refine .a rfl rfl rfl rfl ?_); refine .nil ?_; refine ⟨by kernel_rfl, by kernel_rfl, ?_⟩; refine W.ret ?_; cases h; exact leaves (.inr rfl) rfl (.tup _ _ _ _ (cC (.ptr _ _ _ _ _ rfl (cC (.own _ _ _ _ rfl) (cC (.own _ _ _ _ rfl) (cC (.imm _) .nil)))) (cC (.own _ _ _ _ rfl) (cC (.imm _) .nil)))) (cN .nil) rfl rfl

noncomputable def slices_Clone_api_Asset.f (x0 : List api_Asset) : Option (List api_Asset) :=
  if (List.length x0) * 56 ≤ 140737488355328 then some x0 else none
set_option maxRecDepth 100000 in
theorem slices_Clone_api_Asset.ok {x0 r : List api_Asset} (h : slices_Clone_api_Asset.f x0 = some r) : Pm.Spec prog 40 [.xown 29 5 (List.map api_Asset.enc x0)] (.xown 29 5 (List.map api_Asset.enc r)) [some (.xown 29 5 (List.map api_Asset.enc x0))] := by
 obtain ⟨h1, rfl⟩ : (List.length x0) * 56 ≤ 140737488355328 ∧ x0 = r := by
   unfold slices_Clone_api_Asset.f at h
   split at h
   · rename_i h1; cases h; exact ⟨h1, rfl⟩
   · cases h
 refine Pm.Spec.of_body Try.func40 rfl (by kernel_rfl) (Nat.le_of_ble_eq_true rfl) (Nat.le_of_ble_eq_true rfl) ?_
 refine W.ghost (σ' := (mkSt [(0, some (.own 0))] [(0, some (.rows 29 5 (List.map api_Asset.enc x0) false))] 1000)) (Gives.entry (.c rfl .n) (.c rfl .n)) ?_
 cases x0 with
 | cons x1 l1 =>
  refine W.seq ?_
  refine W.pk ?_
  refine .v rfl rfl (OpL.move (.inr rfl) rfl) ?_
  refine .nil ?_
  refine W.seq ?_
  refine W.seq ?_
  refine W.pk ?_
  refine .v rfl rfl (OpL.move (.inl rfl) rfl) ?_
  refine .v rfl rfl (O.eqOwn sl68 rfl rfl rfl rfl) ?_
  refine .nil ?_
  refine W.cond rfl (fun q => by cases q) (fun _ => ?_)
  refine W.skip ?_
  refine W.seq ?_
  refine W.pk ?_
  refine .t rfl rfl (O.lit (enc := api_Asset.enc) (l := []) sl68 rfl rfl rfl rfl rfl rfl rfl rfl rfl) ?_
  refine .v rfl rfl (OpL.move (.inl rfl) rfl) ?_
  have h2 : (List.length ([] : List api_Asset) + List.length (x1 :: l1 : List api_Asset)) * 56 ≤ 140737488355328 := by simpa using h1
  refine .t rfl rfl (O.appO (l := []) sl68 api_Asset.ok h2 rfl rfl rfl rfl rfl) ?_
  refine .v rfl rfl (OpL.move (.inr rfl) rfl) ?_
  refine .nil ?_
  refine W.ret ?_
  exact leaves (.inr rfl) rfl (.own _ _ _ _ rfl) (cS (.own _ _ _ _ rfl) .nil) rfl rfl
 | nil =>
  refine W.emptyO 0 rfl rfl fun A c => ?_
  cases A with
  | none =>
   refine W.seq ?_
   refine W.pk ?_
   refine .v rfl rfl (OpL.move (.inr rfl) rfl) ?_
   refine .nil ?_
   refine W.seq ?_
   refine W.seq ?_
   refine W.pk ?_
   refine .v rfl rfl (OpL.move (.inl rfl) rfl) ?_
   refine .v rfl rfl (O.eqSl sl68 rfl rfl rfl) ?_
   refine .nil ?_
   refine W.cond rfl (fun _ => ?_) (fun q => by cases q)
   refine W.seq ?_
   refine W.pk ?_
   refine .v rfl rfl (OpL.move (.inr rfl) rfl) ?_
   refine .nil ?_
   refine W.ret ?_
   exact leaves (.inr rfl) rfl (.nilown _ _) (cS (.own _ _ _ _ rfl) .nil) rfl rfl
  | some p =>
   refine W.seq ?_
   refine W.pk ?_
   refine .v rfl rfl (OpL.move (.inr rfl) rfl) ?_
   refine .nil ?_
   refine W.seq ?_
   refine W.seq ?_
   refine W.pk ?_
   refine .v rfl rfl (OpL.move (.inl rfl) rfl) ?_
   refine .v rfl rfl (O.eqSl sl68 rfl rfl rfl) ?_
   refine .nil ?_
   refine W.cond rfl (fun q => by cases q) (fun _ => ?_)
   refine W.skip ?_
   refine W.ghost (Gives.emptyS 0 5 rfl) ?_
   refine W.seq ?_
   refine W.pk ?_
   refine .t rfl rfl (O.lit (enc := api_Asset.enc) (l := []) sl68 rfl rfl rfl rfl rfl rfl rfl rfl rfl) ?_
   refine .v rfl rfl (OpL.move (.inl rfl) rfl) ?_
   have h2 : (List.length ([] : List api_Asset) + List.length ([] : List api_Asset)) * 56 ≤ 140737488355328 := by simp
   refine .t rfl rfl (O.app (l := []) sl68 api_Asset.ok h2 rfl rfl rfl rfl) ?_
   refine .v rfl rfl (OpL.move (.inr rfl) rfl) ?_
   refine .nil ?_
   refine W.ret ?_
   exact leaves (.inr rfl) rfl (.own _ _ _ _ rfl) (cS (.own _ _ _ _ rfl) .nil) rfl rfl

noncomputable def slices_Clone_int.f (x0 : List Int) : Option (List Int) :=
  if (List.length x0) * 8 ≤ 140737488355328 then some x0 else none
set_option maxRecDepth 100000 in
theorem slices_Clone_int.ok {x0 r : List Int} (h : slices_Clone_int.f x0 = some r) : Pm.Spec prog 41 [.xown 3 1 (List.map (encI .i64) x0)] (.xown 3 1 (List.map (encI .i64) r)) [some (.xown 3 1 (List.map (encI .i64) x0))] := by
 obtain ⟨h1, rfl⟩ : (List.length x0) * 8 ≤ 140737488355328 ∧ x0 = r := by
   unfold slices_Clone_int.f at h
   split at h
   · rename_i h1; cases h; exact ⟨h1, rfl⟩
   · cases h
 refine Pm.Spec.of_body Try.func41 rfl (by kernel_rfl) (Nat.le_of_ble_eq_true rfl) (Nat.le_of_ble_eq_true rfl) ?_
 refine W.ghost (σ' := (mkSt [(0, some (.own 0))] [(0, some (.rows 3 1 (List.map (encI .i64) x0) false))] 1000)) (Gives.entry (.c rfl .n) (.c rfl .n)) ?_
 cases x0 with
 | cons x1 l1 =>
  refine W.seq ?_
  refine W.pk ?_
  refine .v rfl rfl (OpL.move (.inr rfl) rfl) ?_
  refine .nil ?_
  refine W.seq ?_
  refine W.seq ?_
  refine W.pk ?_
  refine .v rfl rfl (OpL.move (.inl rfl) rfl) ?_
  refine .v rfl rfl (O.eqOwn sl69 rfl rfl rfl rfl) ?_
  refine .nil ?_
  refine W.cond rfl (fun q => by cases q) (fun _ => ?_)
  refine W.skip ?_
  refine W.seq ?_
  refine W.pk ?_
  refine .t rfl rfl (O.lit (enc := (encI .i64)) (l := []) sl69 rfl rfl rfl rfl rfl rfl rfl rfl rfl) ?_
  refine .v rfl rfl (OpL.move (.inl rfl) rfl) ?_
  have h2 : (List.length ([] : List Int) + List.length (x1 :: l1 : List Int)) * 8 ≤ 140737488355328 := by simpa using h1
  refine .t rfl rfl (O.appO (l := []) sl69 (EncOk.int .i64) h2 rfl rfl rfl rfl rfl) ?_
  refine .v rfl rfl (OpL.move (.inr rfl) rfl) ?_
  refine .nil ?_
  refine W.ret ?_
  exact leaves (.inr rfl) rfl (.own _ _ _ _ rfl) (cS (.own _ _ _ _ rfl) .nil) rfl rfl
 | nil =>
  refine W.emptyO 0 rfl rfl fun A c => ?_
  cases A with
  | none =>
   refine W.seq ?_
   refine W.pk ?_
   refine .v rfl rfl (OpL.move (.inr rfl) rfl) ?_
   refine .nil ?_
   refine W.seq ?_
   refine W.seq ?_
   refine W.pk ?_
   refine .v rfl rfl (OpL.move (.inl rfl) rfl) ?_
   refine .v rfl rfl (O.eqSl sl69 rfl rfl rfl) ?_
   refine .nil ?_
   refine W.cond rfl (fun _ => ?_) (fun q => by cases q)
   refine W.seq ?_
   refine W.pk ?_
   refine .v rfl rfl (OpL.move (.inr rfl) rfl) ?_
   refine .nil ?_
   refine W.ret ?_
   exact leaves (.inr rfl) rfl (.nilown _ _) (cS (.own _ _ _ _ rfl) .nil) rfl rfl
  | some p =>
   refine W.seq ?_
   refine W.pk ?_
   refine .v rfl rfl (OpL.move (.inr rfl) rfl) ?_
   refine .nil ?_
   refine W.seq ?_
   refine W.seq ?_
   refine W.pk ?_
   refine .v rfl rfl (OpL.move (.inl rfl) rfl) ?_
   refine .v rfl rfl (O.eqSl sl69 rfl rfl rfl) ?_
   refine .nil ?_
   refine W.cond rfl (fun q => by cases q) (fun _ => ?_)
   refine W.skip ?_
   refine W.ghost (Gives.emptyS 0 1 rfl) ?_
   refine W.seq ?_
   refine W.pk ?_
   refine .t rfl rfl (O.lit (enc := (encI .i64)) (l := []) sl69 rfl rfl rfl rfl rfl rfl rfl rfl rfl) ?_
   refine .v rfl rfl (OpL.move (.inl rfl) rfl) ?_
   have h2 : (List.length ([] : List Int) + List.length ([] : List Int)) * 8 ≤ 140737488355328 := by simp
   refine .t rfl rfl (O.app (l := []) sl69 (EncOk.int .i64) h2 rfl rfl rfl rfl) ?_
   refine .v rfl rfl (OpL.move (.inr rfl) rfl) ?_
   refine .nil ?_
   refine W.ret ?_
   exact leaves (.inr rfl) rfl (.own _ _ _ _ rfl) (cS (.own _ _ _ _ rfl) .nil) rfl rfl

noncomputable def asset_Book_Clone.f (x0 : asset_Book) : Option (asset_Book) :=
  (slices_Clone_api_Asset.f x0.l).bind fun t1 =>
  (slices_Clone_int.f x0.prices).bind fun t3 =>
  some (⟨t1, t3, x0.made⟩ : asset_Book)
set_option maxRecDepth 100000 in
set_option maxHeartbeats 4000000 in
theorem asset_Book_Clone.ok {x0 : asset_Book} {r : asset_Book} (h : asset_Book_Clone.f x0 = some r) : Pm.Spec prog 28 [.xbox [.xown 29 5 (List.map api_Asset.enc x0.l), .xown 3 1 (List.map (encI .i64) x0.prices), .imm (.val (.bool x0.made))]] (.xbox [.xown 29 5 (List.map api_Asset.enc r.l), .xown 3 1 (List.map (encI .i64) r.prices), .imm (.val (.bool r.made))]) [some (.xbox [.xown 29 5 (List.map api_Asset.enc x0.l), .xown 3 1 (List.map (encI .i64) x0.prices), .imm (.val (.bool x0.made))])] := by
 unfold asset_Book_Clone.f at h; refine Pm.Spec.of_body Try.func28 rfl (by kernel_rfl) (Nat.le_of_ble_eq_true rfl) (Nat.le_of_ble_eq_true rfl) ?_; refine W.ghost (σ' := (mkSt [(0, some (.ptr 0 0))] [(0, some (.box [.own 1, .own 2, .b x0.made])), (1, some (.rows 29 5 (List.map api_Asset.enc x0.l) false)), (2, some (.rows 3 1 (List.map (encI .i64) x0.prices) false))] 1000)) (Gives.entry (.c rfl .n) (.c rfl (.c rfl (.c rfl .n)))) ?_; refine W.ghost (σ' := (mkSt [(0, some (.ptr 0 0))] [(0, some (.box [.own 1000, .own 1001, .b x0.made])), (1000, some (.rows 29 5 (List.map api_Asset.enc x0.l) false)), (1001, some (.rows 3 1 (List.map (encI .i64) x0.prices) false))] 1002)) (Gives.mkR [(1000, 1), (1001, 2)] (.r rfl rfl .n) (.e rfl rfl) rfl rfl rfl) ?_; refine W.seq ?_; refine W.pk ?_; refine .a rfl rfl rfl rfl ?_; refine .nil ?_; (iterate 2 refine W.seq ?_); refine W.pk ?_; refine .m rfl rfl rfl rfl ?_; refine .v rfl rfl (OpL.eqP rfl u30 rfl rfl rfl) ?_; refine .nil ?_; refine W.cond rfl (fun q => by cases q) (fun _ => ?_)
 refine W.skip ?_; refine W.seq ?_; obtain ⟨t1, b2, h⟩ := bnd1 h; obtain ⟨t3, b4, h⟩ := bnd1 h; refine W.dk (unm 17 [0, 1, 3, 7, 15, 0, 32, 96, 224, 511, 0, 1024, 3072, 7168, 16383, 32767, 65535]) rfl (by kernel_rfl) ?_; refine .m rfl rfl rfl rfl ?_; refine .v rfl rfl (OpL.nilP rfl rfl rfl) ?_; refine .v rfl rfl (O.fld fld71_0 rfl rfl rfl) ?_; refine .v rfl rfl (O.ld (y := .own 1000) ty68 rfl rfl rfl) ?_; refine .call (.own 1002) [(1002, some (.rows 29 5 (List.map api_Asset.enc t1) false)), (1000, some (.rows 29 5 (List.map api_Asset.enc x0.l) false)), (1000, none)] 1 (slices_Clone_api_Asset.ok b2) rfl rfl rfl ca40 rfl rfl (cC (.own _ _ _ _ rfl) .nil) rfl rfl rfl rfl rfl ?_; refine .m rfl rfl rfl rfl ?_; refine .v rfl rfl (OpL.nilP rfl rfl rfl) ?_; refine .v rfl rfl (O.fld fld71_1 rfl rfl rfl) ?_; refine .v rfl rfl (O.ld (y := .own 1001) ty69 rfl rfl rfl) ?_; refine .call (.own 1003) [(1003, some (.rows 3 1 (List.map (encI .i64) t3) false)), (1001, some (.rows 3 1 (List.map (encI .i64) x0.prices) false)), (1001, none)] 1 (slices_Clone_int.ok b4) rfl rfl rfl ca41 rfl rfl (cC (.own _ _ _ _ rfl) .nil) rfl rfl rfl rfl rfl ?_; refine .m rfl rfl rfl rfl ?_; refine .v rfl rfl (OpL.nilP rfl rfl rfl) ?_; refine .v rfl rfl (O.fld fld71_2 rfl rfl rfl) ?_; refine .v rfl rfl (O.ld (y := .b x0.made) ty4 rfl rfl rfl) ?_; refine .v rfl rfl (O.build (out := [.own 1002, .own 1003, .b x0.made]) bl71 rfl rfl rfl rfl (by kernel_rfl)) ?_; refine .t rfl rfl (O.box rfl rfl rfl rfl rfl) ?_; refine .a rfl rfl rfl rfl ?_; refine .nil ?_; refine ⟨by kernel_rfl, by kernel_rfl, ?_⟩; refine W.ret ?_; cases h; exact leaves (.inr rfl) rfl (.ptr _ _ _ _ _ rfl (cC (.own _ _ _ _ rfl) (cC (.own _ _ _ _ rfl) (cC (.imm _) .nil)))) (cS (.ptr _ _ _ _ _ rfl (cC (.own _ _ _ _ rfl) (cC (.own _ _ _ _ rfl) (cC (.imm _) .nil)))) .nil) rfl rfl

noncomputable def asset_Book_All.f (x0 : asset_Book) : Option (List api_Asset) :=
  (slices_Clone_api_Asset.f x0.l).bind fun t1 =>
  some t1
set_option maxRecDepth 100000 in
set_option maxHeartbeats 4000000 in
theorem asset_Book_All.ok {x0 : asset_Book} {r : List api_Asset} (h : asset_Book_All.f x0 = some r) : Pm.Spec prog 31 [.xbox [.xown 29 5 (List.map api_Asset.enc x0.l), .xown 3 1 (List.map (encI .i64) x0.prices), .imm (.val (.bool x0.made))]] (.xown 29 5 (List.map api_Asset.enc r)) [some (.xbox [.xown 29 5 (List.map api_Asset.enc x0.l), .xown 3 1 (List.map (encI .i64) x0.prices), .imm (.val (.bool x0.made))])] := by
 unfold asset_Book_All.f at h; refine Pm.Spec.of_body Try.func31 rfl (by kernel_rfl) (Nat.le_of_ble_eq_true rfl) (Nat.le_of_ble_eq_true rfl) ?_; refine W.ghost (σ' := (mkSt [(0, some (.ptr 0 0))] [(0, some (.box [.own 1, .own 2, .b x0.made])), (1, some (.rows 29 5 (List.map api_Asset.enc x0.l) false)), (2, some (.rows 3 1 (List.map (encI .i64) x0.prices) false))] 1000)) (Gives.entry (.c rfl .n) (.c rfl (.c rfl (.c rfl .n)))) ?_; refine W.ghost (σ' := (mkSt [(0, some (.ptr 0 0))] [(0, some (.box [.own 1000, .own 1001, .b x0.made])), (1000, some (.rows 29 5 (List.map api_Asset.enc x0.l) false)), (1001, some (.rows 3 1 (List.map (encI .i64) x0.prices) false))] 1002)) (Gives.mkR [(1000, 1), (1001, 2)] (.r rfl rfl .n) (.e rfl rfl) rfl rfl rfl) ?_; refine W.seq ?_; refine W.pk ?_; refine .a rfl rfl rfl rfl ?_; refine .nil ?_; (iterate 2 refine W.seq ?_); refine W.pk ?_; refine .m rfl rfl rfl rfl ?_; refine .v rfl rfl (OpL.eqP rfl u30 rfl rfl rfl) ?_; refine .nil ?_; refine W.cond rfl (fun q => by cases q) (fun _ => ?_)
 refine W.skip ?_; refine W.seq ?_; obtain ⟨t1, b2, h⟩ := bnd1 h; refine W.pk ?_; refine .m rfl rfl rfl rfl ?_; refine .v rfl rfl (OpL.nilP rfl rfl rfl) ?_; refine .v rfl rfl (O.fld fld71_0 rfl rfl rfl) ?_; refine .v rfl rfl (O.ld (y := .own 1000) ty68 rfl rfl rfl) ?_; refine .call (.own 1002) [(1002, some (.rows 29 5 (List.map api_Asset.enc t1) false)), (1000, some (.rows 29 5 (List.map api_Asset.enc x0.l) false)), (1000, none)] 1 (slices_Clone_api_Asset.ok b2) rfl rfl rfl ca40 rfl rfl (cC (.own _ _ _ _ rfl) .nil) rfl rfl rfl rfl rfl ?_; refine .a rfl rfl rfl rfl ?_; refine .nil ?_; refine W.ret ?_; cases h; exact leaves (.inr rfl) rfl (.own _ _ _ _ rfl) (cS (.ptr _ _ _ _ _ rfl (cC (.own _ _ _ _ rfl) (cC (.own _ _ _ _ rfl) (cC (.imm _) .nil)))) .nil) rfl rfl

noncomputable def asset_Book_Prices.b0 (x0 : asset_Book) (v14 : Int) (v15 : List api_Price) : Option ((Int × (List api_Price)) ⊕ (List api_Price)) :=
  if (decide (v14 < (List.length x0.l : Int))) = true then
    if (0 : Int) ≤ v14 ∧ v14 < (List.length x0.l : Int) then
    if (0 : Int) ≤ v14 ∧ v14 < (List.length x0.prices : Int) then
    if (decide ((nth x0.prices v14) > 0)) = true then
      if (0 : Int) ≤ v14 ∧ v14 < (List.length x0.prices : Int) then
      if (List.length v15 + List.length [(⟨(nth x0.l v14).ISIN, (nth x0.prices v14)⟩ : api_Price)]) * 24 ≤ 140737488355328 then
      some (.inl ((IntKind.wrap .i64 (v14 + 1)), (v15 ++ [(⟨(nth x0.l v14).ISIN, (nth x0.prices v14)⟩ : api_Price)])))
      else none
      else none
    else
      some (.inl ((IntKind.wrap .i64 (v14 + 1)), v15))
    else none
    else none
  else
    some (.inr v15)
noncomputable def asset_Book_Prices.r0 (x0 : asset_Book) (s : Int × (List api_Price)) : Option ((Int × (List api_Price)) ⊕ (List api_Price)) := asset_Book_Prices.b0 x0 s.1 s.2
noncomputable def asset_Book_Prices.f (x0 : asset_Book) : Option (List api_Price) :=
  (loop (asset_Book_Prices.r0 x0) (0, [])).bind fun o29 =>
  some o29
set_option maxRecDepth 100000 in
set_option maxHeartbeats 4000000 in
theorem asset_Book_Prices.ok {x0 : asset_Book} {r : List api_Price} (h : asset_Book_Prices.f x0 = some r) : Pm.Spec prog 32 [.xbox [.xown 29 5 (List.map api_Asset.enc x0.l), .xown 3 1 (List.map (encI .i64) x0.prices), .imm (.val (.bool x0.made))]] (.xown 82 2 (List.map api_Price.enc r)) [some (.xbox [.xown 29 5 (List.map api_Asset.enc x0.l), .xown 3 1 (List.map (encI .i64) x0.prices), .imm (.val (.bool x0.made))])] := by
 unfold asset_Book_Prices.f at h; refine Pm.Spec.of_body Try.func32 rfl (by kernel_rfl) (Nat.le_of_ble_eq_true rfl) (Nat.le_of_ble_eq_true rfl) ?_; refine W.ghost (σ' := (mkSt [(0, some (.ptr 0 0))] [(0, some (.box [.own 1, .own 2, .b x0.made])), (1, some (.rows 29 5 (List.map api_Asset.enc x0.l) false)), (2, some (.rows 3 1 (List.map (encI .i64) x0.prices) false))] 1000)) (Gives.entry (.c rfl .n) (.c rfl (.c rfl (.c rfl .n)))) ?_; refine W.ghost (σ' := (mkSt [(0, some (.ptr 0 0))] [(0, some (.box [.own 1000, .own 1001, .b x0.made])), (1000, some (.rows 29 5 (List.map api_Asset.enc x0.l) false)), (1001, some (.rows 3 1 (List.map (encI .i64) x0.prices) false))] 1002)) (Gives.mkR [(1000, 1), (1001, 2)] (.r rfl rfl .n) (.e rfl rfl) rfl rfl rfl) ?_; refine W.seq ?_; refine W.pk ?_; refine .a rfl rfl rfl rfl ?_; refine .nil ?_; (iterate 2 refine W.seq ?_); refine W.pk ?_; refine .m rfl rfl rfl rfl ?_; refine .v rfl rfl (OpL.eqP rfl u30 rfl rfl rfl) ?_; refine .nil ?_; refine W.cond rfl (fun q => by cases q) (fun _ => ?_)
 refine W.skip ?_; refine W.seq ?_; refine W.pk ?_; refine .a rfl rfl rfl rfl ?_; refine .nil ?_; (iterate 2 refine W.seq ?_); refine W.pk ?_; refine .m rfl rfl rfl rfl ?_; refine .v rfl rfl (OpL.nilP rfl rfl rfl) ?_; refine .v rfl rfl (O.fld fld71_0 rfl rfl rfl) ?_; refine .v rfl rfl (O.ld (y := .own 1000) ty68 rfl rfl rfl) ?_; refine .v rfl rfl (O.lenO sl68 rfl rfl rfl) ?_; refine .m rfl rfl rfl rfl ?_; refine .nil ?_; refine W.ghost (Gives.mintS 3 82 2 rfl) ?_; obtain ⟨o29, b30, h⟩ := bnd1 h; refine W.fork (mkSt [(3, some (.own 1002))] [(0, some (.box [.own 1000, .own 1001, .b x0.made])), (1000, some (.rows 29 5 (List.map api_Asset.enc x0.l) false)), (1001, some (.rows 3 1 (List.map (encI .i64) x0.prices) false)), (1002, some (.rows 82 2 (List.map api_Price.enc o29) false))] 1003) ?_ ?_
 ·refine W.seq ?_; refine W.pk ?_; refine .m rfl rfl rfl rfl ?_; refine .a rfl rfl rfl rfl ?_; refine .nil ?_; refine W.ret ?_; cases h; exact leaves (.inr rfl) rfl (.own _ _ _ _ rfl) (cS (.ptr _ _ _ _ _ rfl (cC (.own _ _ _ _ rfl) (cC (.own _ _ _ _ rfl) (cC (.imm _) .nil)))) .nil) rfl rfl
 ·clear h; refine W.block ?_; refine W.loopF (fun (s_ : Int × (List api_Price)) => mkSt [(0, some (.ptr 0 0)), (3, some (.own 1002)), (11, some (.own 1000)), (12, some (.i (List.length x0.l : Int))), (13, some (.i s_.1))] [(0, some (.box [.own 1000, .own 1001, .b x0.made])), (1000, some (.rows 29 5 (List.map api_Asset.enc x0.l) false)), (1001, some (.rows 3 1 (List.map (encI .i64) x0.prices) false)), (1002, some (.rows 82 2 (List.map api_Price.enc s_.2) false))] 1003) b30 (Gives.mkR [] (.e rfl rfl) (.e rfl rfl) rfl rfl rfl) ?_; rintro ⟨v14, v15⟩ s_ hr; have h : asset_Book_Prices.b0 x0 v14 v15 = some s_ := hr; unfold asset_Book_Prices.b0 at h; refine W.seq ?_; refine W.pk ?_; refine .v rfl rfl (OpL.binI rfl rfl rfl rfl) ?_; refine .nil ?_; refine W.seq ?_; refine W.cond rfl (fun q32 => ?_) (fun q32 => ?_)
  ·have h := ifT q32 h; refine W.skip ?_; refine W.seq ?_; refine W.block ?_; refine W.seq ?_; obtain ⟨c33, h⟩ := chk h; refine W.pk ?_; refine .m rfl rfl rfl rfl ?_; refine .v rfl rfl (O.idxO sl68 c33 rfl rfl rfl rfl) ?_; refine .v rfl rfl (O.ldEN ty29 c33 rfl rfl rfl rfl rfl) ?_; refine .t rfl rfl (O.alloc z29 rfl) ?_; refine .a rfl rfl rfl rfl ?_; refine .s rfl rfl (O.st ty29 rfl rfl rfl rfl rfl rfl rfl rfl rfl rfl (all' := [.s ((nth x0.l v14).ISIN), .i ((nth x0.l v14).Issuer), .i ((nth x0.l v14).Rating), .i ((nth x0.l v14).Maturity), .s ((nth x0.l v14).Currency)]) rfl) ?_; refine .nil ?_; refine W.seq ?_; obtain ⟨c34, h⟩ := chk h; refine W.pk ?_; refine .m rfl rfl rfl rfl ?_; refine .v rfl rfl (OpL.nilP rfl rfl rfl) ?_; refine .v rfl rfl (O.fld fld71_1 rfl rfl rfl) ?_; refine .v rfl rfl (O.ld (y := .own 1001) ty69 rfl rfl rfl) ?_; refine .m rfl rfl rfl rfl ?_; refine .v rfl rfl (O.idxO sl69 c34 rfl rfl rfl rfl) ?_; refine .v rfl rfl (O.ldE (c := (.val (.int .i64 (nth x0.prices v14)))) ty3 c34 rfl rfl rfl rfl rfl) ?_; refine .v rfl rfl (OpL.binI rfl rfl rfl rfl) ?_; refine .nil ?_; refine W.cond rfl (fun q35 => ?_) (fun q35 => ?_)
   ·have h := ifT q35 h; obtain ⟨c36, h⟩ := chk h; obtain ⟨c37, h⟩ := chk h; refine W.dk (unm 14 [0, 0, 2, 0, 8, 24, 56, 0, 248, 504, 1022, 2046, 4095, 8191]) rfl (by kernel_rfl) ?_; refine .m rfl rfl rfl rfl ?_; refine .v rfl rfl (O.fld fld29_0 rfl rfl rfl) ?_; refine .v rfl rfl (O.ld (y := .s ((nth x0.l v14).ISIN)) ty9 rfl rfl rfl) ?_; refine .m rfl rfl rfl rfl ?_; refine .v rfl rfl (OpL.nilP rfl rfl rfl) ?_; refine .v rfl rfl (O.fld fld71_1 rfl rfl rfl) ?_; refine .v rfl rfl (O.ld (y := .own 1001) ty69 rfl rfl rfl) ?_; refine .m rfl rfl rfl rfl ?_; refine .v rfl rfl (O.idxO sl69 c36 rfl rfl rfl rfl) ?_; refine .v rfl rfl (O.ldE (c := (.val (.int .i64 (nth x0.prices v14)))) ty3 c36 rfl rfl rfl rfl rfl) ?_; refine .v rfl rfl (O.build (out := [.s ((nth x0.l v14).ISIN), .i (nth x0.prices v14)]) bl82 rfl rfl rfl rfl (by kernel_rfl)) ?_; refine .t rfl rfl (O.lit (enc := api_Price.enc) (l := [(⟨(nth x0.l v14).ISIN, (nth x0.prices v14)⟩ : api_Price)]) sl49 rfl rfl rfl rfl rfl rfl rfl rfl rfl) ?_; refine .t rfl rfl (O.appO sl49 api_Price.ok c37 rfl rfl rfl rfl rfl) ?_; refine .a rfl rfl rfl rfl ?_; refine .nil ?_; refine ⟨by kernel_rfl, by kernel_rfl, ?_⟩; refine W.pk ?_; refine .v rfl rfl (OpL.binI rfl rfl rfl rfl) ?_; refine .m rfl rfl rfl rfl ?_; refine .nil ?_; cases h; exact rdN (Gives.mkR [(1002, 1005)] (.e rfl rfl) (.e rfl rfl) rfl rfl rfl)
   ·have h := ifF q35 h; refine W.skip ?_; refine W.pk ?_; refine .v rfl rfl (OpL.binI rfl rfl rfl rfl) ?_; refine .m rfl rfl rfl rfl ?_; refine .nil ?_; cases h; exact rdN (Gives.mkR [] (.e rfl rfl) (.e rfl rfl) rfl rfl rfl)
  ·have h := ifF q32 h; refine W.exit ?_; cases h; refine rdX fun e_ => ?_; subst e_; (repeat with_reducible refine thru ?_); refine hit ?_; exact toN (Gives.mkR [] (.r rfl rfl .n) (.e rfl rfl) rfl rfl rfl)

noncomputable def lombardlaw13_shows.b0 (x1 : List lombardref13_Known) (t1 : List api_Asset) (t3 : List api_Price) (v17 : Int) (v18 : Int) : Option ((Int × Int) ⊕ (Bool ⊕ Int)) :=
  if (decide (v18 < (List.length x1 : Int))) = true then
    if (0 : Int) ≤ v18 ∧ v18 < (List.length t1 : Int) then
    if (0 : Int) ≤ v18 ∧ v18 < (List.length x1 : Int) then
    if (!((((nth t1 v18).ISIN) == (((nth x1 v18).A).ISIN)) && ((((nth t1 v18).Issuer) == (((nth x1 v18).A).Issuer)) && ((((nth t1 v18).Rating) == (((nth x1 v18).A).Rating)) && ((((nth t1 v18).Maturity) == (((nth x1 v18).A).Maturity)) && (((nth t1 v18).Currency) == (((nth x1 v18).A).Currency))))))) = true then
      some (.inr (.inl false))
    else
      if (0 : Int) ≤ v18 ∧ v18 < (List.length x1 : Int) then
      if (decide (((nth x1 v18).Price) > 0)) = true then
        if ((decide (v17 ≥ (List.length t3 : Int))) = false → (0 : Int) ≤ v17 ∧ v17 < (List.length t3 : Int)) then
        if ((decide (v17 ≥ (List.length t3 : Int))) = false → (0 : Int) ≤ v18 ∧ v18 < (List.length x1 : Int)) then
        if ((decide (v17 ≥ (List.length t3 : Int))) = false → (0 : Int) ≤ v18 ∧ v18 < (List.length x1 : Int)) then
        if ((decide (v17 ≥ (List.length t3 : Int))) || (!((((nth t3 v17).ISIN) == (((nth x1 v18).A).ISIN)) && (((nth t3 v17).Price) == ((nth x1 v18).Price))))) = true then
          some (.inr (.inl false))
        else
          some (.inl ((IntKind.wrap .i64 (v17 + 1)), (IntKind.wrap .i64 (v18 + 1))))
        else none
        else none
        else none
      else
        some (.inl (v17, (IntKind.wrap .i64 (v18 + 1))))
      else none
    else none
    else none
  else
    some (.inr (.inr v17))
noncomputable def lombardlaw13_shows.r0 (x1 : List lombardref13_Known) (t1 : List api_Asset) (t3 : List api_Price) (s : Int × Int) : Option ((Int × Int) ⊕ (Bool ⊕ Int)) := lombardlaw13_shows.b0 x1 t1 t3 s.1 s.2
noncomputable def lombardlaw13_shows.f (x0 : asset_Book) (x1 : List lombardref13_Known) : Option (Bool) :=
  (asset_Book_All.f x0).bind fun t1 =>
  (asset_Book_Prices.f x0).bind fun t3 =>
  if ((List.length t1 : Int) != (List.length x1 : Int)) = true then
    some false
  else
    (loop (lombardlaw13_shows.r0 x1 t1 t3) (0, 0)).bind fun o42 =>
    match o42 with
    | .inl r56 => some r56
    | .inr w41 =>
      some (w41 == (List.length t3 : Int))
set_option maxRecDepth 100000 in
set_option maxHeartbeats 4000000 in
theorem lombardlaw13_shows.ok {x0 : asset_Book} {x1 : List lombardref13_Known} {r : Bool} (h : lombardlaw13_shows.f x0 x1 = some r) : Pm.Spec prog 22 [.xbox [.xown 29 5 (List.map api_Asset.enc x0.l), .xown 3 1 (List.map (encI .i64) x0.prices), .imm (.val (.bool x0.made))], .xown 46 6 (List.map lombardref13_Known.enc x1)] (.imm (.val (.bool r))) [some (.xbox [.xown 29 5 (List.map api_Asset.enc x0.l), .xown 3 1 (List.map (encI .i64) x0.prices), .imm (.val (.bool x0.made))]), some (.xown 46 6 (List.map lombardref13_Known.enc x1))] := by
 unfold lombardlaw13_shows.f at h; refine Pm.Spec.of_body Try.func22 rfl (by kernel_rfl) (Nat.le_of_ble_eq_true rfl) (Nat.le_of_ble_eq_true rfl) ?_; refine W.ghost (σ' := (mkSt [(0, some (.ptr 0 0)), (1, some (.own 3))] [(0, some (.box [.own 1, .own 2, .b x0.made])), (1, some (.rows 29 5 (List.map api_Asset.enc x0.l) false)), (2, some (.rows 3 1 (List.map (encI .i64) x0.prices) false)), (3, some (.rows 46 6 (List.map lombardref13_Known.enc x1) false))] 1000)) (Gives.entry (.c rfl (.c rfl .n)) (.c rfl (.c rfl (.c rfl (.c rfl .n))))) ?_; refine W.ghost (σ' := (mkSt [(0, some (.ptr 0 0)), (1, some (.own 3))] [(0, some (.box [.own 1000, .own 1001, .b x0.made])), (3, some (.rows 46 6 (List.map lombardref13_Known.enc x1) false)), (1000, some (.rows 29 5 (List.map api_Asset.enc x0.l) false)), (1001, some (.rows 3 1 (List.map (encI .i64) x0.prices) false))] 1002)) (Gives.mkR [(1000, 1), (1001, 2)] (.e rfl rfl) (.e rfl rfl) rfl rfl rfl) ?_; refine W.seq ?_; refine W.pk ?_; refine .a rfl rfl rfl rfl ?_; refine .nil ?_; refine W.seq ?_; obtain ⟨t1, b2, h⟩ := bnd1 h; obtain ⟨t3, b4, h⟩ := bnd1 h; refine W.pk ?_; refine .m rfl rfl rfl rfl ?_; refine .call (.own 1002) [(1002, some (.rows 29 5 (List.map api_Asset.enc t1) false)), (0, some (.box [.own 1003, .own 1004, .b x0.made])), (1003, some (.rows 29 5 (List.map api_Asset.enc x0.l) false)), (1004, some (.rows 3 1 (List.map (encI .i64) x0.prices) false)), (0, none), (1000, none), (1001, none)] 3 (asset_Book_All.ok b2) rfl rfl rfl ca31 rfl rfl (cC (.ptr _ _ _ _ _ rfl (cC (.own _ _ _ _ rfl) (cC (.own _ _ _ _ rfl) (cC (.imm _) .nil)))) .nil) rfl rfl rfl rfl rfl ?_; refine .m rfl rfl rfl rfl ?_; refine .call (.own 1005) [(1005, some (.rows 82 2 (List.map api_Price.enc t3) false)), (0, some (.box [.own 1006, .own 1007, .b x0.made])), (1006, some (.rows 29 5 (List.map api_Asset.enc x0.l) false)), (1007, some (.rows 3 1 (List.map (encI .i64) x0.prices) false)), (0, none), (1003, none), (1004, none)] 3 (asset_Book_Prices.ok b4) rfl rfl rfl ca32 rfl rfl (cC (.ptr _ _ _ _ _ rfl (cC (.own _ _ _ _ rfl) (cC (.own _ _ _ _ rfl) (cC (.imm _) .nil)))) .nil) rfl rfl rfl rfl rfl ?_; (iterate 2 refine .a rfl rfl rfl rfl ?_); refine .nil ?_; (iterate 2 refine W.seq ?_); refine W.pk ?_; refine .m rfl rfl rfl rfl ?_; refine .v rfl rfl (O.lenO sl68 rfl rfl rfl) ?_; refine .m rfl rfl rfl rfl ?_; refine .v rfl rfl (O.lenO sl31 rfl rfl rfl) ?_; refine .v rfl rfl (OpL.binI rfl rfl rfl rfl) ?_; refine .nil ?_; refine W.cond rfl (fun q5 => ?_) (fun q5 => ?_)
 ·have h := ifT q5 h; refine W.seq ?_; refine W.pk ?_; refine .a rfl rfl rfl rfl ?_; refine .nil ?_; refine W.ret ?_; cases h; exact leaves (.inr rfl) rfl (.imm _) (cS (.ptr _ _ _ _ _ rfl (cC (.own _ _ _ _ rfl) (cC (.own _ _ _ _ rfl) (cC (.imm _) .nil)))) (cS (.own _ _ _ _ rfl) .nil)) rfl rfl
 ·have h := ifF q5 h; refine W.skip ?_; refine W.seq ?_; refine W.pk ?_; refine .a rfl rfl rfl rfl ?_; refine .nil ?_; (iterate 2 refine W.seq ?_); refine W.pk ?_; refine .a rfl rfl rfl rfl ?_; refine .nil ?_; obtain ⟨o42, b43, z44⟩ := bnd1 h; refine W.fork2 (out := o42) (fun (w41 : Int) => mkSt [(6, some (.own 1005)), (7, some (.i w41))] [(0, some (.box [.own 1006, .own 1007, .b x0.made])), (3, some (.rows 46 6 (List.map lombardref13_Known.enc x1) false)), (1005, some (.rows 82 2 (List.map api_Price.enc t3) false)), (1006, some (.rows 29 5 (List.map api_Asset.enc x0.l) false)), (1007, some (.rows 3 1 (List.map (encI .i64) x0.prices) false))] 1008) ?_ ?_
  ·clear h; refine W.block ?_; refine W.loopF (fun (s_ : Int × Int) => mkSt [(1, some (.own 3)), (5, some (.own 1002)), (6, some (.own 1005)), (7, some (.i s_.1)), (8, some (.i s_.2))] [(0, some (.box [.own 1006, .own 1007, .b x0.made])), (3, some (.rows 46 6 (List.map lombardref13_Known.enc x1) false)), (1002, some (.rows 29 5 (List.map api_Asset.enc t1) false)), (1005, some (.rows 82 2 (List.map api_Price.enc t3) false)), (1006, some (.rows 29 5 (List.map api_Asset.enc x0.l) false)), (1007, some (.rows 3 1 (List.map (encI .i64) x0.prices) false))] 1008) b43 (Gives.mkR [] (.e rfl rfl) (.e rfl rfl) rfl rfl rfl) ?_; rintro ⟨v17, v18⟩ s_ hr; have h : lombardlaw13_shows.b0 x1 t1 t3 v17 v18 = some s_ := hr; unfold lombardlaw13_shows.b0 at h; (iterate 2 refine W.seq ?_); refine W.pk ?_; (iterate 2 refine .m rfl rfl rfl rfl ?_); refine .v rfl rfl (O.lenO sl31 rfl rfl rfl) ?_; refine .v rfl rfl (OpL.binI rfl rfl rfl rfl) ?_; refine .nil ?_; refine W.cond rfl (fun q45 => ?_) (fun q45 => ?_)
   ·have h := ifT q45 h; refine W.skip ?_; refine W.seq ?_; refine W.block ?_; (iterate 2 refine W.seq ?_); obtain ⟨c46, h⟩ := chk h; obtain ⟨c47, h⟩ := chk h; refine W.dk (unm 10 [0, 0, 3, 7, 0, 0, 48, 112, 240, 511]) rfl (by kernel_rfl) ?_; (iterate 2 refine .m rfl rfl rfl rfl ?_); refine .v rfl rfl (O.idxO sl68 c46 rfl rfl rfl rfl) ?_; refine .v rfl rfl (O.ldEN ty29 c46 rfl rfl rfl rfl rfl) ?_; (iterate 2 refine .m rfl rfl rfl rfl ?_); refine .v rfl rfl (O.idxO sl31 c47 rfl rfl rfl rfl) ?_; refine .v rfl rfl (O.fld fld46_0 rfl rfl rfl) ?_; refine .v rfl rfl (O.ldEN ty29 c47 rfl rfl rfl rfl rfl) ?_; refine .v rfl rfl (O.neS (r := ((((nth t1 v18).ISIN) == (((nth x1 v18).A).ISIN)) && ((((nth t1 v18).Issuer) == (((nth x1 v18).A).Issuer)) && ((((nth t1 v18).Rating) == (((nth x1 v18).A).Rating)) && ((((nth t1 v18).Maturity) == (((nth x1 v18).A).Maturity)) && (((nth t1 v18).Currency) == (((nth x1 v18).A).Currency))))))) fl29 rfl rfl rfl rfl rfl rfl) ?_; refine .nil ?_; refine ⟨by kernel_rfl, by kernel_rfl, ?_⟩; refine W.cond rfl (fun q48 => ?_) (fun q48 => ?_)
    ·have h := ifT q48 h; refine W.seq ?_; refine W.pk ?_; refine .a rfl rfl rfl rfl ?_; refine .nil ?_; refine W.ret ?_; cases h; refine rdR fun e_ => ?_; subst e_; have h := z44; dsimp only at h; refine fkR ?_; cases h; exact leaves (.inr rfl) rfl (.imm _) (cS (.ptr _ _ _ _ _ rfl (cC (.own _ _ _ _ rfl) (cC (.own _ _ _ _ rfl) (cC (.imm _) .nil)))) (cS (.own _ _ _ _ rfl) .nil)) rfl rfl
    ·have h := ifF q48 h; refine W.skip ?_; refine W.seq ?_; obtain ⟨c49, h⟩ := chk h; refine W.pk ?_; (iterate 2 refine .m rfl rfl rfl rfl ?_); refine .v rfl rfl (O.idxO sl31 c49 rfl rfl rfl rfl) ?_; refine .v rfl rfl (O.fld fld46_1 rfl rfl rfl) ?_; refine .v rfl rfl (O.ldE (c := (.val (.int .i64 ((nth x1 v18).Price)))) ty3 c49 rfl rfl rfl rfl rfl) ?_; refine .v rfl rfl (OpL.binI rfl rfl rfl rfl) ?_; refine .nil ?_; refine W.cond rfl (fun q50 => ?_) (fun q50 => ?_)
     ·have h := ifT q50 h; (iterate 2 refine W.seq ?_); obtain ⟨c51, h⟩ := chk h; obtain ⟨c52, h⟩ := chk h; obtain ⟨c53, h⟩ := chk h; refine W.fork (mkSt [(1, some (.own 3)), (5, some (.own 1002)), (6, some (.own 1005)), (7, some (.i v17)), (8, some (.i v18)), (62, some (.b ((decide (v17 ≥ (List.length t3 : Int))) || (!((((nth t3 v17).ISIN) == (((nth x1 v18).A).ISIN)) && (((nth t3 v17).Price) == ((nth x1 v18).Price)))))))] [(0, some (.box [.own 1006, .own 1007, .b x0.made])), (3, some (.rows 46 6 (List.map lombardref13_Known.enc x1) false)), (1002, some (.rows 29 5 (List.map api_Asset.enc t1) false)), (1005, some (.rows 82 2 (List.map api_Price.enc t3) false)), (1006, some (.rows 29 5 (List.map api_Asset.enc x0.l) false)), (1007, some (.rows 3 1 (List.map (encI .i64) x0.prices) false))] 1008) ?_ ?_
      ·refine W.cond rfl (fun q55 => ?_) (fun q55 => ?_)
       ·have h := ifT q55 h; refine W.seq ?_; refine W.pk ?_; refine .a rfl rfl rfl rfl ?_; refine .nil ?_; refine W.ret ?_; cases h; refine rdR fun e_ => ?_; subst e_; have h := z44; dsimp only at h; refine fkR ?_; cases h; exact leaves (.inr rfl) rfl (.imm _) (cS (.ptr _ _ _ _ _ rfl (cC (.own _ _ _ _ rfl) (cC (.own _ _ _ _ rfl) (cC (.imm _) .nil)))) (cS (.own _ _ _ _ rfl) .nil)) rfl rfl
       ·have h := ifF q55 h; refine W.skip ?_; refine W.pk ?_; refine .m rfl rfl rfl rfl ?_; refine .v rfl rfl (OpL.binI rfl rfl rfl rfl) ?_; refine .a rfl rfl rfl rfl ?_; refine .nil ?_; refine W.pk ?_; refine .m rfl rfl rfl rfl ?_; refine .v rfl rfl (OpL.binI rfl rfl rfl rfl) ?_; refine .a rfl rfl rfl rfl ?_; refine .nil ?_; cases h; exact rdN (Gives.mkR [] (.e rfl rfl) (.e rfl rfl) rfl rfl rfl)
      ·clear h; refine W.dk (unm 23 [0, 0, 2, 7, 15, 31, 31, 127, 255, 31, 31, 1567, 3615, 7711, 15903, 31, 31, 98335, 229407, 491551, 1048095, 2097151, 4194303]) rfl (by kernel_rfl) ?_; (iterate 2 refine .m rfl rfl rfl rfl ?_); refine .v rfl rfl (O.lenO sl49 rfl rfl rfl) ?_; refine .v rfl rfl (OpL.binI rfl rfl rfl rfl) ?_; refine .m rfl rfl rfl rfl ?_; rcases tf (decide (v17 ≥ (List.length t3 : Int))) with g54 | g54
       ·(iterate 17 refine .x rfl (unmet rfl rfl rfl g54) ?_); refine .v rfl rfl (O.pickT g54 rfl rfl rfl) ?_; refine .nil ?_; refine ⟨by kernel_rfl, by kernel_rfl, ?_⟩; exact toN (Gives.mkR [] (.r rfl rfl (.r rfl rfl (.r rfl rfl (.r rfl rfl (.r rfl rfl (.c rfl (sbb (by simp only [g54, BL])) rfl .n)))))) (.e rfl rfl) rfl rfl rfl)
       ·(iterate 2 refine .m rfl (met rfl rfl rfl g54) rfl rfl ?_); refine .v rfl (met rfl rfl rfl g54) (O.idxO sl49 (c51 (by simp only [g54, BL])) rfl rfl rfl rfl) ?_; refine .v rfl (met rfl rfl rfl g54) (O.ldEN ty82 (c51 (by simp only [g54, BL])) rfl rfl rfl rfl rfl) ?_; (iterate 2 refine .m rfl (met rfl rfl rfl g54) rfl rfl ?_); refine .v rfl (met rfl rfl rfl g54) (O.idxO sl31 (c52 (by simp only [g54, BL])) rfl rfl rfl rfl) ?_; refine .v rfl (met rfl rfl rfl g54) (O.fld fld46_0 rfl rfl rfl) ?_; refine .v rfl (met rfl rfl rfl g54) (O.fld fld29_0 rfl rfl rfl) ?_; refine .v rfl (met rfl rfl rfl g54) (O.ldE (c := (.val (.string (tx (((nth x1 v18).A).ISIN))))) ty9 (c52 (by simp only [g54, BL])) rfl rfl rfl rfl rfl) ?_; (iterate 2 refine .m rfl (met rfl rfl rfl g54) rfl rfl ?_); refine .v rfl (met rfl rfl rfl g54) (O.idxO sl31 (c53 (by simp only [g54, BL])) rfl rfl rfl rfl) ?_; refine .v rfl (met rfl rfl rfl g54) (O.fld fld46_1 rfl rfl rfl) ?_; refine .v rfl (met rfl rfl rfl g54) (O.ldE (c := (.val (.int .i64 ((nth x1 v18).Price)))) ty3 (c53 (by simp only [g54, BL])) rfl rfl rfl rfl rfl) ?_; refine .v rfl (met rfl rfl rfl g54) (O.build (out := [.s (((nth x1 v18).A).ISIN), .i ((nth x1 v18).Price)]) bl82 rfl rfl rfl rfl (by kernel_rfl)) ?_; refine .v rfl (met rfl rfl rfl g54) (O.neS (r := ((((nth t3 v17).ISIN) == (((nth x1 v18).A).ISIN)) && (((nth t3 v17).Price) == ((nth x1 v18).Price)))) fl82 rfl rfl rfl rfl rfl rfl) ?_; refine .v rfl rfl (O.pickF g54 rfl rfl rfl) ?_; refine .nil ?_; refine ⟨by kernel_rfl, by kernel_rfl, ?_⟩; exact toN (Gives.mkR [] (.r rfl rfl (.r rfl rfl (.r rfl rfl (.r rfl rfl (.r rfl rfl (.c rfl (sbb (by simp only [g54, BL])) rfl .n)))))) (.e rfl rfl) rfl rfl rfl)
     ·have h := ifF q50 h; refine W.skip ?_; refine W.pk ?_; refine .m rfl rfl rfl rfl ?_; refine .v rfl rfl (OpL.binI rfl rfl rfl rfl) ?_; refine .a rfl rfl rfl rfl ?_; refine .nil ?_; cases h; exact rdN (Gives.mkR [] (.e rfl rfl) (.e rfl rfl) rfl rfl rfl)
   ·have h := ifF q45 h; refine W.exit ?_; cases h; refine rdX fun e_ => ?_; subst e_; (repeat with_reducible refine thru ?_); refine hit ?_; exact fkN (Gives.mkR [] (.e rfl rfl) (.e rfl rfl) rfl rfl rfl)
  ·intro w41 e_; subst e_; clear h; have h := z44; dsimp only at h; refine W.seq ?_; refine W.pk ?_; (iterate 2 refine .m rfl rfl rfl rfl ?_); refine .v rfl rfl (O.lenO sl49 rfl rfl rfl) ?_; refine .v rfl rfl (OpL.binI rfl rfl rfl rfl) ?_; refine .a rfl rfl rfl rfl ?_; refine .nil ?_; refine W.ret ?_; cases h; exact leaves (.inr rfl) rfl (.imm _) (cS (.ptr _ _ _ _ _ rfl (cC (.own _ _ _ _ rfl) (cC (.own _ _ _ _ rfl) (cC (.imm _) .nil)))) (cS (.own _ _ _ _ rfl) .nil)) rfl rfl

noncomputable def asset_Book_Set_v2.f (x1 : List api_Price) : Option (Int × Int) :=
  some (0, 3)
set_option maxRecDepth 100000 in
set_option maxHeartbeats 4000000 in
theorem asset_Book_Set_v2.ok {x1 : List api_Price} {r : Int × Int} (h : asset_Book_Set_v2.f x1 = some r) : Pm.Spec prog 30 [.imm (.val (.pointer none)), .imm (.row 2 (List.map api_Price.enc x1))] (.tup [.imm (.val (.int .i64 r.1)), .imm (.val (.int .i64 r.2))]) [none, none] := by
 unfold asset_Book_Set_v2.f at h; refine Pm.Spec.of_body Try.func30 rfl (by kernel_rfl) (Nat.le_of_ble_eq_true rfl) (Nat.le_of_ble_eq_true rfl) ?_; refine W.ghost (σ' := (mkSt [(0, some (.imm (.val (.pointer none)))), (1, some (.imm (.row 2 (List.map api_Price.enc x1))))] [] 1000)) (Gives.entry (.c rfl (.c rfl .n)) .n) ?_; refine W.seq ?_; refine W.pk ?_; (iterate 2 refine .a rfl rfl rfl rfl ?_); refine .nil ?_; (iterate 2 refine W.seq ?_); refine W.pk ?_; refine .m rfl rfl rfl rfl ?_; refine .v rfl rfl (O.eqPnn rfl u30 rfl rfl) ?_; refine .m rfl rfl rfl rfl ?_; (iterate 5 refine .x rfl (unmet rfl rfl rfl rfl) ?_); refine .v rfl rfl (O.pickT rfl rfl rfl rfl) ?_; refine .nil ?_; refine W.cond rfl (fun _ => ?_) (fun q => by cases q)
 refine W.seq ?_; refine W.pk ?_; (iterate 2 refine .a rfl rfl rfl rfl ?_); refine .nil ?_; refine W.ret ?_; cases h; exact leaves (.inr rfl) rfl (.tup _ _ _ _ (cC (.imm _) (cC (.imm _) .nil))) (cN (cN .nil)) rfl rfl

noncomputable def asset_Book_Value.f (x1 : api_Lot) : Option (Int × Int) :=
  some (0, 3)
set_option maxRecDepth 100000 in
set_option maxHeartbeats 4000000 in
theorem asset_Book_Value.ok {x1 : api_Lot} {r : Int × Int} (h : asset_Book_Value.f x1 = some r) : Pm.Spec prog 26 [.imm (.val (.pointer none)), .agg [.imm (.val (.string (tx x1.ISIN))), .imm (.val (.int .i64 x1.Qty))]] (.tup [.imm (.val (.int .i64 r.1)), .imm (.val (.int .i64 r.2))]) [none, none] := by
 unfold asset_Book_Value.f at h; refine Pm.Spec.of_body Try.func26 rfl (by kernel_rfl) (Nat.le_of_ble_eq_true rfl) (Nat.le_of_ble_eq_true rfl) ?_; refine W.ghost (σ' := (mkSt [(0, some (.imm (.val (.pointer none)))), (1, some (.agg [.s x1.ISIN, .i x1.Qty]))] [] 1000)) (Gives.entry (.c rfl (.c rfl .n)) .n) ?_; refine W.seq ?_; refine W.pk ?_; refine .t rfl rfl (O.box rfl rfl rfl rfl rfl) ?_; (iterate 2 refine .a rfl rfl rfl rfl ?_); refine .nil ?_; (iterate 2 refine W.seq ?_); refine W.pk ?_; refine .m rfl rfl rfl rfl ?_; refine .v rfl rfl (O.eqPnn rfl u30 rfl rfl) ?_; refine .m rfl rfl rfl rfl ?_; (iterate 5 refine .x rfl (unmet rfl rfl rfl rfl) ?_); refine .v rfl rfl (O.pickT rfl rfl rfl rfl) ?_; refine .nil ?_; refine W.cond rfl (fun _ => ?_) (fun q => by cases q)
 refine W.seq ?_; refine W.pk ?_; (iterate 2 refine .a rfl rfl rfl rfl ?_); refine .nil ?_; refine W.ret ?_; cases h; exact leaves (.inr rfl) rfl (.tup _ _ _ _ (cC (.imm _) (cC (.imm _) .nil))) (cN (cN .nil)) rfl rfl

noncomputable def asset_Book_Get.f (x1 : Bs) : Option (api_Asset × Bool) :=
  some ((⟨[], 0, 0, 0, []⟩ : api_Asset), false)
set_option maxRecDepth 100000 in
set_option maxHeartbeats 4000000 in
theorem asset_Book_Get.ok {x1 : Bs} {r : api_Asset × Bool} (h : asset_Book_Get.f x1 = some r) : Pm.Spec prog 18 [.imm (.val (.pointer none)), .imm (.val (.string (tx x1)))] (.tup [.agg [.imm (.val (.string (tx r.1.ISIN))), .imm (.val (.int .i64 r.1.Issuer)), .imm (.val (.int .i64 r.1.Rating)), .imm (.val (.int .i64 r.1.Maturity)), .imm (.val (.string (tx r.1.Currency)))], .imm (.val (.bool r.2))]) [none, none] := by
 unfold asset_Book_Get.f at h; refine Pm.Spec.of_body Try.func18 rfl (by kernel_rfl) (Nat.le_of_ble_eq_true rfl) (Nat.le_of_ble_eq_true rfl) ?_; refine W.ghost (σ' := (mkSt [(0, some (.imm (.val (.pointer none)))), (1, some (.s x1))] [] 1000)) (Gives.entry (.c rfl (.c rfl .n)) .n) ?_; refine W.seq ?_; refine W.pk ?_; refine .t rfl rfl (O.alloc z29 rfl) ?_; refine .a rfl rfl rfl rfl ?_; refine .nil ?_; (iterate 2 refine W.seq ?_); refine W.pk ?_; refine .m rfl rfl rfl rfl ?_; refine .v rfl rfl (O.eqPnn rfl u30 rfl rfl) ?_; refine .nil ?_; refine W.cond rfl (fun _ => ?_) (fun q => by cases q)
 refine W.seq ?_; refine W.pk ?_; refine .v rfl rfl (O.build (out := [.s [], .i 0, .i 0, .i 0, .s []]) bl29 rfl rfl rfl rfl (by kernel_rfl)) ?_; refine .s rfl rfl (O.st ty29 rfl rfl rfl rfl rfl rfl rfl rfl rfl rfl (all' := [.s [], .i 0, .i 0, .i 0, .s []]) rfl) ?_; refine .a rfl rfl rfl rfl ?_; refine .nil ?_; refine W.ret ?_; cases h; exact leaves (.inr rfl) rfl (.tup _ _ _ _ (cC (.agg _ _ _ _ (cC (.imm _) (cC (.imm _) (cC (.imm _) (cC (.imm _) (cC (.imm _) .nil)))))) (cC (.imm _) .nil))) (cN (cN .nil)) rfl rfl

noncomputable def asset_Book_Add_v2.f (x1 : api_Asset) : Option (Int) :=
  some 3
set_option maxRecDepth 100000 in
set_option maxHeartbeats 4000000 in
theorem asset_Book_Add_v2.ok {x1 : api_Asset} {r : Int} (h : asset_Book_Add_v2.f x1 = some r) : Pm.Spec prog 29 [.imm (.val (.pointer none)), .agg [.imm (.val (.string (tx x1.ISIN))), .imm (.val (.int .i64 x1.Issuer)), .imm (.val (.int .i64 x1.Rating)), .imm (.val (.int .i64 x1.Maturity)), .imm (.val (.string (tx x1.Currency)))]] (.imm (.val (.int .i64 r))) [none, none] := by
 unfold asset_Book_Add_v2.f at h; refine Pm.Spec.of_body Try.func29 rfl (by kernel_rfl) (Nat.le_of_ble_eq_true rfl) (Nat.le_of_ble_eq_true rfl) ?_; refine W.ghost (σ' := (mkSt [(0, some (.imm (.val (.pointer none)))), (1, some (.agg (api_Asset.av x1)))] [] 1000)) (Gives.entry (.c rfl (.c rfl .n)) .n) ?_; refine W.seq ?_; refine W.pk ?_; refine .t rfl rfl (O.box rfl rfl rfl rfl rfl) ?_; refine .a rfl rfl rfl rfl ?_; refine .nil ?_; (iterate 2 refine W.seq ?_); refine W.pk ?_; refine .m rfl rfl rfl rfl ?_; refine .v rfl rfl (O.eqPnn rfl u30 rfl rfl) ?_; refine .m rfl rfl rfl rfl ?_; (iterate 5 refine .x rfl (unmet rfl rfl rfl rfl) ?_); refine .v rfl rfl (O.pickT rfl rfl rfl rfl) ?_; refine .nil ?_; refine W.cond rfl (fun _ => ?_) (fun q => by cases q)
 refine W.seq ?_; refine W.pk ?_; refine .a rfl rfl rfl rfl ?_; refine .nil ?_; refine W.ret ?_; cases h; exact leaves (.inr rfl) rfl (.imm _) (cN (cN .nil)) rfl rfl

noncomputable def asset_Book_All_v2.f  : Option (List api_Asset) :=
  some []
set_option maxRecDepth 100000 in
set_option maxHeartbeats 4000000 in
theorem asset_Book_All_v2.ok  {r : List api_Asset} (h : asset_Book_All_v2.f  = some r) : Pm.Spec prog 31 [.imm (.val (.pointer none))] (.imm (.row 5 (List.map api_Asset.enc r))) [none] := by
 unfold asset_Book_All_v2.f at h; refine Pm.Spec.of_body Try.func31 rfl (by kernel_rfl) (Nat.le_of_ble_eq_true rfl) (Nat.le_of_ble_eq_true rfl) ?_; refine W.ghost (σ' := (mkSt [(0, some (.imm (.val (.pointer none))))] [] 1000)) (Gives.entry (.c rfl .n) .n) ?_; refine W.seq ?_; refine W.pk ?_; refine .a rfl rfl rfl rfl ?_; refine .nil ?_; (iterate 2 refine W.seq ?_); refine W.pk ?_; refine .m rfl rfl rfl rfl ?_; refine .v rfl rfl (O.eqPnn rfl u30 rfl rfl) ?_; refine .nil ?_; refine W.cond rfl (fun _ => ?_) (fun q => by cases q)
 refine W.seq ?_; refine W.pk ?_; refine .a rfl rfl rfl rfl ?_; refine .nil ?_; refine W.ret ?_; cases h; exact leaves (.inr rfl) rfl (.nilrow _) (cN .nil) rfl rfl

noncomputable def asset_Book_Prices_v2.f  : Option (List api_Price) :=
  some []
set_option maxRecDepth 100000 in
set_option maxHeartbeats 4000000 in
theorem asset_Book_Prices_v2.ok  {r : List api_Price} (h : asset_Book_Prices_v2.f  = some r) : Pm.Spec prog 32 [.imm (.val (.pointer none))] (.imm (.row 2 (List.map api_Price.enc r))) [none] := by
 unfold asset_Book_Prices_v2.f at h; refine Pm.Spec.of_body Try.func32 rfl (by kernel_rfl) (Nat.le_of_ble_eq_true rfl) (Nat.le_of_ble_eq_true rfl) ?_; refine W.ghost (σ' := (mkSt [(0, some (.imm (.val (.pointer none))))] [] 1000)) (Gives.entry (.c rfl .n) .n) ?_; refine W.seq ?_; refine W.pk ?_; refine .a rfl rfl rfl rfl ?_; refine .nil ?_; (iterate 2 refine W.seq ?_); refine W.pk ?_; refine .m rfl rfl rfl rfl ?_; refine .v rfl rfl (O.eqPnn rfl u30 rfl rfl) ?_; refine .nil ?_; refine W.cond rfl (fun _ => ?_) (fun q => by cases q)
 refine W.seq ?_; refine W.pk ?_; refine .a rfl rfl rfl rfl ?_; refine .nil ?_; refine W.ret ?_; cases h; exact leaves (.inr rfl) rfl (.nilrow _) (cN .nil) rfl rfl

noncomputable def asset_Book_Ending.f (x1 : Int) : Option (List Bs) :=
  some []
set_option maxRecDepth 100000 in
set_option maxHeartbeats 4000000 in
theorem asset_Book_Ending.ok {x1 : Int} {r : List Bs} (h : asset_Book_Ending.f x1 = some r) : Pm.Spec prog 15 [.imm (.val (.pointer none)), .imm (.val (.int .i64 x1))] (.imm (.row 1 (List.map encS r))) [none, none] := by
 unfold asset_Book_Ending.f at h; refine Pm.Spec.of_body Try.func15 rfl (by kernel_rfl) (Nat.le_of_ble_eq_true rfl) (Nat.le_of_ble_eq_true rfl) ?_; refine W.ghost (σ' := (mkSt [(0, some (.imm (.val (.pointer none)))), (1, some (.i x1))] [] 1000)) (Gives.entry (.c rfl (.c rfl .n)) .n) ?_; refine W.seq ?_; refine W.pk ?_; refine .a rfl rfl rfl rfl ?_; refine .nil ?_; (iterate 2 refine W.seq ?_); refine W.pk ?_; refine .m rfl rfl rfl rfl ?_; refine .v rfl rfl (O.eqPnn rfl u30 rfl rfl) ?_; refine .nil ?_; refine W.cond rfl (fun _ => ?_) (fun q => by cases q)
 refine W.seq ?_; refine W.pk ?_; refine .a rfl rfl rfl rfl ?_; refine .nil ?_; refine W.ret ?_; cases h; exact leaves (.inr rfl) rfl (.nilrow _) (cN (cN .nil)) rfl rfl

set_option maxRecDepth 100000 in
set_option maxHeartbeats 4000000 in
theorem slices_BinarySearchFunc_string__asset_Book_place_1_v2.ok {x0 : List api_Asset} {x1 : Bs} {r : Int × Bool} (h : slices_BinarySearchFunc_string__asset_Book_place_1.f x0 x1 = some r) : Pm.Spec prog 50 [.imm (.row 5 (List.map api_Asset.enc x0)), .imm (.val (.string (tx x1))), .fn 51 []] (.tup [.imm (.val (.int .i64 r.1)), .imm (.val (.bool r.2))]) [none, none, none] := by
 unfold slices_BinarySearchFunc_string__asset_Book_place_1.f at h; refine Pm.Spec.of_body Try.func50 rfl (by kernel_rfl) (Nat.le_of_ble_eq_true rfl) (Nat.le_of_ble_eq_true rfl) ?_; refine W.ghost (σ' := (mkSt [(0, some (.imm (.row 5 (List.map api_Asset.enc x0)))), (1, some (.s x1)), (2, some (.fn 51 []))] [] 1000)) (Gives.entry (.c rfl (.c rfl (.c rfl .n))) .n) ?_; refine W.seq ?_; refine W.pk ?_; (iterate 2 refine .a rfl rfl rfl rfl ?_); refine .nil ?_; refine W.seq ?_; refine W.pk ?_; refine .m rfl rfl rfl rfl ?_; refine .v rfl rfl (O.lenR sl68 rfl rfl) ?_; refine .a rfl rfl rfl rfl ?_; refine .nil ?_; refine W.seq ?_; refine W.pk ?_; refine .m rfl rfl rfl rfl ?_; (iterate 2 refine .a rfl rfl rfl rfl ?_); refine .nil ?_; refine W.seq ?_; obtain ⟨o19, b20, h⟩ := bnd1 h; refine W.fork (mkSt [(0, some (.imm (.row 5 (List.map api_Asset.enc x0)))), (1, some (.s x1)), (2, some (.fn 51 [])), (8, some (.i (List.length x0 : Int))), (9, some (.i o19))] [] 1000) ?_ ?_
 ·refine W.seq ?_; obtain ⟨c27, h⟩ := chk h; obtain ⟨t28, b29, h⟩ := bnd1 h; refine W.fork (mkSt [(6, some (.i o19)), (7, some (.b ((decide (o19 < (List.length x0 : Int))) && (t28 == 0))))] [] 1000) ?_ ?_
  ·refine W.ret ?_; cases h; exact leaves (.inr rfl) rfl (.tup _ _ _ _ (cC (.imm _) (cC (.imm _) .nil))) (cN (cN (cN .nil))) rfl rfl
  ·clear h; refine W.pk ?_; (iterate 3 refine .m rfl rfl rfl rfl ?_); refine .v rfl rfl (OpL.binI rfl rfl rfl rfl) ?_; refine .m rfl rfl rfl rfl ?_; rcases tf (decide (o19 < (List.length x0 : Int))) with g30 | g30
   ·(iterate 3 refine .m rfl (met rfl rfl rfl g30) rfl rfl ?_); refine .v rfl (met rfl rfl rfl g30) (O.idx sl68 (c27 (by simp only [g30, BL])) rfl rfl rfl) ?_; refine .v rfl (met rfl rfl rfl g30) (O.ldN ty29 rfl rfl rfl) ?_; refine .m rfl (met rfl rfl rfl g30) rfl rfl ?_; refine .call (.i t28) [] 0 (asset_Book_place_1_v2.ok ((if_pos (by simp only [g30, BL])).symm.trans b29)) rfl (met rfl rfl rfl g30) rfl ca51 rfl rfl (cC (.agg _ _ _ _ (cC (.imm _) (cC (.imm _) (cC (.imm _) (cC (.imm _) (cC (.imm _) .nil)))))) (cC (.imm _) .nil)) rfl rfl rfl rfl rfl ?_; refine .v rfl (met rfl rfl rfl g30) (OpL.binI rfl rfl rfl rfl) ?_; refine .v rfl rfl (O.pickT g30 rfl rfl rfl) ?_; (iterate 2 refine .a rfl rfl rfl rfl ?_); refine .nil ?_; exact toN (Gives.mkR [] (.r rfl rfl (.c rfl (sbb (by simp only [g30, BL])) rfl .n)) .n rfl rfl rfl)
   ·(iterate 8 refine .x rfl (unmet rfl rfl rfl g30) ?_); refine .v rfl rfl (O.pickF g30 rfl rfl rfl) ?_; (iterate 2 refine .a rfl rfl rfl rfl ?_); refine .nil ?_; exact toN (Gives.mkR [] (.r rfl rfl (.c rfl (sbb (by simp only [g30, BL])) rfl .n)) .n rfl rfl rfl)
 ·clear h; refine W.block ?_; refine W.loopF (fun (s_ : Int × Int) => mkSt [(0, some (.imm (.row 5 (List.map api_Asset.enc x0)))), (1, some (.s x1)), (2, some (.fn 51 [])), (8, some (.i (List.length x0 : Int))), (9, some (.i s_.1)), (10, some (.i s_.2))] [] 1000) b20 (Gives.mkR [] (.e rfl rfl) .n rfl rfl rfl) ?_; rintro ⟨v6, v7⟩ s_ hr; have h : slices_BinarySearchFunc_string__asset_Book_place_1.b0 x0 x1 v6 v7 = some s_ := hr; unfold slices_BinarySearchFunc_string__asset_Book_place_1.b0 at h; (iterate 2 refine W.seq ?_); refine W.pk ?_; (iterate 2 refine .m rfl rfl rfl rfl ?_); refine .v rfl rfl (OpL.binI rfl rfl rfl rfl) ?_; refine .nil ?_; refine W.cond rfl (fun q22 => ?_) (fun q22 => ?_)
  ·have h := ifT q22 h; refine W.skip ?_; refine W.block ?_; refine W.seq ?_; refine W.pk ?_; (iterate 2 refine .m rfl rfl rfl rfl ?_); refine .v rfl rfl (OpL.binI rfl rfl rfl rfl) ?_; refine .v rfl rfl (O.conv h3 u118 rfl rfl) ?_; refine .v rfl rfl (O.shr (by decide) rfl rfl rfl) ?_; refine .v rfl rfl (O.conv h118 u3 rfl rfl) ?_; refine .a rfl rfl rfl rfl ?_; refine .nil ?_; refine W.seq ?_; obtain ⟨c23, h⟩ := chk h; obtain ⟨t24, b25, h⟩ := bnd1 h; refine W.pk ?_; (iterate 3 refine .m rfl rfl rfl rfl ?_); refine .v rfl rfl (O.idx sl68 c23 rfl rfl rfl) ?_; refine .v rfl rfl (O.ldN ty29 rfl rfl rfl) ?_; refine .m rfl rfl rfl rfl ?_; refine .call (.i t24) [] 0 (asset_Book_place_1_v2.ok b25) rfl rfl rfl ca51 rfl rfl (cC (.agg _ _ _ _ (cC (.imm _) (cC (.imm _) (cC (.imm _) (cC (.imm _) (cC (.imm _) .nil)))))) (cC (.imm _) .nil)) rfl rfl rfl rfl rfl ?_; refine .v rfl rfl (OpL.binI rfl rfl rfl rfl) ?_; refine .nil ?_; refine W.cond rfl (fun q26 => ?_) (fun q26 => ?_)
   ·have h := ifT q26 h; refine W.pk ?_; refine .m rfl rfl rfl rfl ?_; refine .v rfl rfl (OpL.binI rfl rfl rfl rfl) ?_; refine .a rfl rfl rfl rfl ?_; refine .nil ?_; cases h; exact rdN (Gives.mkR [] (.e rfl rfl) .n rfl rfl rfl)
   ·have h := ifF q26 h; refine W.pk ?_; refine .m rfl rfl rfl rfl ?_; refine .a rfl rfl rfl rfl ?_; refine .nil ?_; cases h; exact rdN (Gives.mkR [] (.e rfl rfl) .n rfl rfl rfl)
  ·have h := ifF q22 h; refine W.exit ?_; cases h; refine rdX fun e_ => ?_; subst e_; (repeat with_reducible refine thru ?_); refine hit ?_; exact toN (Gives.mkR [] (.e rfl rfl) .n rfl rfl rfl)

set_option maxRecDepth 100000 in
set_option maxHeartbeats 4000000 in
theorem asset_Book_place_v2.ok {x0 : asset_Book} {x1 : Bs} {r : Int × Bool} (h : asset_Book_place.f x0 x1 = some r) : Pm.Spec prog 34 [.imm (.fp (asset_Book.enc x0)), .imm (.val (.string (tx x1)))] (.tup [.imm (.val (.int .i64 r.1)), .imm (.val (.bool r.2))]) [none, none] := by
 unfold asset_Book_place.f at h; refine Pm.Spec.of_body Try.func34 rfl (by kernel_rfl) (Nat.le_of_ble_eq_true rfl) (Nat.le_of_ble_eq_true rfl) ?_; refine W.ghost (σ' := (mkSt [(0, some (.imm (.fp (asset_Book.enc x0)))), (1, some (.s x1))] [] 1000)) (Gives.entry (.c rfl (.c rfl .n)) .n) ?_; refine W.seq ?_; refine W.pk ?_; (iterate 2 refine .a rfl rfl rfl rfl ?_); refine .nil ?_; refine W.seq ?_; obtain ⟨t1, b2, h⟩ := bnd1 h; refine W.pk ?_; refine .m rfl rfl rfl rfl ?_; refine .v rfl rfl (OpL.nilP rfl rfl rfl) ?_; refine .v rfl rfl (O.fld fld71_0 rfl rfl rfl) ?_; refine .v rfl rfl (O.ld (y := .imm (.row 5 (List.map api_Asset.enc x0.l))) ty68 rfl rfl rfl) ?_; refine .m rfl rfl rfl rfl ?_; refine .call (.tup [.i t1.1, .b t1.2]) [] 0 (slices_BinarySearchFunc_string__asset_Book_place_1_v2.ok b2) rfl rfl rfl ca50 rfl rfl (cC (.imm _) (cC (.imm _) (cC (.fn _ _ _ _ _ .nil) .nil))) rfl rfl rfl rfl rfl ?_; (iterate 2 refine .v rfl rfl (OpL.extract rfl rfl rfl) ?_); (iterate 2 refine .a rfl rfl rfl rfl ?_); refine .nil ?_; refine W.ret ?_; cases h; exact leaves (.inr rfl) rfl (.tup _ _ _ _ (cC (.imm _) (cC (.imm _) .nil))) (cN (cN .nil)) rfl rfl

noncomputable def asset_Book_Set_v3.b0 (x0 : asset_Book) (x1 : List api_Price) (v9 : Int) : Option (Int ⊕ ((Int × Int) ⊕ Unit)) :=
  if (decide (v9 < (List.length x1 : Int))) = true then
    if (0 : Int) ≤ v9 ∧ v9 < (List.length x1 : Int) then
    (asset_Book_place.f x0 ((nth x1 v9).ISIN)).bind fun t30 =>
    if (!t30.2) = true then
      some (.inr (.inl (v9, 21)))
    else
      if ((decide (((nth x1 v9).Price) < 1)) || (decide (((nth x1 v9).Price) > 4294967296))) = true then
        some (.inr (.inl (v9, 31)))
      else
        some (.inl (IntKind.wrap .i64 (v9 + 1)))
    else none
  else
    some (.inr (.inr ()))
noncomputable def asset_Book_Set_v3.r0 (x0 : asset_Book) (x1 : List api_Price) (s : Int) : Option (Int ⊕ ((Int × Int) ⊕ Unit)) := asset_Book_Set_v3.b0 x0 x1 s
noncomputable def asset_Book_Set_v3.b1 (x1 : List api_Price)  : Option (Unit ⊕ Unit) :=
  if (decide (0 < (List.length x1 : Int))) = true then
    none
  else
    some (.inr ())
noncomputable def asset_Book_Set_v3.r1 (x1 : List api_Price) (s : Unit) : Option (Unit ⊕ Unit) := asset_Book_Set_v3.b1 x1 
noncomputable def asset_Book_Set_v3.f (x0 : asset_Book) (x1 : List api_Price) : Option (Int × Int) :=
  if (!x0.made) = true then
    some (0, 3)
  else
    (loop (asset_Book_Set_v3.r0 x0 x1) 0).bind fun o25 =>
    match o25 with
    | .inl r35 => some r35
    | .inr w24 =>
      (loop (asset_Book_Set_v3.r1 x1) ()).bind fun o47 =>
      some ((List.length x1 : Int), 0)
set_option maxRecDepth 100000 in
set_option maxHeartbeats 4000000 in
theorem asset_Book_Set_v3.ok {x0 : asset_Book} {x1 : List api_Price} {r : Int × Int} (h : asset_Book_Set_v3.f x0 x1 = some r) : Pm.Spec prog 30 [.imm (.fp (asset_Book.enc x0)), .imm (.row 2 (List.map api_Price.enc x1))] (.tup [.imm (.val (.int .i64 r.1)), .imm (.val (.int .i64 r.2))]) [none, none] := by
 unfold asset_Book_Set_v3.f at h; refine Pm.Spec.of_body Try.func30 rfl (by kernel_rfl) (Nat.le_of_ble_eq_true rfl) (Nat.le_of_ble_eq_true rfl) ?_; refine W.ghost (σ' := (mkSt [(0, some (.imm (.fp (asset_Book.enc x0)))), (1, some (.imm (.row 2 (List.map api_Price.enc x1))))] [] 1000)) (Gives.entry (.c rfl (.c rfl .n)) .n) ?_; refine W.seq ?_; refine W.pk ?_; (iterate 2 refine .a rfl rfl rfl rfl ?_); refine .nil ?_; (iterate 2 refine W.seq ?_); refine W.pk ?_; refine .m rfl rfl rfl rfl ?_; refine .v rfl rfl (OpL.eqP rfl u30 rfl rfl rfl) ?_; refine .m rfl rfl rfl rfl ?_; refine .m rfl (met rfl rfl rfl rfl) rfl rfl ?_; refine .v rfl (met rfl rfl rfl rfl) (OpL.nilP rfl rfl rfl) ?_; refine .v rfl (met rfl rfl rfl rfl) (O.fld fld71_2 rfl rfl rfl) ?_; refine .v rfl (met rfl rfl rfl rfl) (O.ld (y := .b x0.made) ty4 rfl rfl rfl) ?_; refine .v rfl (met rfl rfl rfl rfl) (OpL.unV rfl rfl rfl) ?_; refine .v rfl rfl (O.pickF rfl rfl rfl rfl) ?_; refine .nil ?_; refine W.cond rfl (fun q1 => ?_) (fun q1 => ?_)
 ·have h := ifT q1 h; refine W.seq ?_; refine W.pk ?_; (iterate 2 refine .a rfl rfl rfl rfl ?_); refine .nil ?_; refine W.ret ?_; cases h; exact leaves (.inr rfl) rfl (.tup _ _ _ _ (cC (.imm _) (cC (.imm _) .nil))) (cN (cN .nil)) rfl rfl
 ·have h := ifF q1 h; refine W.skip ?_; (iterate 2 refine W.seq ?_); refine W.pk ?_; refine .m rfl rfl rfl rfl ?_; refine .v rfl rfl (O.lenR sl49 rfl rfl) ?_; refine .m rfl rfl rfl rfl ?_; refine .nil ?_; obtain ⟨o25, b26, z27⟩ := bnd1 h; refine W.fork2 (out := o25) (fun (w24 : Unit) => mkSt [(0, some (.imm (.fp (asset_Book.enc x0)))), (1, some (.imm (.row 2 (List.map api_Price.enc x1))))] [] 1000) ?_ ?_
  ·clear h; refine W.block ?_; refine W.loopF (fun (s_ : Int) => mkSt [(0, some (.imm (.fp (asset_Book.enc x0)))), (1, some (.imm (.row 2 (List.map api_Price.enc x1)))), (23, some (.imm (.row 2 (List.map api_Price.enc x1)))), (24, some (.i (List.length x1 : Int))), (25, some (.i s_))] [] 1000) b26 (Gives.mkR [] (.e rfl rfl) .n rfl rfl rfl) ?_; rintro v9 s_ hr; have h : asset_Book_Set_v3.b0 x0 x1 v9 = some s_ := hr; unfold asset_Book_Set_v3.b0 at h; refine W.seq ?_; refine W.pk ?_; refine .v rfl rfl (OpL.binI rfl rfl rfl rfl) ?_; refine .nil ?_; refine W.seq ?_; refine W.cond rfl (fun q28 => ?_) (fun q28 => ?_)
   ·have h := ifT q28 h; refine W.skip ?_; refine W.seq ?_; refine W.block ?_; refine W.seq ?_; obtain ⟨c29, h⟩ := chk h; refine W.pk ?_; refine .m rfl rfl rfl rfl ?_; refine .v rfl rfl (O.idx sl49 c29 rfl rfl rfl) ?_; refine .v rfl rfl (O.ldN ty82 rfl rfl rfl) ?_; refine .t rfl rfl (O.alloc z82 rfl) ?_; refine .a rfl rfl rfl rfl ?_; refine .s rfl rfl (O.st ty82 rfl rfl rfl rfl rfl rfl rfl rfl rfl rfl (all' := [.s ((nth x1 v9).ISIN), .i ((nth x1 v9).Price)]) rfl) ?_; refine .nil ?_; (iterate 2 refine W.seq ?_); obtain ⟨t30, b31, h⟩ := bnd1 h; refine W.pk ?_; refine .m rfl rfl rfl rfl ?_; refine .v rfl rfl (O.fld fld82_0 rfl rfl rfl) ?_; refine .v rfl rfl (O.ld (y := .s ((nth x1 v9).ISIN)) ty9 rfl rfl rfl) ?_; refine .call (.tup [.i t30.1, .b t30.2]) [] 0 (asset_Book_place_v2.ok b31) rfl rfl rfl ca34 rfl rfl (cC (.imm _) (cC (.imm _) .nil)) rfl rfl rfl rfl rfl ?_; refine .m rfl rfl rfl rfl ?_; (iterate 2 refine .v rfl rfl (OpL.extract rfl rfl rfl) ?_); (iterate 2 refine .a rfl rfl rfl rfl ?_); refine .nil ?_; refine W.seq ?_; refine W.pk ?_; refine .m rfl rfl rfl rfl ?_; refine .v rfl rfl (OpL.unV rfl rfl rfl) ?_; refine .nil ?_; refine W.cond rfl (fun q32 => ?_) (fun q32 => ?_)
    ·have h := ifT q32 h; refine W.seq ?_; refine W.pk ?_; refine .m rfl rfl rfl rfl ?_; (iterate 2 refine .a rfl rfl rfl rfl ?_); refine .nil ?_; refine W.ret ?_; cases h; refine rdR fun e_ => ?_; subst e_; have h := z27; dsimp only at h; refine fkR ?_; cases h; exact leaves (.inr rfl) rfl (.tup _ _ _ _ (cC (.imm _) (cC (.imm _) .nil))) (cN (cN .nil)) rfl rfl
    ·have h := ifF q32 h; refine W.skip ?_; refine W.seq ?_; refine W.fork (mkSt [(0, some (.imm (.fp (asset_Book.enc x0)))), (1, some (.imm (.row 2 (List.map api_Price.enc x1)))), (6, some (.i v9)), (23, some (.imm (.row 2 (List.map api_Price.enc x1)))), (24, some (.i (List.length x1 : Int))), (25, some (.i v9)), (47, some (.b ((decide (((nth x1 v9).Price) < 1)) || (decide (((nth x1 v9).Price) > 4294967296)))))] [] 1001) ?_ ?_
     ·refine W.cond rfl (fun q34 => ?_) (fun q34 => ?_)
      ·have h := ifT q34 h; refine W.seq ?_; refine W.pk ?_; refine .m rfl rfl rfl rfl ?_; (iterate 2 refine .a rfl rfl rfl rfl ?_); refine .nil ?_; refine W.ret ?_; cases h; refine rdR fun e_ => ?_; subst e_; have h := z27; dsimp only at h; refine fkR ?_; cases h; exact leaves (.inr rfl) rfl (.tup _ _ _ _ (cC (.imm _) (cC (.imm _) .nil))) (cN (cN .nil)) rfl rfl
      ·have h := ifF q34 h; refine W.skip ?_; refine W.pk ?_; refine .v rfl rfl (OpL.binI rfl rfl rfl rfl) ?_; refine .m rfl rfl rfl rfl ?_; refine .nil ?_; cases h; exact rdN (Gives.mkR [] (.e rfl rfl) .n rfl rfl rfl)
     ·clear h; refine W.pk ?_; refine .v rfl rfl (O.fld fld82_1 rfl rfl rfl) ?_; refine .v rfl rfl (O.ld (y := .i ((nth x1 v9).Price)) ty3 rfl rfl rfl) ?_; refine .v rfl rfl (OpL.binI rfl rfl rfl rfl) ?_; refine .m rfl rfl rfl rfl ?_; rcases tf (decide (((nth x1 v9).Price) < 1)) with g33 | g33
      ·(iterate 3 refine .x rfl (unmet rfl rfl rfl g33) ?_); refine .v rfl rfl (O.pickT g33 rfl rfl rfl) ?_; refine .nil ?_; exact toN (Gives.mkR [] (.r rfl rfl (.r rfl rfl (.r rfl rfl (.r rfl rfl (.r rfl rfl (.r rfl rfl (.c rfl (sbb (by simp only [g33, BL])) rfl .n))))))) .n rfl rfl rfl)
      ·refine .v rfl (met rfl rfl rfl g33) (O.fld fld82_1 rfl rfl rfl) ?_; refine .v rfl (met rfl rfl rfl g33) (O.ld (y := .i ((nth x1 v9).Price)) ty3 rfl rfl rfl) ?_; refine .v rfl (met rfl rfl rfl g33) (OpL.binI rfl rfl rfl rfl) ?_; refine .v rfl rfl (O.pickF g33 rfl rfl rfl) ?_; refine .nil ?_; exact toN (Gives.mkR [] (.r rfl rfl (.r rfl rfl (.r rfl rfl (.r rfl rfl (.r rfl rfl (.r rfl rfl (.c rfl (sbb (by simp only [g33, BL])) rfl .n))))))) .n rfl rfl rfl)
   ·have h := ifF q28 h; refine W.exit ?_; cases h; refine rdX fun e_ => ?_; subst e_; (repeat with_reducible refine thru ?_); refine hit ?_; exact fkN (Gives.mkR [] (.e rfl rfl) .n rfl rfl rfl)
  ·intro w24 e_; subst e_; clear h; have h := z27; dsimp only at h; (iterate 2 refine W.seq ?_); refine W.pk ?_; refine .m rfl rfl rfl rfl ?_; refine .v rfl rfl (O.lenR sl49 rfl rfl) ?_; refine .m rfl rfl rfl rfl ?_; refine .nil ?_; obtain ⟨o47, b48, h⟩ := bnd1 h; refine W.fork (mkSt [(1, some (.imm (.row 2 (List.map api_Price.enc x1))))] [] 1000) ?_ ?_
   ·refine W.seq ?_; refine W.pk ?_; refine .m rfl rfl rfl rfl ?_; refine .v rfl rfl (O.lenR sl49 rfl rfl) ?_; (iterate 2 refine .a rfl rfl rfl rfl ?_); refine .nil ?_; refine W.ret ?_; cases h; exact leaves (.inr rfl) rfl (.tup _ _ _ _ (cC (.imm _) (cC (.imm _) .nil))) (cN (cN .nil)) rfl rfl
   ·clear h; refine W.block ?_; refine W.loopF (fun (s_ : Unit) => mkSt [(0, some (.imm (.fp (asset_Book.enc x0)))), (1, some (.imm (.row 2 (List.map api_Price.enc x1)))), (50, some (.imm (.row 2 (List.map api_Price.enc x1)))), (51, some (.i (List.length x1 : Int))), (52, some (.i 0))] [] 1000) b48 (Gives.mkR [] (.e rfl rfl) .n rfl rfl rfl) ?_; rintro _ s_ hr; have h : asset_Book_Set_v3.b1 x1  = some s_ := hr; unfold asset_Book_Set_v3.b1 at h; refine W.seq ?_; refine W.pk ?_; refine .v rfl rfl (OpL.binI rfl rfl rfl rfl) ?_; refine .nil ?_; refine W.seq ?_; refine W.cond rfl (fun q50 => ?_) (fun q50 => ?_)
    ·have h := ifT q50 h; cases h
    ·have h := ifF q50 h; refine W.exit ?_; cases h; refine rdX fun e_ => ?_; subst e_; (repeat with_reducible refine thru ?_); refine hit ?_; exact toN (Gives.mkR [] (.r rfl rfl .n) .n rfl rfl rfl)

noncomputable def asset_Book_Price.f (x0 : asset_Book) (x1 : Bs) : Option (Int × Bool) :=
  (asset_Book_place.f x0 x1).bind fun t1 =>
  if ((!t1.2) = false → (0 : Int) ≤ t1.1 ∧ t1.1 < (List.length x0.prices : Int)) then
  if ((!t1.2) || ((nth x0.prices t1.1) == 0)) = true then
    some (0, false)
  else
    if (0 : Int) ≤ t1.1 ∧ t1.1 < (List.length x0.prices : Int) then
    some ((nth x0.prices t1.1), true)
    else none
  else none
set_option maxRecDepth 100000 in
set_option maxHeartbeats 4000000 in
theorem asset_Book_Price.ok {x0 : asset_Book} {x1 : Bs} {r : Int × Bool} (h : asset_Book_Price.f x0 x1 = some r) : Pm.Spec prog 19 [.imm (.fp (asset_Book.enc x0)), .imm (.val (.string (tx x1)))] (.tup [.imm (.val (.int .i64 r.1)), .imm (.val (.bool r.2))]) [none, none] := by
 unfold asset_Book_Price.f at h; refine Pm.Spec.of_body Try.func19 rfl (by kernel_rfl) (Nat.le_of_ble_eq_true rfl) (Nat.le_of_ble_eq_true rfl) ?_; refine W.ghost (σ' := (mkSt [(0, some (.imm (.fp (asset_Book.enc x0)))), (1, some (.s x1))] [] 1000)) (Gives.entry (.c rfl (.c rfl .n)) .n) ?_; refine W.seq ?_; refine W.pk ?_; (iterate 2 refine .a rfl rfl rfl rfl ?_); refine .nil ?_; (iterate 2 refine W.seq ?_); refine W.pk ?_; refine .m rfl rfl rfl rfl ?_; refine .v rfl rfl (OpL.eqP rfl u30 rfl rfl rfl) ?_; refine .nil ?_; refine W.cond rfl (fun q => by cases q) (fun _ => ?_)
 refine W.skip ?_; refine W.seq ?_; obtain ⟨t1, b2, h⟩ := bnd1 h; refine W.pk ?_; (iterate 2 refine .m rfl rfl rfl rfl ?_); refine .call (.tup [.i t1.1, .b t1.2]) [] 0 (asset_Book_place_v2.ok b2) rfl rfl rfl ca34 rfl rfl (cC (.imm _) (cC (.imm _) .nil)) rfl rfl rfl rfl rfl ?_; refine .m rfl rfl rfl rfl ?_; (iterate 2 refine .v rfl rfl (OpL.extract rfl rfl rfl) ?_); (iterate 2 refine .a rfl rfl rfl rfl ?_); refine .nil ?_; (iterate 2 refine W.seq ?_); obtain ⟨c3, h⟩ := chk h; refine W.fork (mkSt [(0, some (.imm (.fp (asset_Book.enc x0)))), (6, some (.i t1.1)), (27, some (.b ((!t1.2) || ((nth x0.prices t1.1) == 0))))] [] 1000) ?_ ?_
 ·refine W.cond rfl (fun q5 => ?_) (fun q5 => ?_)
  ·have h := ifT q5 h; refine W.seq ?_; refine W.pk ?_; (iterate 2 refine .a rfl rfl rfl rfl ?_); refine .nil ?_; refine W.ret ?_; cases h; exact leaves (.inr rfl) rfl (.tup _ _ _ _ (cC (.imm _) (cC (.imm _) .nil))) (cN (cN .nil)) rfl rfl
  ·have h := ifF q5 h; refine W.skip ?_; refine W.seq ?_; obtain ⟨c6, h⟩ := chk h; refine W.pk ?_; refine .m rfl rfl rfl rfl ?_; refine .v rfl rfl (OpL.nilP rfl rfl rfl) ?_; refine .v rfl rfl (O.fld fld71_1 rfl rfl rfl) ?_; refine .v rfl rfl (O.ld (y := .imm (.row 1 (List.map (encI .i64) x0.prices))) ty69 rfl rfl rfl) ?_; refine .m rfl rfl rfl rfl ?_; refine .v rfl rfl (O.idx sl69 c6 rfl rfl rfl) ?_; refine .v rfl rfl (O.ld (y := .i (nth x0.prices t1.1)) ty3 rfl rfl rfl) ?_; (iterate 2 refine .a rfl rfl rfl rfl ?_); refine .nil ?_; refine W.ret ?_; cases h; exact leaves (.inr rfl) rfl (.tup _ _ _ _ (cC (.imm _) (cC (.imm _) .nil))) (cN (cN .nil)) rfl rfl
 ·clear h; refine W.pk ?_; refine .m rfl rfl rfl rfl ?_; refine .v rfl rfl (OpL.unV rfl rfl rfl) ?_; refine .m rfl rfl rfl rfl ?_; rcases tf t1.2 with g4 | g4
  ·refine .m rfl (met rfl rfl rfl (notT g4)) rfl rfl ?_; refine .v rfl (met rfl rfl rfl (notT g4)) (OpL.nilP rfl rfl rfl) ?_; refine .v rfl (met rfl rfl rfl (notT g4)) (O.fld fld71_1 rfl rfl rfl) ?_; refine .v rfl (met rfl rfl rfl (notT g4)) (O.ld (y := .imm (.row 1 (List.map (encI .i64) x0.prices))) ty69 rfl rfl rfl) ?_; refine .m rfl (met rfl rfl rfl (notT g4)) rfl rfl ?_; refine .v rfl (met rfl rfl rfl (notT g4)) (O.idx sl69 (c3 (by simp only [g4, BL])) rfl rfl rfl) ?_; refine .v rfl (met rfl rfl rfl (notT g4)) (O.ld (y := .i (nth x0.prices t1.1)) ty3 rfl rfl rfl) ?_; refine .v rfl (met rfl rfl rfl (notT g4)) (OpL.binI rfl rfl rfl rfl) ?_; refine .v rfl rfl (O.pickF (notT g4) rfl rfl rfl) ?_; refine .nil ?_; exact toN (Gives.mkR [] (.r rfl rfl (.r rfl rfl (.c rfl (sbb (by simp only [g4, BL])) rfl .n))) .n rfl rfl rfl)
  ·(iterate 8 refine .x rfl (unmet rfl rfl rfl (notF g4)) ?_); refine .v rfl rfl (O.pickT (notF g4) rfl rfl rfl) ?_; refine .nil ?_; exact toN (Gives.mkR [] (.r rfl rfl (.r rfl rfl (.c rfl (sbb (by simp only [g4, BL])) rfl .n))) .n rfl rfl rfl)

noncomputable def fixnum_size.f (x0 : Int) : Option (Int × Bool) :=
  if (decide (x0 < 0)) = true then
    some ((IntKind.wrap .u64 (0 - (IntKind.wrap .u64 x0))), true)
  else
    some ((IntKind.wrap .u64 x0), false)
set_option maxRecDepth 100000 in
set_option maxHeartbeats 4000000 in
theorem fixnum_size.ok {x0 : Int} {r : Int × Bool} (h : fixnum_size.f x0 = some r) : Pm.Spec prog 45 [.imm (.val (.int .i64 x0))] (.tup [.imm (.val (.int .u64 r.1)), .imm (.val (.bool r.2))]) [none] := by
 unfold fixnum_size.f at h; refine Pm.Spec.of_body Try.func45 rfl (by kernel_rfl) (Nat.le_of_ble_eq_true rfl) (Nat.le_of_ble_eq_true rfl) ?_; refine W.ghost (σ' := (mkSt [(0, some (.i x0))] [] 1000)) (Gives.entry (.c rfl .n) .n) ?_; refine W.seq ?_; refine W.pk ?_; (iterate 2 refine .a rfl rfl rfl rfl ?_); refine .nil ?_; (iterate 2 refine W.seq ?_); refine W.pk ?_; refine .m rfl rfl rfl rfl ?_; refine .v rfl rfl (OpL.binI rfl rfl rfl rfl) ?_; refine .nil ?_; refine W.cond rfl (fun q1 => ?_) (fun q1 => ?_)
 ·have h := ifT q1 h; refine W.seq ?_; refine W.pk ?_; refine .m rfl rfl rfl rfl ?_; refine .v rfl rfl (O.conv h3 u88 rfl rfl) ?_; refine .v rfl rfl (OpL.unV rfl rfl rfl) ?_; (iterate 2 refine .a rfl rfl rfl rfl ?_); refine .nil ?_; refine W.ret ?_; cases h; exact leaves (.inr rfl) rfl (.tup _ _ _ _ (cC (.imm _) (cC (.imm _) .nil))) (cN .nil) rfl rfl
 ·have h := ifF q1 h; refine W.skip ?_; refine W.seq ?_; refine W.pk ?_; refine .m rfl rfl rfl rfl ?_; refine .v rfl rfl (O.conv h3 u88 rfl rfl) ?_; (iterate 2 refine .a rfl rfl rfl rfl ?_); refine .nil ?_; refine W.ret ?_; cases h; exact leaves (.inr rfl) rfl (.tup _ _ _ _ (cC (.imm _) (cC (.imm _) .nil))) (cN .nil) rfl rfl

noncomputable def fixnum_Mul.f (x0 : Int) (x1 : Int) : Option (fixnum_Wide) :=
  some (⟨(IntKind.wrap .u64 ((IntKind.wrap .u64 ((IntKind.wrap .u64 ((shrI .u64 x0 32) * (shrI .u64 x1 32))) + (shrI .u64 (IntKind.wrap .u64 ((IntKind.wrap .u64 ((shrI .u64 x0 32) * (bits .and .u64 x1 4294967295))) + (shrI .u64 (IntKind.wrap .u64 ((bits .and .u64 x0 4294967295) * (bits .and .u64 x1 4294967295))) 32))) 32))) + (shrI .u64 (IntKind.wrap .u64 ((IntKind.wrap .u64 ((bits .and .u64 x0 4294967295) * (shrI .u64 x1 32))) + (bits .and .u64 (IntKind.wrap .u64 ((IntKind.wrap .u64 ((shrI .u64 x0 32) * (bits .and .u64 x1 4294967295))) + (shrI .u64 (IntKind.wrap .u64 ((bits .and .u64 x0 4294967295) * (bits .and .u64 x1 4294967295))) 32))) 4294967295))) 32))), (bits .or .u64 (shlI .u64 (IntKind.wrap .u64 ((IntKind.wrap .u64 ((bits .and .u64 x0 4294967295) * (shrI .u64 x1 32))) + (bits .and .u64 (IntKind.wrap .u64 ((IntKind.wrap .u64 ((shrI .u64 x0 32) * (bits .and .u64 x1 4294967295))) + (shrI .u64 (IntKind.wrap .u64 ((bits .and .u64 x0 4294967295) * (bits .and .u64 x1 4294967295))) 32))) 4294967295))) 32) (bits .and .u64 (IntKind.wrap .u64 ((bits .and .u64 x0 4294967295) * (bits .and .u64 x1 4294967295))) 4294967295))⟩ : fixnum_Wide)
set_option maxRecDepth 100000 in
set_option maxHeartbeats 4000000 in
theorem fixnum_Mul.ok {x0 : Int} {x1 : Int} {r : fixnum_Wide} (h : fixnum_Mul.f x0 x1 = some r) : Pm.Spec prog 46 [.imm (.val (.int .u64 x0)), .imm (.val (.int .u64 x1))] (.agg [.imm (.val (.int .u64 r.Hi)), .imm (.val (.int .u64 r.Lo))]) [none, none] := by
 unfold fixnum_Mul.f at h; refine Pm.Spec.of_body Try.func46 rfl (by kernel_rfl) (Nat.le_of_ble_eq_true rfl) (Nat.le_of_ble_eq_true rfl) ?_; refine W.ghost (σ' := (mkSt [(0, some (.imm (.val (.int .u64 x0)))), (1, some (.imm (.val (.int .u64 x1))))] [] 1000)) (Gives.entry (.c rfl (.c rfl .n)) .n) ?_; refine W.seq ?_; refine W.pk ?_; refine .t rfl rfl (O.alloc z92 rfl) ?_; refine .nil ?_; refine W.seq ?_; refine W.pk ?_; refine .m rfl rfl rfl rfl ?_; refine .v rfl rfl (O.shr (by decide) rfl rfl rfl) ?_; refine .m rfl rfl rfl rfl ?_; refine .v rfl rfl (OpL.binI rfl rfl rfl rfl) ?_; (iterate 2 refine .a rfl rfl rfl rfl ?_); refine .nil ?_; refine W.seq ?_; refine W.pk ?_; refine .m rfl rfl rfl rfl ?_; refine .v rfl rfl (O.shr (by decide) rfl rfl rfl) ?_; refine .m rfl rfl rfl rfl ?_; refine .v rfl rfl (OpL.binI rfl rfl rfl rfl) ?_; (iterate 2 refine .a rfl rfl rfl rfl ?_); refine .nil ?_; refine W.seq ?_; refine W.pk ?_; (iterate 2 refine .m rfl rfl rfl rfl ?_); refine .v rfl rfl (OpL.binI rfl rfl rfl rfl) ?_; refine .a rfl rfl rfl rfl ?_; refine .nil ?_; refine W.seq ?_; refine W.pk ?_; (iterate 2 refine .m rfl rfl rfl rfl ?_); refine .v rfl rfl (OpL.binI rfl rfl rfl rfl) ?_; refine .m rfl rfl rfl rfl ?_; refine .v rfl rfl (O.shr (by decide) rfl rfl rfl) ?_; refine .v rfl rfl (OpL.binI rfl rfl rfl rfl) ?_; refine .a rfl rfl rfl rfl ?_; refine .nil ?_; refine W.seq ?_; refine W.pk ?_; (iterate 2 refine .m rfl rfl rfl rfl ?_); refine .v rfl rfl (OpL.binI rfl rfl rfl rfl) ?_; refine .m rfl rfl rfl rfl ?_; (iterate 2 refine .v rfl rfl (OpL.binI rfl rfl rfl rfl) ?_); refine .a rfl rfl rfl rfl ?_; refine .nil ?_; refine W.seq ?_; refine W.pk ?_; (iterate 2 refine .m rfl rfl rfl rfl ?_); refine .v rfl rfl (OpL.binI rfl rfl rfl rfl) ?_; refine .m rfl rfl rfl rfl ?_; refine .v rfl rfl (O.shr (by decide) rfl rfl rfl) ?_; refine .v rfl rfl (OpL.binI rfl rfl rfl rfl) ?_; refine .m rfl rfl rfl rfl ?_; refine .v rfl rfl (O.shr (by decide) rfl rfl rfl) ?_; refine .v rfl rfl (OpL.binI rfl rfl rfl rfl) ?_; refine .m rfl rfl rfl rfl ?_; refine .v rfl rfl (O.shl (by decide) rfl rfl rfl) ?_; refine .m rfl rfl rfl rfl ?_; (iterate 2 refine .v rfl rfl (OpL.binI rfl rfl rfl rfl) ?_); refine .v rfl rfl (O.build (out := [.imm (.val (.int .u64 (IntKind.wrap .u64 ((IntKind.wrap .u64 ((IntKind.wrap .u64 ((shrI .u64 x0 32) * (shrI .u64 x1 32))) + (shrI .u64 (IntKind.wrap .u64 ((IntKind.wrap .u64 ((shrI .u64 x0 32) * (bits .and .u64 x1 4294967295))) + (shrI .u64 (IntKind.wrap .u64 ((bits .and .u64 x0 4294967295) * (bits .and .u64 x1 4294967295))) 32))) 32))) + (shrI .u64 (IntKind.wrap .u64 ((IntKind.wrap .u64 ((bits .and .u64 x0 4294967295) * (shrI .u64 x1 32))) + (bits .and .u64 (IntKind.wrap .u64 ((IntKind.wrap .u64 ((shrI .u64 x0 32) * (bits .and .u64 x1 4294967295))) + (shrI .u64 (IntKind.wrap .u64 ((bits .and .u64 x0 4294967295) * (bits .and .u64 x1 4294967295))) 32))) 4294967295))) 32))))), .imm (.val (.int .u64 (bits .or .u64 (shlI .u64 (IntKind.wrap .u64 ((IntKind.wrap .u64 ((bits .and .u64 x0 4294967295) * (shrI .u64 x1 32))) + (bits .and .u64 (IntKind.wrap .u64 ((IntKind.wrap .u64 ((shrI .u64 x0 32) * (bits .and .u64 x1 4294967295))) + (shrI .u64 (IntKind.wrap .u64 ((bits .and .u64 x0 4294967295) * (bits .and .u64 x1 4294967295))) 32))) 4294967295))) 32) (bits .and .u64 (IntKind.wrap .u64 ((bits .and .u64 x0 4294967295) * (bits .and .u64 x1 4294967295))) 4294967295))))]) bl92 rfl rfl rfl rfl (by kernel_rfl)) ?_; refine .s rfl rfl (O.st ty92 rfl rfl rfl rfl rfl rfl rfl rfl rfl rfl (all' := [.imm (.val (.int .u64 (IntKind.wrap .u64 ((IntKind.wrap .u64 ((IntKind.wrap .u64 ((shrI .u64 x0 32) * (shrI .u64 x1 32))) + (shrI .u64 (IntKind.wrap .u64 ((IntKind.wrap .u64 ((shrI .u64 x0 32) * (bits .and .u64 x1 4294967295))) + (shrI .u64 (IntKind.wrap .u64 ((bits .and .u64 x0 4294967295) * (bits .and .u64 x1 4294967295))) 32))) 32))) + (shrI .u64 (IntKind.wrap .u64 ((IntKind.wrap .u64 ((bits .and .u64 x0 4294967295) * (shrI .u64 x1 32))) + (bits .and .u64 (IntKind.wrap .u64 ((IntKind.wrap .u64 ((shrI .u64 x0 32) * (bits .and .u64 x1 4294967295))) + (shrI .u64 (IntKind.wrap .u64 ((bits .and .u64 x0 4294967295) * (bits .and .u64 x1 4294967295))) 32))) 4294967295))) 32))))), .imm (.val (.int .u64 (bits .or .u64 (shlI .u64 (IntKind.wrap .u64 ((IntKind.wrap .u64 ((bits .and .u64 x0 4294967295) * (shrI .u64 x1 32))) + (bits .and .u64 (IntKind.wrap .u64 ((IntKind.wrap .u64 ((shrI .u64 x0 32) * (bits .and .u64 x1 4294967295))) + (shrI .u64 (IntKind.wrap .u64 ((bits .and .u64 x0 4294967295) * (bits .and .u64 x1 4294967295))) 32))) 4294967295))) 32) (bits .and .u64 (IntKind.wrap .u64 ((bits .and .u64 x0 4294967295) * (bits .and .u64 x1 4294967295))) 4294967295))))]) rfl) ?_; refine .nil ?_; refine W.ret ?_; cases h; exact leaves (.inr rfl) rfl (.agg _ _ _ _ (cC (.imm _) (cC (.imm _) .nil))) (cN (cN .nil)) rfl rfl

noncomputable def fixnum_Wide_Div.b0 (x0 : fixnum_Wide) (x1 : Int) (v7 : Int) (v8 : Int) (v9 : Int) : Option ((Int × Int × Int) ⊕ (Int × Int)) :=
  if (decide (v8 ≥ 0)) = true then
    if (((shrI .u64 v7 63) == 1) || (decide ((bits .or .u64 (shlI .u64 v7 1) (bits .and .u64 (shrI .u64 x0.Lo (IntKind.wrap .u64 v8)) 1)) ≥ x1))) = true then
      some (.inl ((IntKind.wrap .u64 ((bits .or .u64 (shlI .u64 v7 1) (bits .and .u64 (shrI .u64 x0.Lo (IntKind.wrap .u64 v8)) 1)) - x1)), (IntKind.wrap .i64 (v8 - 1)), (bits .or .u64 v9 (shlI .u64 1 (IntKind.wrap .u64 v8)))))
    else
      some (.inl ((bits .or .u64 (shlI .u64 v7 1) (bits .and .u64 (shrI .u64 x0.Lo (IntKind.wrap .u64 v8)) 1)), (IntKind.wrap .i64 (v8 - 1)), v9))
  else
    some (.inr (v7, v9))
noncomputable def fixnum_Wide_Div.r0 (x0 : fixnum_Wide) (x1 : Int) (s : Int × Int × Int) : Option ((Int × Int × Int) ⊕ (Int × Int)) := fixnum_Wide_Div.b0 x0 x1 s.1 s.2.1 s.2.2
noncomputable def fixnum_Wide_Div.f (x0 : fixnum_Wide) (x1 : Int) : Option (fixnum_Wide × Int) :=
  if (x1 == 0) = true then
    some ((⟨0, 0⟩ : fixnum_Wide), 0)
  else
    if x1 ≠ 0 then
    if x1 ≠ 0 then
    (loop (fixnum_Wide_Div.r0 x0 x1) ((Int.tmod x0.Hi x1), 63, 0)).bind fun o17 =>
    some ((⟨(IntKind.wrap .u64 (Int.tdiv x0.Hi x1)), o17.2⟩ : fixnum_Wide), o17.1)
    else none
    else none
set_option maxRecDepth 100000 in
set_option maxHeartbeats 4000000 in
theorem fixnum_Wide_Div.ok {x0 : fixnum_Wide} {x1 : Int} {r : fixnum_Wide × Int} (h : fixnum_Wide_Div.f x0 x1 = some r) : Pm.Spec prog 47 [.agg [.imm (.val (.int .u64 x0.Hi)), .imm (.val (.int .u64 x0.Lo))], .imm (.val (.int .u64 x1))] (.tup [.agg [.imm (.val (.int .u64 r.1.Hi)), .imm (.val (.int .u64 r.1.Lo))], .imm (.val (.int .u64 r.2))]) [none, none] := by
 unfold fixnum_Wide_Div.f at h; refine Pm.Spec.of_body Try.func47 rfl (by kernel_rfl) (Nat.le_of_ble_eq_true rfl) (Nat.le_of_ble_eq_true rfl) ?_; refine W.ghost (σ' := (mkSt [(0, some (.agg [.imm (.val (.int .u64 x0.Hi)), .imm (.val (.int .u64 x0.Lo))])), (1, some (.imm (.val (.int .u64 x1))))] [] 1000)) (Gives.entry (.c rfl (.c rfl .n)) .n) ?_; refine W.seq ?_; refine W.pk ?_; refine .t rfl rfl (O.box rfl rfl rfl rfl rfl) ?_; refine .t rfl rfl (O.alloc z92 rfl) ?_; refine .a rfl rfl rfl rfl ?_; refine .nil ?_; (iterate 2 refine W.seq ?_); refine W.pk ?_; refine .m rfl rfl rfl rfl ?_; refine .v rfl rfl (OpL.binI rfl rfl rfl rfl) ?_; refine .nil ?_; refine W.cond rfl (fun q1 => ?_) (fun q1 => ?_)
 ·have h := ifT q1 h; refine W.seq ?_; refine W.pk ?_; refine .v rfl rfl (O.build (out := [.imm (.val (.int .u64 0)), .imm (.val (.int .u64 0))]) bl92 rfl rfl rfl rfl (by kernel_rfl)) ?_; refine .s rfl rfl (O.st ty92 rfl rfl rfl rfl rfl rfl rfl rfl rfl rfl (all' := [.imm (.val (.int .u64 0)), .imm (.val (.int .u64 0))]) rfl) ?_; refine .a rfl rfl rfl rfl ?_; refine .nil ?_; refine W.ret ?_; cases h; exact leaves (.inr rfl) rfl (.tup _ _ _ _ (cC (.agg _ _ _ _ (cC (.imm _) (cC (.imm _) .nil))) (cC (.imm _) .nil))) (cN (cN .nil)) rfl rfl
 ·have h := ifF q1 h; refine W.skip ?_; refine W.seq ?_; obtain ⟨c2, h⟩ := chk h; refine W.pk ?_; refine .v rfl rfl (O.fld fld92_0 rfl rfl rfl) ?_; refine .v rfl rfl (O.ld (y := .imm (.val (.int .u64 x0.Hi))) ty88 rfl rfl rfl) ?_; refine .m rfl rfl rfl rfl ?_; refine .v rfl rfl (O.quo rfl rfl rfl c2) ?_; refine .v rfl rfl (O.build (out := [.imm (.val (.int .u64 (IntKind.wrap .u64 (Int.tdiv x0.Hi x1)))), .imm (.val (.int .u64 0))]) bl92 rfl rfl rfl rfl (by kernel_rfl)) ?_; refine .t rfl rfl (O.alloc z92 rfl) ?_; refine .s rfl rfl (O.st ty92 rfl rfl rfl rfl rfl rfl rfl rfl rfl rfl (all' := [.imm (.val (.int .u64 (IntKind.wrap .u64 (Int.tdiv x0.Hi x1)))), .imm (.val (.int .u64 0))]) rfl) ?_; refine .nil ?_; refine W.seq ?_; obtain ⟨c3, h⟩ := chk h; refine W.pk ?_; refine .v rfl rfl (O.fld fld92_0 rfl rfl rfl) ?_; refine .v rfl rfl (O.ld (y := .imm (.val (.int .u64 x0.Hi))) ty88 rfl rfl rfl) ?_; refine .m rfl rfl rfl rfl ?_; refine .v rfl rfl (O.rem rfl rfl rfl c3) ?_; refine .a rfl rfl rfl rfl ?_; refine .nil ?_; (iterate 2 refine W.seq ?_); refine W.pk ?_; refine .a rfl rfl rfl rfl ?_; refine .nil ?_; obtain ⟨o17, b18, h⟩ := bnd1 h; refine W.fork (mkSt [(4, some (.ptr 1001 0)), (6, some (.ptr 1002 0)), (7, some (.imm (.val (.int .u64 o17.1))))] [(1001, some (.box [.imm (.val (.int .u64 0)), .imm (.val (.int .u64 0))])), (1002, some (.box [.imm (.val (.int .u64 (IntKind.wrap .u64 (Int.tdiv x0.Hi x1)))), .imm (.val (.int .u64 o17.2))]))] 1003) ?_ ?_
  ·refine W.seq ?_; refine W.pk ?_; refine .v rfl rfl (O.ldN ty92 rfl rfl rfl) ?_; refine .m rfl rfl rfl rfl ?_; refine .s rfl rfl (O.st ty92 rfl rfl rfl rfl rfl rfl rfl rfl rfl rfl (all' := [.imm (.val (.int .u64 (IntKind.wrap .u64 (Int.tdiv x0.Hi x1)))), .imm (.val (.int .u64 o17.2))]) rfl) ?_; refine .a rfl rfl rfl rfl ?_; refine .nil ?_; refine W.ret ?_; cases h; exact leaves (.inr rfl) rfl (.tup _ _ _ _ (cC (.agg _ _ _ _ (cC (.imm _) (cC (.imm _) .nil))) (cC (.imm _) .nil))) (cN (cN .nil)) rfl rfl
  ·clear h; refine W.block ?_; refine W.loopF (fun (s_ : Int × Int × Int) => mkSt [(1, some (.imm (.val (.int .u64 x1)))), (2, some (.ptr 1000 0)), (4, some (.ptr 1001 0)), (6, some (.ptr 1002 0)), (7, some (.imm (.val (.int .u64 s_.1)))), (8, some (.i s_.2.1))] [(1000, some (.box [.imm (.val (.int .u64 x0.Hi)), .imm (.val (.int .u64 x0.Lo))])), (1001, some (.box [.imm (.val (.int .u64 0)), .imm (.val (.int .u64 0))])), (1002, some (.box [.imm (.val (.int .u64 (IntKind.wrap .u64 (Int.tdiv x0.Hi x1)))), .imm (.val (.int .u64 s_.2.2))]))] 1003) b18 (Gives.mkR [] (.e rfl rfl) (.e rfl rfl) rfl rfl rfl) ?_; rintro ⟨v7, v8, v9⟩ s_ hr; have h : fixnum_Wide_Div.b0 x0 x1 v7 v8 v9 = some s_ := hr; unfold fixnum_Wide_Div.b0 at h; (iterate 2 refine W.seq ?_); refine W.pk ?_; refine .m rfl rfl rfl rfl ?_; refine .v rfl rfl (OpL.binI rfl rfl rfl rfl) ?_; refine .nil ?_; refine W.cond rfl (fun q20 => ?_) (fun q20 => ?_)
   ·have h := ifT q20 h; refine W.skip ?_; refine W.seq ?_; refine W.block ?_; refine W.seq ?_; refine W.pk ?_; refine .m rfl rfl rfl rfl ?_; refine .v rfl rfl (O.shr (by decide) rfl rfl rfl) ?_; refine .a rfl rfl rfl rfl ?_; refine .nil ?_; refine W.seq ?_; refine W.pk ?_; refine .m rfl rfl rfl rfl ?_; refine .v rfl rfl (O.shl (by decide) rfl rfl rfl) ?_; refine .v rfl rfl (O.fld fld92_1 rfl rfl rfl) ?_; refine .v rfl rfl (O.ld (y := .imm (.val (.int .u64 x0.Lo))) ty88 rfl rfl rfl) ?_; refine .m rfl rfl rfl rfl ?_; refine .v rfl rfl (O.conv h3 u118 rfl rfl) ?_; refine .v rfl rfl (O.shr (wrapU _ rfl _) rfl rfl rfl) ?_; (iterate 2 refine .v rfl rfl (OpL.binI rfl rfl rfl rfl) ?_); refine .a rfl rfl rfl rfl ?_; refine .nil ?_; refine W.seq ?_; refine W.fork (mkSt [(1, some (.imm (.val (.int .u64 x1)))), (2, some (.ptr 1000 0)), (4, some (.ptr 1001 0)), (6, some (.ptr 1002 0)), (7, some (.imm (.val (.int .u64 (bits .or .u64 (shlI .u64 v7 1) (bits .and .u64 (shrI .u64 x0.Lo (IntKind.wrap .u64 v8)) 1)))))), (8, some (.i v8)), (43, some (.b (((shrI .u64 v7 63) == 1) || (decide ((bits .or .u64 (shlI .u64 v7 1) (bits .and .u64 (shrI .u64 x0.Lo (IntKind.wrap .u64 v8)) 1)) ≥ x1)))))] [(1000, some (.box [.imm (.val (.int .u64 x0.Hi)), .imm (.val (.int .u64 x0.Lo))])), (1001, some (.box [.imm (.val (.int .u64 0)), .imm (.val (.int .u64 0))])), (1002, some (.box [.imm (.val (.int .u64 (IntKind.wrap .u64 (Int.tdiv x0.Hi x1)))), .imm (.val (.int .u64 v9))]))] 1003) ?_ ?_
    ·refine W.cond rfl (fun q22 => ?_) (fun q22 => ?_)
     ·have h := ifT q22 h; refine W.seq ?_; refine W.pk ?_; (iterate 2 refine .m rfl rfl rfl rfl ?_); refine .v rfl rfl (OpL.binI rfl rfl rfl rfl) ?_; refine .a rfl rfl rfl rfl ?_; refine .nil ?_; refine W.pk ?_; refine .v rfl rfl (O.fld fld92_1 rfl rfl rfl) ?_; refine .v rfl rfl (O.ld (y := .imm (.val (.int .u64 v9))) ty88 rfl rfl rfl) ?_; refine .m rfl rfl rfl rfl ?_; refine .v rfl rfl (O.conv h3 u118 rfl rfl) ?_; refine .v rfl rfl (O.shl (wrapU _ rfl _) rfl rfl rfl) ?_; refine .v rfl rfl (OpL.binI rfl rfl rfl rfl) ?_; refine .v rfl rfl (O.fld fld92_1 rfl rfl rfl) ?_; refine .s rfl rfl (O.st ty88 rfl rfl rfl rfl rfl rfl rfl rfl rfl rfl (all' := [.imm (.val (.int .u64 (IntKind.wrap .u64 (Int.tdiv x0.Hi x1)))), .imm (.val (.int .u64 (bits .or .u64 v9 (shlI .u64 1 (IntKind.wrap .u64 v8)))))]) rfl) ?_; refine .nil ?_; refine W.pk ?_; refine .m rfl rfl rfl rfl ?_; refine .v rfl rfl (OpL.binI rfl rfl rfl rfl) ?_; refine .a rfl rfl rfl rfl ?_; refine .nil ?_; cases h; exact rdN (Gives.mkR [] (.e rfl rfl) (.e rfl rfl) rfl rfl rfl)
     ·have h := ifF q22 h; refine W.skip ?_; refine W.pk ?_; refine .m rfl rfl rfl rfl ?_; refine .v rfl rfl (OpL.binI rfl rfl rfl rfl) ?_; refine .a rfl rfl rfl rfl ?_; refine .nil ?_; cases h; exact rdN (Gives.mkR [] (.e rfl rfl) (.e rfl rfl) rfl rfl rfl)
    ·clear h; refine W.pk ?_; refine .m rfl rfl rfl rfl ?_; refine .v rfl rfl (OpL.binI rfl rfl rfl rfl) ?_; refine .m rfl rfl rfl rfl ?_; rcases tf ((shrI .u64 v7 63) == 1) with g21 | g21
     ·(iterate 3 refine .x rfl (unmet rfl rfl rfl g21) ?_); refine .v rfl rfl (O.pickT g21 rfl rfl rfl) ?_; refine .nil ?_; exact toN (Gives.mkR [] (.r rfl rfl (.r rfl rfl (.r rfl rfl (.r rfl rfl (.r rfl rfl (.r rfl rfl (.c rfl (sbb (by simp only [g21, BL])) rfl .n))))))) (.e rfl rfl) rfl rfl rfl)
     ·(iterate 2 refine .m rfl (met rfl rfl rfl g21) rfl rfl ?_); refine .v rfl (met rfl rfl rfl g21) (OpL.binI rfl rfl rfl rfl) ?_; refine .v rfl rfl (O.pickF g21 rfl rfl rfl) ?_; refine .nil ?_; exact toN (Gives.mkR [] (.r rfl rfl (.r rfl rfl (.r rfl rfl (.r rfl rfl (.r rfl rfl (.r rfl rfl (.c rfl (sbb (by simp only [g21, BL])) rfl .n))))))) (.e rfl rfl) rfl rfl rfl)
   ·have h := ifF q20 h; refine W.exit ?_; cases h; refine rdX fun e_ => ?_; subst e_; (repeat with_reducible refine thru ?_); refine hit ?_; exact toN (Gives.mkR [] (.e rfl rfl) (.e rfl rfl) rfl rfl rfl)

noncomputable def fixnum_up.f (x0 : Int) (x1 : Int) (x2 : Int) (x3 : Bool) (x4 : Int) : Option (Bool) :=
  if (x1 == 0) = true then
    some false
  else
    if (x4 == 1) = true then
      some x3
    else
      if (x4 == 2) = true then
        some (!x3)
      else
        if (x4 == 4) = true then
          some ((decide (x1 > (IntKind.wrap .u64 (x2 - x1)))) || ((x1 == (IntKind.wrap .u64 (x2 - x1))) && ((bits .and .u64 x0 1) == 1)))
        else
          some false
set_option maxRecDepth 100000 in
set_option maxHeartbeats 4000000 in
theorem fixnum_up.ok {x0 : Int} {x1 : Int} {x2 : Int} {x3 : Bool} {x4 : Int} {r : Bool} (h : fixnum_up.f x0 x1 x2 x3 x4 = some r) : Pm.Spec prog 48 [.imm (.val (.int .u64 x0)), .imm (.val (.int .u64 x1)), .imm (.val (.int .u64 x2)), .imm (.val (.bool x3)), .imm (.val (.int .i64 x4))] (.imm (.val (.bool r))) [none, none, none, none, none] := by
 unfold fixnum_up.f at h; refine Pm.Spec.of_body Try.func48 rfl (by kernel_rfl) (Nat.le_of_ble_eq_true rfl) (Nat.le_of_ble_eq_true rfl) ?_; refine W.ghost (σ' := (mkSt [(0, some (.imm (.val (.int .u64 x0)))), (1, some (.imm (.val (.int .u64 x1)))), (2, some (.imm (.val (.int .u64 x2)))), (3, some (.b x3)), (4, some (.i x4))] [] 1000)) (Gives.entry (.c rfl (.c rfl (.c rfl (.c rfl (.c rfl .n))))) .n) ?_; refine W.seq ?_; refine W.pk ?_; refine .a rfl rfl rfl rfl ?_; refine .nil ?_; (iterate 2 refine W.seq ?_); refine W.pk ?_; refine .m rfl rfl rfl rfl ?_; refine .v rfl rfl (OpL.binI rfl rfl rfl rfl) ?_; refine .nil ?_; refine W.cond rfl (fun q1 => ?_) (fun q1 => ?_)
 ·have h := ifT q1 h; refine W.seq ?_; refine W.pk ?_; refine .a rfl rfl rfl rfl ?_; refine .nil ?_; refine W.ret ?_; cases h; exact leaves (.inr rfl) rfl (.imm _) (cN (cN (cN (cN (cN .nil))))) rfl rfl
 ·have h := ifF q1 h; refine W.skip ?_; (iterate 2 refine W.seq ?_); refine W.pk ?_; refine .m rfl rfl rfl rfl ?_; refine .nil ?_; refine W.block ?_; refine W.seq ?_; refine W.pk ?_; refine .v rfl rfl (OpL.binI rfl rfl rfl rfl) ?_; refine .a rfl rfl rfl rfl ?_; refine .nil ?_; refine W.cond rfl (fun q2 => ?_) (fun q2 => ?_)
  ·have h := ifT q2 h; refine W.seq ?_; refine W.pk ?_; refine .m rfl rfl rfl rfl ?_; refine .a rfl rfl rfl rfl ?_; refine .nil ?_; refine W.ret ?_; cases h; exact leaves (.inr rfl) rfl (.imm _) (cN (cN (cN (cN (cN .nil))))) rfl rfl
  ·have h := ifF q2 h; refine W.seq ?_; refine W.pk ?_; refine .v rfl rfl (OpL.binI rfl rfl rfl rfl) ?_; refine .a rfl rfl rfl rfl ?_; refine .nil ?_; refine W.cond rfl (fun q3 => ?_) (fun q3 => ?_)
   ·have h := ifT q3 h; refine W.seq ?_; refine W.pk ?_; refine .m rfl rfl rfl rfl ?_; refine .v rfl rfl (OpL.unV rfl rfl rfl) ?_; refine .a rfl rfl rfl rfl ?_; refine .nil ?_; refine W.ret ?_; cases h; exact leaves (.inr rfl) rfl (.imm _) (cN (cN (cN (cN (cN .nil))))) rfl rfl
   ·have h := ifF q3 h; refine W.seq ?_; refine W.pk ?_; refine .v rfl rfl (OpL.binI rfl rfl rfl rfl) ?_; refine .a rfl rfl rfl rfl ?_; refine .nil ?_; refine W.cond rfl (fun q4 => ?_) (fun q4 => ?_)
    ·have h := ifT q4 h; refine W.seq ?_; refine W.pk ?_; (iterate 2 refine .m rfl rfl rfl rfl ?_); refine .v rfl rfl (OpL.binI rfl rfl rfl rfl) ?_; refine .a rfl rfl rfl rfl ?_; refine .nil ?_; refine W.seq ?_; refine W.fork (mkSt [(10, some (.b ((decide (x1 > (IntKind.wrap .u64 (x2 - x1)))) || ((x1 == (IntKind.wrap .u64 (x2 - x1))) && ((bits .and .u64 x0 1) == 1)))))] [] 1000) ?_ ?_
     ·refine W.ret ?_; cases h; exact leaves (.inr rfl) rfl (.imm _) (cN (cN (cN (cN (cN .nil))))) rfl rfl
     ·clear h; refine W.pk ?_; (iterate 2 refine .m rfl rfl rfl rfl ?_); refine .v rfl rfl (OpL.binI rfl rfl rfl rfl) ?_; refine .m rfl rfl rfl rfl ?_; rcases tf (decide (x1 > (IntKind.wrap .u64 (x2 - x1)))) with g5 | g5
      ·(iterate 4 refine .x rfl (unmet rfl rfl rfl g5) ?_); (iterate 3 refine .x rfl (unmetU rfl rfl rfl) ?_); refine .x rfl (unmet rfl rfl rfl g5) ?_; refine .v rfl rfl (O.pickT g5 rfl rfl rfl) ?_; refine .a rfl rfl rfl rfl ?_; refine .nil ?_; exact toN (Gives.mkR [] (.c rfl (sbb (by simp only [g5, BL])) rfl .n) .n rfl rfl rfl)
      ·(iterate 2 refine .m rfl (met rfl rfl rfl g5) rfl rfl ?_); refine .v rfl (met rfl rfl rfl g5) (OpL.binI rfl rfl rfl rfl) ?_; refine .m rfl (met rfl rfl rfl g5) rfl rfl ?_; rcases tf (x1 == (IntKind.wrap .u64 (x2 - x1))) with g6 | g6
       ·refine .m rfl (met rfl rfl rfl g6) rfl rfl ?_; (iterate 2 refine .v rfl (met rfl rfl rfl g6) (OpL.binI rfl rfl rfl rfl) ?_); refine .v rfl (met rfl rfl rfl g5) (O.pickT g6 rfl rfl rfl) ?_; refine .v rfl rfl (O.pickF g5 rfl rfl rfl) ?_; refine .a rfl rfl rfl rfl ?_; refine .nil ?_; exact toN (Gives.mkR [] (.c rfl (sbb (by first | (simp only [g5, g6, BL]; done) | (repeat (first | rw [g5] | rw [g6])) <;> simp only [BL])) rfl .n) .n rfl rfl rfl)
       ·(iterate 3 refine .x rfl (unmet rfl rfl rfl g6) ?_); refine .v rfl (met rfl rfl rfl g5) (O.pickF g6 rfl rfl rfl) ?_; refine .v rfl rfl (O.pickF g5 rfl rfl rfl) ?_; refine .a rfl rfl rfl rfl ?_; refine .nil ?_; exact toN (Gives.mkR [] (.c rfl (sbb (by first | (simp only [g5, g6, BL]; done) | (repeat (first | rw [g5] | rw [g6])) <;> simp only [BL])) rfl .n) .n rfl rfl rfl)
    ·have h := ifF q4 h; refine W.skip ?_; refine W.seq ?_; refine W.pk ?_; refine .a rfl rfl rfl rfl ?_; refine .nil ?_; refine W.ret ?_; cases h; exact leaves (.inr rfl) rfl (.imm _) (cN (cN (cN (cN (cN .nil))))) rfl rfl

noncomputable def fixnum_signed.f (x0 : Int) (x1 : Bool) : Option (Int × Int) :=
  if (x1 && (x0 == 9223372036854775808)) = true then
    some (-9223372036854775808, 0)
  else
    if (decide (x0 ≥ 9223372036854775808)) = true then
      some (0, 9)
    else
      if x1 = true then
        some ((IntKind.wrap .i64 (0 - (IntKind.wrap .i64 x0))), 0)
      else
        some ((IntKind.wrap .i64 x0), 0)
set_option maxRecDepth 100000 in
set_option maxHeartbeats 4000000 in
theorem fixnum_signed.ok {x0 : Int} {x1 : Bool} {r : Int × Int} (h : fixnum_signed.f x0 x1 = some r) : Pm.Spec prog 49 [.imm (.val (.int .u64 x0)), .imm (.val (.bool x1))] (.tup [.imm (.val (.int .i64 r.1)), .imm (.val (.int .i64 r.2))]) [none, none] := by
 unfold fixnum_signed.f at h; refine Pm.Spec.of_body Try.func49 rfl (by kernel_rfl) (Nat.le_of_ble_eq_true rfl) (Nat.le_of_ble_eq_true rfl) ?_; refine W.ghost (σ' := (mkSt [(0, some (.imm (.val (.int .u64 x0)))), (1, some (.b x1))] [] 1000)) (Gives.entry (.c rfl (.c rfl .n)) .n) ?_; refine W.seq ?_; refine W.pk ?_; (iterate 2 refine .a rfl rfl rfl rfl ?_); refine .nil ?_; refine W.seq ?_; refine W.block ?_; refine W.seq ?_; refine W.fork (mkSt [(0, some (.imm (.val (.int .u64 x0)))), (1, some (.b x1)), (6, some (.b (x1 && (x0 == 9223372036854775808))))] [] 1000) ?_ ?_
 ·refine W.cond rfl (fun q2 => ?_) (fun q2 => ?_)
  ·have h := ifT q2 h; refine W.seq ?_; refine W.pk ?_; (iterate 2 refine .a rfl rfl rfl rfl ?_); refine .nil ?_; refine W.ret ?_; cases h; exact leaves (.inr rfl) rfl (.tup _ _ _ _ (cC (.imm _) (cC (.imm _) .nil))) (cN (cN .nil)) rfl rfl
  ·have h := ifF q2 h; refine W.seq ?_; refine W.pk ?_; refine .m rfl rfl rfl rfl ?_; refine .v rfl rfl (OpL.binI rfl rfl rfl rfl) ?_; refine .a rfl rfl rfl rfl ?_; refine .nil ?_; refine W.cond rfl (fun q3 => ?_) (fun q3 => ?_)
   ·have h := ifT q3 h; refine W.seq ?_; refine W.pk ?_; (iterate 2 refine .a rfl rfl rfl rfl ?_); refine .nil ?_; refine W.ret ?_; cases h; exact leaves (.inr rfl) rfl (.tup _ _ _ _ (cC (.imm _) (cC (.imm _) .nil))) (cN (cN .nil)) rfl rfl
   ·have h := ifF q3 h; refine W.seq ?_; refine W.pk ?_; refine .m rfl rfl rfl rfl ?_; refine .a rfl rfl rfl rfl ?_; refine .nil ?_; refine W.cond rfl (fun q4 => ?_) (fun q4 => ?_)
    ·have h := ifT q4 h; refine W.seq ?_; refine W.pk ?_; refine .m rfl rfl rfl rfl ?_; refine .v rfl rfl (O.conv h88 u3 rfl rfl) ?_; refine .v rfl rfl (OpL.unV rfl rfl rfl) ?_; (iterate 2 refine .a rfl rfl rfl rfl ?_); refine .nil ?_; refine W.ret ?_; cases h; exact leaves (.inr rfl) rfl (.tup _ _ _ _ (cC (.imm _) (cC (.imm _) .nil))) (cN (cN .nil)) rfl rfl
    ·have h := ifF q4 h; refine W.skip ?_; refine W.seq ?_; refine W.pk ?_; refine .m rfl rfl rfl rfl ?_; refine .v rfl rfl (O.conv h88 u3 rfl rfl) ?_; (iterate 2 refine .a rfl rfl rfl rfl ?_); refine .nil ?_; refine W.ret ?_; cases h; exact leaves (.inr rfl) rfl (.tup _ _ _ _ (cC (.imm _) (cC (.imm _) .nil))) (cN (cN .nil)) rfl rfl
 ·clear h; refine W.pk ?_; (iterate 2 refine .m rfl rfl rfl rfl ?_); rcases tf x1 with g1 | g1
  ·refine .m rfl (met rfl rfl rfl g1) rfl rfl ?_; refine .v rfl (met rfl rfl rfl g1) (OpL.binI rfl rfl rfl rfl) ?_; refine .v rfl rfl (O.pickT g1 rfl rfl rfl) ?_; refine .a rfl rfl rfl rfl ?_; refine .nil ?_; exact toN (Gives.mkR [] (.r rfl rfl (.r rfl rfl (.c rfl (sbb (by simp only [g1, BL])) rfl .n))) .n rfl rfl rfl)
  ·(iterate 2 refine .x rfl (unmet rfl rfl rfl g1) ?_); refine .v rfl rfl (O.pickF g1 rfl rfl rfl) ?_; refine .a rfl rfl rfl rfl ?_; refine .nil ?_; exact toN (Gives.mkR [] (.r rfl rfl (.r rfl rfl (.c rfl (sbb (by simp only [g1, BL])) rfl .n))) .n rfl rfl rfl)

noncomputable def fixnum_MulDiv.f (x0 : Int) (x1 : Int) (x2 : Int) (x3 : Int) : Option (Int × Int) :=
  if (((x2 == 0) || (decide (x3 < 1))) || (decide (x3 > 4))) = true then
    some (0, 1)
  else
    (fixnum_size.f x0).bind fun t4 =>
    (fixnum_size.f x1).bind fun t6 =>
    (fixnum_size.f x2).bind fun t8 =>
    (fixnum_Mul.f t4.1 t6.1).bind fun t10 =>
    (fixnum_Wide_Div.f t10 t8.1).bind fun t12 =>
    if (decide (t12.1.Hi > 0)) = true then
      some (0, 9)
    else
      (fixnum_up.f t12.1.Lo t12.2 t8.1 (!((!(t4.2 == t6.2)) == t8.2)) x3).bind fun t15 =>
      ((
        if t15 = true then
          if ((IntKind.wrap .u64 (t12.1.Lo + 1)) == 0) = true then
            some (.inl (0, 9))
          else
            some (.inr (IntKind.wrap .u64 (t12.1.Lo + 1)))
        else
          some (.inr t12.1.Lo) : Option ((Int × Int) ⊕ Int))).bind fun o20 =>
      match o20 with
      | .inl r28 => some r28
      | .inr w22 =>
        (fixnum_signed.f w22 (!((!(t4.2 == t6.2)) == t8.2))).bind fun t26 =>
        some (t26.1, t26.2)
set_option maxRecDepth 100000 in
set_option maxHeartbeats 4000000 in
theorem fixnum_MulDiv.ok {x0 : Int} {x1 : Int} {x2 : Int} {x3 : Int} {r : Int × Int} (h : fixnum_MulDiv.f x0 x1 x2 x3 = some r) : Pm.Spec prog 33 [.imm (.val (.int .i64 x0)), .imm (.val (.int .i64 x1)), .imm (.val (.int .i64 x2)), .imm (.val (.int .i64 x3))] (.tup [.imm (.val (.int .i64 r.1)), .imm (.val (.int .i64 r.2))]) [none, none, none, none] := by
 unfold fixnum_MulDiv.f at h; refine Pm.Spec.of_body Try.func33 rfl (by kernel_rfl) (Nat.le_of_ble_eq_true rfl) (Nat.le_of_ble_eq_true rfl) ?_; refine W.ghost (σ' := (mkSt [(0, some (.i x0)), (1, some (.i x1)), (2, some (.i x2)), (3, some (.i x3))] [] 1000)) (Gives.entry (.c rfl (.c rfl (.c rfl (.c rfl .n)))) .n) ?_; refine W.seq ?_; refine W.pk ?_; (iterate 2 refine .a rfl rfl rfl rfl ?_); refine .nil ?_; (iterate 2 refine W.seq ?_); refine W.fork (mkSt [(0, some (.i x0)), (1, some (.i x1)), (2, some (.i x2)), (3, some (.i x3)), (28, some (.b (((x2 == 0) || (decide (x3 < 1))) || (decide (x3 > 4)))))] [] 1000) ?_ ?_
 ·refine W.cond rfl (fun q3 => ?_) (fun q3 => ?_)
  ·have h := ifT q3 h; refine W.seq ?_; refine W.pk ?_; (iterate 2 refine .a rfl rfl rfl rfl ?_); refine .nil ?_; refine W.ret ?_; cases h; exact leaves (.inr rfl) rfl (.tup _ _ _ _ (cC (.imm _) (cC (.imm _) .nil))) (cN (cN (cN (cN .nil)))) rfl rfl
  ·have h := ifF q3 h; refine W.skip ?_; refine W.seq ?_; obtain ⟨t4, b5, h⟩ := bnd1 h; refine W.pk ?_; refine .m rfl rfl rfl rfl ?_; refine .call (.tup [.imm (.val (.int .u64 t4.1)), .b t4.2]) [] 0 (fixnum_size.ok b5) rfl rfl rfl ca45 rfl rfl (cC (.imm _) .nil) rfl rfl rfl rfl rfl ?_; refine .m rfl rfl rfl rfl ?_; (iterate 2 refine .v rfl rfl (OpL.extract rfl rfl rfl) ?_); (iterate 2 refine .a rfl rfl rfl rfl ?_); refine .nil ?_; refine W.seq ?_; obtain ⟨t6, b7, h⟩ := bnd1 h; refine W.pk ?_; refine .m rfl rfl rfl rfl ?_; refine .call (.tup [.imm (.val (.int .u64 t6.1)), .b t6.2]) [] 0 (fixnum_size.ok b7) rfl rfl rfl ca45 rfl rfl (cC (.imm _) .nil) rfl rfl rfl rfl rfl ?_; refine .m rfl rfl rfl rfl ?_; (iterate 2 refine .v rfl rfl (OpL.extract rfl rfl rfl) ?_); (iterate 2 refine .a rfl rfl rfl rfl ?_); refine .nil ?_; refine W.seq ?_; obtain ⟨t8, b9, h⟩ := bnd1 h; refine W.pk ?_; refine .m rfl rfl rfl rfl ?_; refine .call (.tup [.imm (.val (.int .u64 t8.1)), .b t8.2]) [] 0 (fixnum_size.ok b9) rfl rfl rfl ca45 rfl rfl (cC (.imm _) .nil) rfl rfl rfl rfl rfl ?_; refine .m rfl rfl rfl rfl ?_; (iterate 2 refine .v rfl rfl (OpL.extract rfl rfl rfl) ?_); (iterate 2 refine .a rfl rfl rfl rfl ?_); refine .nil ?_; refine W.seq ?_; refine W.pk ?_; (iterate 2 refine .m rfl rfl rfl rfl ?_); refine .v rfl rfl (OpL.neB rfl u4 rfl rfl) ?_; refine .m rfl rfl rfl rfl ?_; refine .v rfl rfl (OpL.neB rfl u4 rfl rfl) ?_; refine .a rfl rfl rfl rfl ?_; refine .nil ?_; refine W.seq ?_; obtain ⟨t10, b11, h⟩ := bnd1 h; obtain ⟨t12, b13, h⟩ := bnd1 h; refine W.pk ?_; (iterate 2 refine .m rfl rfl rfl rfl ?_); refine .call (.agg [.imm (.val (.int .u64 t10.Hi)), .imm (.val (.int .u64 t10.Lo))]) [] 0 (fixnum_Mul.ok b11) rfl rfl rfl ca46 rfl rfl (cC (.imm _) (cC (.imm _) .nil)) rfl rfl rfl rfl rfl ?_; refine .m rfl rfl rfl rfl ?_; refine .call (.tup [.agg [.imm (.val (.int .u64 t12.1.Hi)), .imm (.val (.int .u64 t12.1.Lo))], .imm (.val (.int .u64 t12.2))]) [] 0 (fixnum_Wide_Div.ok b13) rfl rfl rfl ca47 rfl rfl (cC (.agg _ _ _ _ (cC (.imm _) (cC (.imm _) .nil))) (cC (.imm _) .nil)) rfl rfl rfl rfl rfl ?_; refine .m rfl rfl rfl rfl ?_; (iterate 2 refine .v rfl rfl (OpL.extract rfl rfl rfl) ?_); refine .t rfl rfl (O.alloc z92 rfl) ?_; refine .s rfl rfl (O.st ty92 rfl rfl rfl rfl rfl rfl rfl rfl rfl rfl (all' := [.imm (.val (.int .u64 t12.1.Hi)), .imm (.val (.int .u64 t12.1.Lo))]) rfl) ?_; refine .a rfl rfl rfl rfl ?_; refine .nil ?_; (iterate 2 refine W.seq ?_); refine W.pk ?_; refine .v rfl rfl (O.fld fld92_0 rfl rfl rfl) ?_; refine .v rfl rfl (O.ld (y := .imm (.val (.int .u64 t12.1.Hi))) ty88 rfl rfl rfl) ?_; refine .v rfl rfl (OpL.binI rfl rfl rfl rfl) ?_; refine .nil ?_; refine W.cond rfl (fun q14 => ?_) (fun q14 => ?_)
   ·have h := ifT q14 h; refine W.seq ?_; refine W.pk ?_; (iterate 2 refine .a rfl rfl rfl rfl ?_); refine .nil ?_; refine W.ret ?_; cases h; exact leaves (.inr rfl) rfl (.tup _ _ _ _ (cC (.imm _) (cC (.imm _) .nil))) (cN (cN (cN (cN .nil)))) rfl rfl
   ·have h := ifF q14 h; refine W.skip ?_; (iterate 2 refine W.seq ?_); obtain ⟨t15, b16, h⟩ := bnd1 h; refine W.pk ?_; refine .v rfl rfl (O.fld fld92_1 rfl rfl rfl) ?_; refine .v rfl rfl (O.ld (y := .imm (.val (.int .u64 t12.1.Lo))) ty88 rfl rfl rfl) ?_; (iterate 4 refine .m rfl rfl rfl rfl ?_); refine .call (.b t15) [] 0 (fixnum_up.ok b16) rfl rfl rfl ca48 rfl rfl (cC (.imm _) (cC (.imm _) (cC (.imm _) (cC (.imm _) (cC (.imm _) .nil))))) rfl rfl rfl rfl rfl ?_; refine .nil ?_; obtain ⟨o20, b21, z23⟩ := bnd1 h; refine W.fork2 (out := o20) (fun (w22 : Int) => mkSt [(16, some (.b (!((!(t4.2 == t6.2)) == t8.2)))), (17, some (.ptr 1000 0))] [(1000, some (.box [.imm (.val (.int .u64 t12.1.Hi)), .imm (.val (.int .u64 w22))]))] 1001) ?_ ?_
    ·clear h; have h := b21; refine W.cond rfl (fun q24 => ?_) (fun q24 => ?_)
     ·have h := ifT q24 h; refine W.seq ?_; refine W.pk ?_; refine .v rfl rfl (O.fld fld92_1 rfl rfl rfl) ?_; refine .v rfl rfl (O.ld (y := .imm (.val (.int .u64 t12.1.Lo))) ty88 rfl rfl rfl) ?_; refine .v rfl rfl (OpL.binI rfl rfl rfl rfl) ?_; refine .v rfl rfl (O.fld fld92_1 rfl rfl rfl) ?_; refine .s rfl rfl (O.st ty88 rfl rfl rfl rfl rfl rfl rfl rfl rfl rfl (all' := [.imm (.val (.int .u64 t12.1.Hi)), .imm (.val (.int .u64 (IntKind.wrap .u64 (t12.1.Lo + 1))))]) rfl) ?_; refine .nil ?_; refine W.seq ?_; refine W.pk ?_; refine .v rfl rfl (O.fld fld92_1 rfl rfl rfl) ?_; refine .v rfl rfl (O.ld (y := .imm (.val (.int .u64 (IntKind.wrap .u64 (t12.1.Lo + 1))))) ty88 rfl rfl rfl) ?_; refine .v rfl rfl (OpL.binI rfl rfl rfl rfl) ?_; refine .nil ?_; refine W.cond rfl (fun q25 => ?_) (fun q25 => ?_)
      ·have h := ifT q25 h; refine W.seq ?_; refine W.pk ?_; (iterate 2 refine .a rfl rfl rfl rfl ?_); refine .nil ?_; refine W.ret ?_; cases h; have h := z23; dsimp only at h; refine fkR ?_; cases h; exact leaves (.inr rfl) rfl (.tup _ _ _ _ (cC (.imm _) (cC (.imm _) .nil))) (cN (cN (cN (cN .nil)))) rfl rfl
      ·have h := ifF q25 h; refine W.skip ?_; cases h; exact fkN (Gives.mkR [] (.e rfl rfl) (.r rfl rfl rfl .n) rfl rfl rfl)
     ·have h := ifF q24 h; refine W.skip ?_; cases h; exact fkN (Gives.mkR [] (.e rfl rfl) (.r rfl rfl rfl .n) rfl rfl rfl)
    ·intro w22 e_; subst e_; clear h; have h := z23; dsimp only at h; refine W.seq ?_; obtain ⟨t26, b27, h⟩ := bnd1 h; refine W.pk ?_; refine .v rfl rfl (O.fld fld92_1 rfl rfl rfl) ?_; refine .v rfl rfl (O.ld (y := .imm (.val (.int .u64 w22))) ty88 rfl rfl rfl) ?_; refine .m rfl rfl rfl rfl ?_; refine .call (.tup [.i t26.1, .i t26.2]) [] 0 (fixnum_signed.ok b27) rfl rfl rfl ca49 rfl rfl (cC (.imm _) (cC (.imm _) .nil)) rfl rfl rfl rfl rfl ?_; (iterate 2 refine .v rfl rfl (OpL.extract rfl rfl rfl) ?_); (iterate 2 refine .a rfl rfl rfl rfl ?_); refine .nil ?_; refine W.ret ?_; cases h; exact leaves (.inr rfl) rfl (.tup _ _ _ _ (cC (.imm _) (cC (.imm _) .nil))) (cN (cN (cN (cN .nil)))) rfl rfl
 ·clear h; refine W.pk ?_; refine .m rfl rfl rfl rfl ?_; refine .v rfl rfl (OpL.binI rfl rfl rfl rfl) ?_; refine .m rfl rfl rfl rfl ?_; rcases tf (x2 == 0) with g1 | g1
  ·(iterate 2 refine .x rfl (unmet rfl rfl rfl g1) ?_); refine .v rfl rfl (O.pickT g1 rfl rfl rfl) ?_; refine .m rfl rfl rfl rfl ?_; (iterate 2 refine .x rfl (unmet rfl rfl rfl rfl) ?_); refine .v rfl rfl (O.pickT rfl rfl rfl rfl) ?_; refine .nil ?_; exact toN (Gives.mkR [] (.r rfl rfl (.r rfl rfl (.r rfl rfl (.r rfl rfl (.c rfl (sbb (by simp only [g1, BL])) rfl .n))))) .n rfl rfl rfl)
  ·refine .m rfl (met rfl rfl rfl g1) rfl rfl ?_; refine .v rfl (met rfl rfl rfl g1) (OpL.binI rfl rfl rfl rfl) ?_; refine .v rfl rfl (O.pickF g1 rfl rfl rfl) ?_; refine .m rfl rfl rfl rfl ?_; rcases tf (decide (x3 < 1)) with g2 | g2
   ·(iterate 2 refine .x rfl (unmet rfl rfl rfl g2) ?_); refine .v rfl rfl (O.pickT g2 rfl rfl rfl) ?_; refine .nil ?_; exact toN (Gives.mkR [] (.r rfl rfl (.r rfl rfl (.r rfl rfl (.r rfl rfl (.c rfl (sbb (by first | (simp only [g1, g2, BL]; done) | (repeat (first | rw [g1] | rw [g2])) <;> simp only [BL])) rfl .n))))) .n rfl rfl rfl)
   ·refine .m rfl (met rfl rfl rfl g2) rfl rfl ?_; refine .v rfl (met rfl rfl rfl g2) (OpL.binI rfl rfl rfl rfl) ?_; refine .v rfl rfl (O.pickF g2 rfl rfl rfl) ?_; refine .nil ?_; exact toN (Gives.mkR [] (.r rfl rfl (.r rfl rfl (.r rfl rfl (.r rfl rfl (.c rfl (sbb (by first | (simp only [g1, g2, BL]; done) | (repeat (first | rw [g1] | rw [g2])) <;> simp only [BL])) rfl .n))))) .n rfl rfl rfl)

noncomputable def asset_Worth.f (x0 : Int) (x1 : Int) : Option (Int × Int) :=
  if ((((decide (x0 < 0)) || (decide (x0 > 1125899906842624))) || (decide (x1 < 1))) || (decide (x1 > 4294967296))) = true then
    some (0, 1)
  else
    (fixnum_MulDiv.f x0 x1 1000000 1).bind fun t5 =>
    some (t5.1, t5.2)
set_option maxRecDepth 100000 in
set_option maxHeartbeats 4000000 in
theorem asset_Worth.ok {x0 : Int} {x1 : Int} {r : Int × Int} (h : asset_Worth.f x0 x1 = some r) : Pm.Spec prog 10 [.imm (.val (.int .i64 x0)), .imm (.val (.int .i64 x1))] (.tup [.imm (.val (.int .i64 r.1)), .imm (.val (.int .i64 r.2))]) [none, none] := by
 unfold asset_Worth.f at h; refine Pm.Spec.of_body Try.func10 rfl (by kernel_rfl) (Nat.le_of_ble_eq_true rfl) (Nat.le_of_ble_eq_true rfl) ?_; refine W.ghost (σ' := (mkSt [(0, some (.i x0)), (1, some (.i x1))] [] 1000)) (Gives.entry (.c rfl (.c rfl .n)) .n) ?_; refine W.seq ?_; refine W.pk ?_; (iterate 2 refine .a rfl rfl rfl rfl ?_); refine .nil ?_; (iterate 2 refine W.seq ?_); refine W.fork (mkSt [(0, some (.i x0)), (1, some (.i x1)), (19, some (.b ((((decide (x0 < 0)) || (decide (x0 > 1125899906842624))) || (decide (x1 < 1))) || (decide (x1 > 4294967296)))))] [] 1000) ?_ ?_
 ·refine W.cond rfl (fun q4 => ?_) (fun q4 => ?_)
  ·have h := ifT q4 h; refine W.seq ?_; refine W.pk ?_; (iterate 2 refine .a rfl rfl rfl rfl ?_); refine .nil ?_; refine W.ret ?_; cases h; exact leaves (.inr rfl) rfl (.tup _ _ _ _ (cC (.imm _) (cC (.imm _) .nil))) (cN (cN .nil)) rfl rfl
  ·have h := ifF q4 h; refine W.skip ?_; refine W.seq ?_; obtain ⟨t5, b6, h⟩ := bnd1 h; refine W.pk ?_; (iterate 2 refine .m rfl rfl rfl rfl ?_); refine .call (.tup [.i t5.1, .i t5.2]) [] 0 (fixnum_MulDiv.ok b6) rfl rfl rfl ca33 rfl rfl (cC (.imm _) (cC (.imm _) (cC (.imm _) (cC (.imm _) .nil)))) rfl rfl rfl rfl rfl ?_; (iterate 2 refine .v rfl rfl (OpL.extract rfl rfl rfl) ?_); (iterate 2 refine .a rfl rfl rfl rfl ?_); refine .nil ?_; refine W.ret ?_; cases h; exact leaves (.inr rfl) rfl (.tup _ _ _ _ (cC (.imm _) (cC (.imm _) .nil))) (cN (cN .nil)) rfl rfl
 ·clear h; refine W.pk ?_; refine .m rfl rfl rfl rfl ?_; refine .v rfl rfl (OpL.binI rfl rfl rfl rfl) ?_; refine .m rfl rfl rfl rfl ?_; rcases tf (decide (x0 < 0)) with g1 | g1
  ·(iterate 2 refine .x rfl (unmet rfl rfl rfl g1) ?_); refine .v rfl rfl (O.pickT g1 rfl rfl rfl) ?_; refine .m rfl rfl rfl rfl ?_; (iterate 2 refine .x rfl (unmet rfl rfl rfl rfl) ?_); refine .v rfl rfl (O.pickT rfl rfl rfl rfl) ?_; refine .m rfl rfl rfl rfl ?_; (iterate 2 refine .x rfl (unmet rfl rfl rfl rfl) ?_); refine .v rfl rfl (O.pickT rfl rfl rfl rfl) ?_; refine .nil ?_; exact toN (Gives.mkR [] (.r rfl rfl (.r rfl rfl (.c rfl (sbb (by simp only [g1, BL])) rfl .n))) .n rfl rfl rfl)
  ·refine .m rfl (met rfl rfl rfl g1) rfl rfl ?_; refine .v rfl (met rfl rfl rfl g1) (OpL.binI rfl rfl rfl rfl) ?_; refine .v rfl rfl (O.pickF g1 rfl rfl rfl) ?_; refine .m rfl rfl rfl rfl ?_; rcases tf (decide (x0 > 1125899906842624)) with g2 | g2
   ·(iterate 2 refine .x rfl (unmet rfl rfl rfl g2) ?_); refine .v rfl rfl (O.pickT g2 rfl rfl rfl) ?_; refine .m rfl rfl rfl rfl ?_; (iterate 2 refine .x rfl (unmet rfl rfl rfl rfl) ?_); refine .v rfl rfl (O.pickT rfl rfl rfl rfl) ?_; refine .nil ?_; exact toN (Gives.mkR [] (.r rfl rfl (.r rfl rfl (.c rfl (sbb (by first | (simp only [g1, g2, BL]; done) | (repeat (first | rw [g1] | rw [g2])) <;> simp only [BL])) rfl .n))) .n rfl rfl rfl)
   ·refine .m rfl (met rfl rfl rfl g2) rfl rfl ?_; refine .v rfl (met rfl rfl rfl g2) (OpL.binI rfl rfl rfl rfl) ?_; refine .v rfl rfl (O.pickF g2 rfl rfl rfl) ?_; refine .m rfl rfl rfl rfl ?_; rcases tf (decide (x1 < 1)) with g3 | g3
    ·(iterate 2 refine .x rfl (unmet rfl rfl rfl g3) ?_); refine .v rfl rfl (O.pickT g3 rfl rfl rfl) ?_; refine .nil ?_; exact toN (Gives.mkR [] (.r rfl rfl (.r rfl rfl (.c rfl (sbb (by first | (simp only [g1, g2, g3, BL]; done) | (repeat (first | rw [g1] | rw [g2] | rw [g3])) <;> simp only [BL])) rfl .n))) .n rfl rfl rfl)
    ·refine .m rfl (met rfl rfl rfl g3) rfl rfl ?_; refine .v rfl (met rfl rfl rfl g3) (OpL.binI rfl rfl rfl rfl) ?_; refine .v rfl rfl (O.pickF g3 rfl rfl rfl) ?_; refine .nil ?_; exact toN (Gives.mkR [] (.r rfl rfl (.r rfl rfl (.c rfl (sbb (by first | (simp only [g1, g2, g3, BL]; done) | (repeat (first | rw [g1] | rw [g2] | rw [g3])) <;> simp only [BL])) rfl .n))) .n rfl rfl rfl)

noncomputable def asset_Book_Value_v2.f (x0 : asset_Book) (x1 : api_Lot) : Option (Int × Int) :=
  if (!x0.made) = true then
    some (0, 3)
  else
    (asset_Book_place.f x0 x1.ISIN).bind fun t2 =>
    if (!t2.2) = true then
      some (0, 21)
    else
      (asset_Book_Price.f x0 x1.ISIN).bind fun t5 =>
      if (!t5.2) = true then
        some (0, 31)
      else
        (asset_Worth.f x1.Qty t5.1).bind fun t8 =>
        some (t8.1, t8.2)
set_option maxRecDepth 100000 in
set_option maxHeartbeats 4000000 in
theorem asset_Book_Value_v2.ok {x0 : asset_Book} {x1 : api_Lot} {r : Int × Int} (h : asset_Book_Value_v2.f x0 x1 = some r) : Pm.Spec prog 26 [.imm (.fp (asset_Book.enc x0)), .agg [.imm (.val (.string (tx x1.ISIN))), .imm (.val (.int .i64 x1.Qty))]] (.tup [.imm (.val (.int .i64 r.1)), .imm (.val (.int .i64 r.2))]) [none, none] := by
 unfold asset_Book_Value_v2.f at h; refine Pm.Spec.of_body Try.func26 rfl (by kernel_rfl) (Nat.le_of_ble_eq_true rfl) (Nat.le_of_ble_eq_true rfl) ?_; refine W.ghost (σ' := (mkSt [(0, some (.imm (.fp (asset_Book.enc x0)))), (1, some (.agg [.s x1.ISIN, .i x1.Qty]))] [] 1000)) (Gives.entry (.c rfl (.c rfl .n)) .n) ?_; refine W.seq ?_; refine W.pk ?_; refine .t rfl rfl (O.box rfl rfl rfl rfl rfl) ?_; (iterate 2 refine .a rfl rfl rfl rfl ?_); refine .nil ?_; (iterate 2 refine W.seq ?_); refine W.pk ?_; refine .m rfl rfl rfl rfl ?_; refine .v rfl rfl (OpL.eqP rfl u30 rfl rfl rfl) ?_; refine .m rfl rfl rfl rfl ?_; refine .m rfl (met rfl rfl rfl rfl) rfl rfl ?_; refine .v rfl (met rfl rfl rfl rfl) (OpL.nilP rfl rfl rfl) ?_; refine .v rfl (met rfl rfl rfl rfl) (O.fld fld71_2 rfl rfl rfl) ?_; refine .v rfl (met rfl rfl rfl rfl) (O.ld (y := .b x0.made) ty4 rfl rfl rfl) ?_; refine .v rfl (met rfl rfl rfl rfl) (OpL.unV rfl rfl rfl) ?_; refine .v rfl rfl (O.pickF rfl rfl rfl rfl) ?_; refine .nil ?_; refine W.cond rfl (fun q1 => ?_) (fun q1 => ?_)
 ·have h := ifT q1 h; refine W.seq ?_; refine W.pk ?_; (iterate 2 refine .a rfl rfl rfl rfl ?_); refine .nil ?_; refine W.ret ?_; cases h; exact leaves (.inr rfl) rfl (.tup _ _ _ _ (cC (.imm _) (cC (.imm _) .nil))) (cN (cN .nil)) rfl rfl
 ·have h := ifF q1 h; refine W.skip ?_; (iterate 2 refine W.seq ?_); obtain ⟨t2, b3, h⟩ := bnd1 h; refine W.pk ?_; refine .m rfl rfl rfl rfl ?_; refine .v rfl rfl (O.fld fld63_0 rfl rfl rfl) ?_; refine .v rfl rfl (O.ld (y := .s x1.ISIN) ty9 rfl rfl rfl) ?_; refine .call (.tup [.i t2.1, .b t2.2]) [] 0 (asset_Book_place_v2.ok b3) rfl rfl rfl ca34 rfl rfl (cC (.imm _) (cC (.imm _) .nil)) rfl rfl rfl rfl rfl ?_; refine .m rfl rfl rfl rfl ?_; (iterate 2 refine .v rfl rfl (OpL.extract rfl rfl rfl) ?_); (iterate 2 refine .a rfl rfl rfl rfl ?_); refine .nil ?_; refine W.seq ?_; refine W.pk ?_; refine .m rfl rfl rfl rfl ?_; refine .v rfl rfl (OpL.unV rfl rfl rfl) ?_; refine .nil ?_; refine W.cond rfl (fun q4 => ?_) (fun q4 => ?_)
  ·have h := ifT q4 h; refine W.seq ?_; refine W.pk ?_; (iterate 2 refine .a rfl rfl rfl rfl ?_); refine .nil ?_; refine W.ret ?_; cases h; exact leaves (.inr rfl) rfl (.tup _ _ _ _ (cC (.imm _) (cC (.imm _) .nil))) (cN (cN .nil)) rfl rfl
  ·have h := ifF q4 h; refine W.skip ?_; refine W.seq ?_; obtain ⟨t5, b6, h⟩ := bnd1 h; refine W.pk ?_; refine .m rfl rfl rfl rfl ?_; refine .v rfl rfl (O.fld fld63_0 rfl rfl rfl) ?_; refine .v rfl rfl (O.ld (y := .s x1.ISIN) ty9 rfl rfl rfl) ?_; refine .call (.tup [.i t5.1, .b t5.2]) [] 0 (asset_Book_Price.ok b6) rfl rfl rfl ca19 rfl rfl (cC (.imm _) (cC (.imm _) .nil)) rfl rfl rfl rfl rfl ?_; refine .m rfl rfl rfl rfl ?_; (iterate 2 refine .v rfl rfl (OpL.extract rfl rfl rfl) ?_); (iterate 2 refine .a rfl rfl rfl rfl ?_); refine .nil ?_; (iterate 2 refine W.seq ?_); refine W.pk ?_; refine .m rfl rfl rfl rfl ?_; refine .v rfl rfl (OpL.unV rfl rfl rfl) ?_; refine .nil ?_; refine W.cond rfl (fun q7 => ?_) (fun q7 => ?_)
   ·have h := ifT q7 h; refine W.seq ?_; refine W.pk ?_; (iterate 2 refine .a rfl rfl rfl rfl ?_); refine .nil ?_; refine W.ret ?_; cases h; exact leaves (.inr rfl) rfl (.tup _ _ _ _ (cC (.imm _) (cC (.imm _) .nil))) (cN (cN .nil)) rfl rfl
   ·have h := ifF q7 h; refine W.skip ?_; refine W.seq ?_; obtain ⟨t8, b9, h⟩ := bnd1 h; refine W.pk ?_; refine .v rfl rfl (O.fld fld63_1 rfl rfl rfl) ?_; refine .v rfl rfl (O.ld (y := .i x1.Qty) ty3 rfl rfl rfl) ?_; refine .m rfl rfl rfl rfl ?_; refine .call (.tup [.i t8.1, .i t8.2]) [] 0 (asset_Worth.ok b9) rfl rfl rfl ca10 rfl rfl (cC (.imm _) (cC (.imm _) .nil)) rfl rfl rfl rfl rfl ?_; (iterate 2 refine .v rfl rfl (OpL.extract rfl rfl rfl) ?_); (iterate 2 refine .a rfl rfl rfl rfl ?_); refine .nil ?_; refine W.ret ?_; cases h; exact leaves (.inr rfl) rfl (.tup _ _ _ _ (cC (.imm _) (cC (.imm _) .nil))) (cN (cN .nil)) rfl rfl

noncomputable def asset_Book_Get_v2.f (x0 : asset_Book) (x1 : Bs) : Option (api_Asset × Bool) :=
  (asset_Book_place.f x0 x1).bind fun t1 =>
  if (!t1.2) = true then
    some ((⟨[], 0, 0, 0, []⟩ : api_Asset), false)
  else
    if (0 : Int) ≤ t1.1 ∧ t1.1 < (List.length x0.l : Int) then
    some ((nth x0.l t1.1), true)
    else none
set_option maxRecDepth 100000 in
set_option maxHeartbeats 4000000 in
theorem asset_Book_Get_v2.ok {x0 : asset_Book} {x1 : Bs} {r : api_Asset × Bool} (h : asset_Book_Get_v2.f x0 x1 = some r) : Pm.Spec prog 18 [.imm (.fp (asset_Book.enc x0)), .imm (.val (.string (tx x1)))] (.tup [.agg [.imm (.val (.string (tx r.1.ISIN))), .imm (.val (.int .i64 r.1.Issuer)), .imm (.val (.int .i64 r.1.Rating)), .imm (.val (.int .i64 r.1.Maturity)), .imm (.val (.string (tx r.1.Currency)))], .imm (.val (.bool r.2))]) [none, none] := by
 unfold asset_Book_Get_v2.f at h; refine Pm.Spec.of_body Try.func18 rfl (by kernel_rfl) (Nat.le_of_ble_eq_true rfl) (Nat.le_of_ble_eq_true rfl) ?_; refine W.ghost (σ' := (mkSt [(0, some (.imm (.fp (asset_Book.enc x0)))), (1, some (.s x1))] [] 1000)) (Gives.entry (.c rfl (.c rfl .n)) .n) ?_; refine W.seq ?_; refine W.pk ?_; refine .t rfl rfl (O.alloc z29 rfl) ?_; refine .a rfl rfl rfl rfl ?_; refine .nil ?_; (iterate 2 refine W.seq ?_); refine W.pk ?_; refine .m rfl rfl rfl rfl ?_; refine .v rfl rfl (OpL.eqP rfl u30 rfl rfl rfl) ?_; refine .nil ?_; refine W.cond rfl (fun q => by cases q) (fun _ => ?_)
 refine W.skip ?_; refine W.seq ?_; obtain ⟨t1, b2, h⟩ := bnd1 h; refine W.pk ?_; (iterate 2 refine .m rfl rfl rfl rfl ?_); refine .call (.tup [.i t1.1, .b t1.2]) [] 0 (asset_Book_place_v2.ok b2) rfl rfl rfl ca34 rfl rfl (cC (.imm _) (cC (.imm _) .nil)) rfl rfl rfl rfl rfl ?_; refine .m rfl rfl rfl rfl ?_; (iterate 2 refine .v rfl rfl (OpL.extract rfl rfl rfl) ?_); (iterate 2 refine .a rfl rfl rfl rfl ?_); refine .nil ?_; (iterate 2 refine W.seq ?_); refine W.pk ?_; refine .m rfl rfl rfl rfl ?_; refine .v rfl rfl (OpL.unV rfl rfl rfl) ?_; refine .nil ?_; refine W.cond rfl (fun q3 => ?_) (fun q3 => ?_)
 ·have h := ifT q3 h; refine W.seq ?_; refine W.pk ?_; refine .v rfl rfl (O.build (out := [.s [], .i 0, .i 0, .i 0, .s []]) bl29 rfl rfl rfl rfl (by kernel_rfl)) ?_; refine .s rfl rfl (O.st ty29 rfl rfl rfl rfl rfl rfl rfl rfl rfl rfl (all' := [.s [], .i 0, .i 0, .i 0, .s []]) rfl) ?_; refine .a rfl rfl rfl rfl ?_; refine .nil ?_; refine W.ret ?_; cases h; exact leaves (.inr rfl) rfl (.tup _ _ _ _ (cC (.agg _ _ _ _ (cC (.imm _) (cC (.imm _) (cC (.imm _) (cC (.imm _) (cC (.imm _) .nil)))))) (cC (.imm _) .nil))) (cN (cN .nil)) rfl rfl
 ·have h := ifF q3 h; refine W.skip ?_; refine W.seq ?_; obtain ⟨c4, h⟩ := chk h; refine W.pk ?_; refine .m rfl rfl rfl rfl ?_; refine .v rfl rfl (OpL.nilP rfl rfl rfl) ?_; refine .v rfl rfl (O.fld fld71_0 rfl rfl rfl) ?_; refine .v rfl rfl (O.ld (y := .imm (.row 5 (List.map api_Asset.enc x0.l))) ty68 rfl rfl rfl) ?_; refine .m rfl rfl rfl rfl ?_; refine .v rfl rfl (O.idx sl68 c4 rfl rfl rfl) ?_; refine .v rfl rfl (O.ldN ty29 rfl rfl rfl) ?_; refine .s rfl rfl (O.st ty29 rfl rfl rfl rfl rfl rfl rfl rfl rfl rfl (all' := [.s ((nth x0.l t1.1).ISIN), .i ((nth x0.l t1.1).Issuer), .i ((nth x0.l t1.1).Rating), .i ((nth x0.l t1.1).Maturity), .s ((nth x0.l t1.1).Currency)]) rfl) ?_; refine .a rfl rfl rfl rfl ?_; refine .nil ?_; refine W.ret ?_; cases h; exact leaves (.inr rfl) rfl (.tup _ _ _ _ (cC (.agg _ _ _ _ (cC (.imm _) (cC (.imm _) (cC (.imm _) (cC (.imm _) (cC (.imm _) .nil)))))) (cC (.imm _) .nil))) (cN (cN .nil)) rfl rfl

noncomputable def asset_Book_Add_v3.f (x0 : asset_Book) (x1 : api_Asset) : Option (Int) :=
  if (!x0.made) = true then
    some 3
  else
    (isin_Asset.f x1).bind fun t2 =>
    if (t2 != 0) = true then
      some t2
    else
      (asset_Book_place.f x0 x1.ISIN).bind fun t5 =>
      if t5.2 = true then
        some 7
      else
        if (decide ((List.length x0.l : Int) ≥ 64)) = true then
          some 18
        else
          none
set_option maxRecDepth 100000 in
set_option maxHeartbeats 4000000 in
theorem asset_Book_Add_v3.ok {x0 : asset_Book} {x1 : api_Asset} {r : Int} (h : asset_Book_Add_v3.f x0 x1 = some r) : Pm.Spec prog 29 [.imm (.fp (asset_Book.enc x0)), .agg [.imm (.val (.string (tx x1.ISIN))), .imm (.val (.int .i64 x1.Issuer)), .imm (.val (.int .i64 x1.Rating)), .imm (.val (.int .i64 x1.Maturity)), .imm (.val (.string (tx x1.Currency)))]] (.imm (.val (.int .i64 r))) [none, none] := by
 unfold asset_Book_Add_v3.f at h; refine Pm.Spec.of_body Try.func29 rfl (by kernel_rfl) (Nat.le_of_ble_eq_true rfl) (Nat.le_of_ble_eq_true rfl) ?_; refine W.ghost (σ' := (mkSt [(0, some (.imm (.fp (asset_Book.enc x0)))), (1, some (.agg (api_Asset.av x1)))] [] 1000)) (Gives.entry (.c rfl (.c rfl .n)) .n) ?_; refine W.seq ?_; refine W.pk ?_; refine .t rfl rfl (O.box rfl rfl rfl rfl rfl) ?_; refine .a rfl rfl rfl rfl ?_; refine .nil ?_; (iterate 2 refine W.seq ?_); refine W.pk ?_; refine .m rfl rfl rfl rfl ?_; refine .v rfl rfl (OpL.eqP rfl u30 rfl rfl rfl) ?_; refine .m rfl rfl rfl rfl ?_; refine .m rfl (met rfl rfl rfl rfl) rfl rfl ?_; refine .v rfl (met rfl rfl rfl rfl) (OpL.nilP rfl rfl rfl) ?_; refine .v rfl (met rfl rfl rfl rfl) (O.fld fld71_2 rfl rfl rfl) ?_; refine .v rfl (met rfl rfl rfl rfl) (O.ld (y := .b x0.made) ty4 rfl rfl rfl) ?_; refine .v rfl (met rfl rfl rfl rfl) (OpL.unV rfl rfl rfl) ?_; refine .v rfl rfl (O.pickF rfl rfl rfl rfl) ?_; refine .nil ?_; refine W.cond rfl (fun q1 => ?_) (fun q1 => ?_)
 ·have h := ifT q1 h; refine W.seq ?_; refine W.pk ?_; refine .a rfl rfl rfl rfl ?_; refine .nil ?_; refine W.ret ?_; cases h; exact leaves (.inr rfl) rfl (.imm _) (cN (cN .nil)) rfl rfl
 ·have h := ifF q1 h; refine W.skip ?_; (iterate 2 refine W.seq ?_); obtain ⟨t2, b3, h⟩ := bnd1 h; refine W.pk ?_; refine .v rfl rfl (O.ldN ty29 rfl rfl rfl) ?_; refine .call (.i t2) [] 0 (isin_Asset.ok b3) rfl rfl rfl ca42 rfl rfl (cC (.agg _ _ _ _ (cC (.imm _) (cC (.imm _) (cC (.imm _) (cC (.imm _) (cC (.imm _) .nil)))))) .nil) rfl rfl rfl rfl rfl ?_; refine .a rfl rfl rfl rfl ?_; refine .nil ?_; refine W.seq ?_; refine W.pk ?_; refine .m rfl rfl rfl rfl ?_; refine .v rfl rfl (OpL.binI rfl rfl rfl rfl) ?_; refine .nil ?_; refine W.cond rfl (fun q4 => ?_) (fun q4 => ?_)
  ·have h := ifT q4 h; refine W.seq ?_; refine W.pk ?_; refine .m rfl rfl rfl rfl ?_; refine .a rfl rfl rfl rfl ?_; refine .nil ?_; refine W.ret ?_; cases h; exact leaves (.inr rfl) rfl (.imm _) (cN (cN .nil)) rfl rfl
  ·have h := ifF q4 h; refine W.skip ?_; refine W.seq ?_; obtain ⟨t5, b6, h⟩ := bnd1 h; refine W.pk ?_; refine .m rfl rfl rfl rfl ?_; refine .v rfl rfl (O.fld fld29_0 rfl rfl rfl) ?_; refine .v rfl rfl (O.ld (y := .s x1.ISIN) ty9 rfl rfl rfl) ?_; refine .call (.tup [.i t5.1, .b t5.2]) [] 0 (asset_Book_place_v2.ok b6) rfl rfl rfl ca34 rfl rfl (cC (.imm _) (cC (.imm _) .nil)) rfl rfl rfl rfl rfl ?_; refine .m rfl rfl rfl rfl ?_; (iterate 2 refine .v rfl rfl (OpL.extract rfl rfl rfl) ?_); (iterate 2 refine .a rfl rfl rfl rfl ?_); refine .nil ?_; refine W.seq ?_; refine W.block ?_; refine W.seq ?_; refine W.pk ?_; refine .m rfl rfl rfl rfl ?_; refine .a rfl rfl rfl rfl ?_; refine .nil ?_; refine W.cond rfl (fun q7 => ?_) (fun q7 => ?_)
   ·have h := ifT q7 h; refine W.seq ?_; refine W.pk ?_; refine .a rfl rfl rfl rfl ?_; refine .nil ?_; refine W.ret ?_; cases h; exact leaves (.inr rfl) rfl (.imm _) (cN (cN .nil)) rfl rfl
   ·have h := ifF q7 h; refine W.seq ?_; refine W.pk ?_; refine .m rfl rfl rfl rfl ?_; refine .v rfl rfl (OpL.nilP rfl rfl rfl) ?_; refine .v rfl rfl (O.fld fld71_0 rfl rfl rfl) ?_; refine .v rfl rfl (O.ld (y := .imm (.row 5 (List.map api_Asset.enc x0.l))) ty68 rfl rfl rfl) ?_; refine .v rfl rfl (O.lenR sl68 rfl rfl) ?_; refine .v rfl rfl (OpL.binI rfl rfl rfl rfl) ?_; refine .a rfl rfl rfl rfl ?_; refine .nil ?_; refine W.cond rfl (fun q8 => ?_) (fun q8 => ?_)
    ·have h := ifT q8 h; refine W.seq ?_; refine W.pk ?_; refine .a rfl rfl rfl rfl ?_; refine .nil ?_; refine W.ret ?_; cases h; exact leaves (.inr rfl) rfl (.imm _) (cN (cN .nil)) rfl rfl
    ·have h := ifF q8 h; cases h

set_option maxRecDepth 100000 in
theorem slices_Clone_api_Asset_v2.ok {x0 r : List api_Asset} (h : slices_Clone_api_Asset.f x0 = some r) : Pm.Spec prog 40 [.imm (.row 5 (List.map api_Asset.enc x0))] (.xown 29 5 (List.map api_Asset.enc r)) [none] := by
 obtain ⟨h1, rfl⟩ : (List.length x0) * 56 ≤ 140737488355328 ∧ x0 = r := by
   unfold slices_Clone_api_Asset.f at h
   split at h
   · rename_i h1; cases h; exact ⟨h1, rfl⟩
   · cases h
 refine Pm.Spec.of_body Try.func40 rfl (by kernel_rfl) (Nat.le_of_ble_eq_true rfl) (Nat.le_of_ble_eq_true rfl) ?_
 refine W.ghost (σ' := (mkSt [(0, some (.imm (.row 5 (List.map api_Asset.enc x0))))] [] 1000)) (Gives.entry (.c rfl .n) .n) ?_
 cases x0 with
 | cons x1 l1 =>
  refine W.seq ?_
  refine W.pk ?_
  refine .v rfl rfl (OpL.move (.inr rfl) rfl) ?_
  refine .nil ?_
  refine W.seq ?_
  refine W.seq ?_
  refine W.pk ?_
  refine .v rfl rfl (OpL.move (.inl rfl) rfl) ?_
  refine .v rfl rfl (O.eqRow sl68 rfl rfl rfl) ?_
  refine .nil ?_
  refine W.cond rfl (fun q => by cases q) (fun _ => ?_)
  refine W.skip ?_
  refine W.seq ?_
  refine W.pk ?_
  refine .t rfl rfl (O.lit (enc := api_Asset.enc) (l := []) sl68 rfl rfl rfl rfl rfl rfl rfl rfl rfl) ?_
  refine .v rfl rfl (OpL.move (.inl rfl) rfl) ?_
  have h2 : (List.length ([] : List api_Asset) + List.length (x1 :: l1 : List api_Asset)) * 56 ≤ 140737488355328 := by simpa using h1
  refine .t rfl rfl (O.app (l := []) sl68 api_Asset.ok h2 rfl rfl rfl rfl) ?_
  refine .v rfl rfl (OpL.move (.inr rfl) rfl) ?_
  refine .nil ?_
  refine W.ret ?_
  exact leaves (.inr rfl) rfl (.own _ _ _ _ rfl) (cN .nil) rfl rfl
 | nil =>
  refine W.emptyS 0 rfl fun A c => ?_
  cases A with
  | none =>
   refine W.seq ?_
   refine W.pk ?_
   refine .v rfl rfl (OpL.move (.inr rfl) rfl) ?_
   refine .nil ?_
   refine W.seq ?_
   refine W.seq ?_
   refine W.pk ?_
   refine .v rfl rfl (OpL.move (.inl rfl) rfl) ?_
   refine .v rfl rfl (O.eqSl sl68 rfl rfl rfl) ?_
   refine .nil ?_
   refine W.cond rfl (fun _ => ?_) (fun q => by cases q)
   refine W.seq ?_
   refine W.pk ?_
   refine .v rfl rfl (OpL.move (.inr rfl) rfl) ?_
   refine .nil ?_
   refine W.ret ?_
   exact leaves (.inr rfl) rfl (.nilown _ _) (cN .nil) rfl rfl
  | some p =>
   refine W.seq ?_
   refine W.pk ?_
   refine .v rfl rfl (OpL.move (.inr rfl) rfl) ?_
   refine .nil ?_
   refine W.seq ?_
   refine W.seq ?_
   refine W.pk ?_
   refine .v rfl rfl (OpL.move (.inl rfl) rfl) ?_
   refine .v rfl rfl (O.eqSl sl68 rfl rfl rfl) ?_
   refine .nil ?_
   refine W.cond rfl (fun q => by cases q) (fun _ => ?_)
   refine W.skip ?_
   refine W.ghost (Gives.emptyS 0 5 rfl) ?_
   refine W.seq ?_
   refine W.pk ?_
   refine .t rfl rfl (O.lit (enc := api_Asset.enc) (l := []) sl68 rfl rfl rfl rfl rfl rfl rfl rfl rfl) ?_
   refine .v rfl rfl (OpL.move (.inl rfl) rfl) ?_
   have h2 : (List.length ([] : List api_Asset) + List.length ([] : List api_Asset)) * 56 ≤ 140737488355328 := by simp
   refine .t rfl rfl (O.app (l := []) sl68 api_Asset.ok h2 rfl rfl rfl rfl) ?_
   refine .v rfl rfl (OpL.move (.inr rfl) rfl) ?_
   refine .nil ?_
   refine W.ret ?_
   exact leaves (.inr rfl) rfl (.own _ _ _ _ rfl) (cN .nil) rfl rfl

set_option maxRecDepth 100000 in
set_option maxHeartbeats 4000000 in
theorem asset_Book_All_v3.ok {x0 : asset_Book} {r : List api_Asset} (h : asset_Book_All.f x0 = some r) : Pm.Spec prog 31 [.imm (.fp (asset_Book.enc x0))] (.xown 29 5 (List.map api_Asset.enc r)) [none] := by
 unfold asset_Book_All.f at h; refine Pm.Spec.of_body Try.func31 rfl (by kernel_rfl) (Nat.le_of_ble_eq_true rfl) (Nat.le_of_ble_eq_true rfl) ?_; refine W.ghost (σ' := (mkSt [(0, some (.imm (.fp (asset_Book.enc x0))))] [] 1000)) (Gives.entry (.c rfl .n) .n) ?_; refine W.seq ?_; refine W.pk ?_; refine .a rfl rfl rfl rfl ?_; refine .nil ?_; (iterate 2 refine W.seq ?_); refine W.pk ?_; refine .m rfl rfl rfl rfl ?_; refine .v rfl rfl (OpL.eqP rfl u30 rfl rfl rfl) ?_; refine .nil ?_; refine W.cond rfl (fun q => by cases q) (fun _ => ?_)
 refine W.skip ?_; refine W.seq ?_; obtain ⟨t1, b2, h⟩ := bnd1 h; refine W.pk ?_; refine .m rfl rfl rfl rfl ?_; refine .v rfl rfl (OpL.nilP rfl rfl rfl) ?_; refine .v rfl rfl (O.fld fld71_0 rfl rfl rfl) ?_; refine .v rfl rfl (O.ld (y := .imm (.row 5 (List.map api_Asset.enc x0.l))) ty68 rfl rfl rfl) ?_; refine .call (.own 1000) [(1000, some (.rows 29 5 (List.map api_Asset.enc t1) false))] 1 (slices_Clone_api_Asset_v2.ok b2) rfl rfl rfl ca40 rfl rfl (cC (.imm _) .nil) rfl rfl rfl rfl rfl ?_; refine .a rfl rfl rfl rfl ?_; refine .nil ?_; refine W.ret ?_; cases h; exact leaves (.inr rfl) rfl (.own _ _ _ _ rfl) (cN .nil) rfl rfl

set_option maxRecDepth 100000 in
set_option maxHeartbeats 4000000 in
theorem asset_Book_Prices_v3.ok {x0 : asset_Book} {r : List api_Price} (h : asset_Book_Prices.f x0 = some r) : Pm.Spec prog 32 [.imm (.fp (asset_Book.enc x0))] (.xown 82 2 (List.map api_Price.enc r)) [none] := by
 unfold asset_Book_Prices.f at h; refine Pm.Spec.of_body Try.func32 rfl (by kernel_rfl) (Nat.le_of_ble_eq_true rfl) (Nat.le_of_ble_eq_true rfl) ?_; refine W.ghost (σ' := (mkSt [(0, some (.imm (.fp (asset_Book.enc x0))))] [] 1000)) (Gives.entry (.c rfl .n) .n) ?_; refine W.seq ?_; refine W.pk ?_; refine .a rfl rfl rfl rfl ?_; refine .nil ?_; (iterate 2 refine W.seq ?_); refine W.pk ?_; refine .m rfl rfl rfl rfl ?_; refine .v rfl rfl (OpL.eqP rfl u30 rfl rfl rfl) ?_; refine .nil ?_; refine W.cond rfl (fun q => by cases q) (fun _ => ?_)
 refine W.skip ?_; refine W.seq ?_; refine W.pk ?_; refine .a rfl rfl rfl rfl ?_; refine .nil ?_; (iterate 2 refine W.seq ?_); refine W.pk ?_; refine .m rfl rfl rfl rfl ?_; refine .v rfl rfl (OpL.nilP rfl rfl rfl) ?_; refine .v rfl rfl (O.fld fld71_0 rfl rfl rfl) ?_; refine .v rfl rfl (O.ld (y := .imm (.row 5 (List.map api_Asset.enc x0.l))) ty68 rfl rfl rfl) ?_; refine .v rfl rfl (O.lenR sl68 rfl rfl) ?_; refine .m rfl rfl rfl rfl ?_; refine .nil ?_; refine W.ghost (Gives.mintS 3 82 2 rfl) ?_; obtain ⟨o29, b30, h⟩ := bnd1 h; refine W.fork (mkSt [(3, some (.own 1000))] [(1000, some (.rows 82 2 (List.map api_Price.enc o29) false))] 1001) ?_ ?_
 ·refine W.seq ?_; refine W.pk ?_; refine .m rfl rfl rfl rfl ?_; refine .a rfl rfl rfl rfl ?_; refine .nil ?_; refine W.ret ?_; cases h; exact leaves (.inr rfl) rfl (.own _ _ _ _ rfl) (cN .nil) rfl rfl
 ·clear h; refine W.block ?_; refine W.loopF (fun (s_ : Int × (List api_Price)) => mkSt [(0, some (.imm (.fp (asset_Book.enc x0)))), (3, some (.own 1000)), (11, some (.imm (.row 5 (List.map api_Asset.enc x0.l)))), (12, some (.i (List.length x0.l : Int))), (13, some (.i s_.1))] [(1000, some (.rows 82 2 (List.map api_Price.enc s_.2) false))] 1001) b30 (Gives.mkR [] (.e rfl rfl) (.r rfl rfl rfl .n) rfl rfl rfl) ?_; rintro ⟨v14, v15⟩ s_ hr; have h : asset_Book_Prices.b0 x0 v14 v15 = some s_ := hr; unfold asset_Book_Prices.b0 at h; refine W.seq ?_; refine W.pk ?_; refine .v rfl rfl (OpL.binI rfl rfl rfl rfl) ?_; refine .nil ?_; refine W.seq ?_; refine W.cond rfl (fun q32 => ?_) (fun q32 => ?_)
  ·have h := ifT q32 h; refine W.skip ?_; refine W.seq ?_; refine W.block ?_; refine W.seq ?_; obtain ⟨c33, h⟩ := chk h; refine W.pk ?_; refine .m rfl rfl rfl rfl ?_; refine .v rfl rfl (O.idx sl68 c33 rfl rfl rfl) ?_; refine .v rfl rfl (O.ldN ty29 rfl rfl rfl) ?_; refine .t rfl rfl (O.alloc z29 rfl) ?_; refine .a rfl rfl rfl rfl ?_; refine .s rfl rfl (O.st ty29 rfl rfl rfl rfl rfl rfl rfl rfl rfl rfl (all' := [.s ((nth x0.l v14).ISIN), .i ((nth x0.l v14).Issuer), .i ((nth x0.l v14).Rating), .i ((nth x0.l v14).Maturity), .s ((nth x0.l v14).Currency)]) rfl) ?_; refine .nil ?_; refine W.seq ?_; obtain ⟨c34, h⟩ := chk h; refine W.pk ?_; refine .m rfl rfl rfl rfl ?_; refine .v rfl rfl (OpL.nilP rfl rfl rfl) ?_; refine .v rfl rfl (O.fld fld71_1 rfl rfl rfl) ?_; refine .v rfl rfl (O.ld (y := .imm (.row 1 (List.map (encI .i64) x0.prices))) ty69 rfl rfl rfl) ?_; refine .m rfl rfl rfl rfl ?_; refine .v rfl rfl (O.idx sl69 c34 rfl rfl rfl) ?_; refine .v rfl rfl (O.ld (y := .i (nth x0.prices v14)) ty3 rfl rfl rfl) ?_; refine .v rfl rfl (OpL.binI rfl rfl rfl rfl) ?_; refine .nil ?_; refine W.cond rfl (fun q35 => ?_) (fun q35 => ?_)
   ·have h := ifT q35 h; obtain ⟨c36, h⟩ := chk h; obtain ⟨c37, h⟩ := chk h; refine W.dk (unm 14 [0, 0, 2, 0, 8, 24, 56, 0, 248, 504, 1022, 2046, 4095, 8191]) rfl (by kernel_rfl) ?_; refine .m rfl rfl rfl rfl ?_; refine .v rfl rfl (O.fld fld29_0 rfl rfl rfl) ?_; refine .v rfl rfl (O.ld (y := .s ((nth x0.l v14).ISIN)) ty9 rfl rfl rfl) ?_; refine .m rfl rfl rfl rfl ?_; refine .v rfl rfl (OpL.nilP rfl rfl rfl) ?_; refine .v rfl rfl (O.fld fld71_1 rfl rfl rfl) ?_; refine .v rfl rfl (O.ld (y := .imm (.row 1 (List.map (encI .i64) x0.prices))) ty69 rfl rfl rfl) ?_; refine .m rfl rfl rfl rfl ?_; refine .v rfl rfl (O.idx sl69 c36 rfl rfl rfl) ?_; refine .v rfl rfl (O.ld (y := .i (nth x0.prices v14)) ty3 rfl rfl rfl) ?_; refine .v rfl rfl (O.build (out := [.s ((nth x0.l v14).ISIN), .i (nth x0.prices v14)]) bl82 rfl rfl rfl rfl (by kernel_rfl)) ?_; refine .t rfl rfl (O.lit (enc := api_Price.enc) (l := [(⟨(nth x0.l v14).ISIN, (nth x0.prices v14)⟩ : api_Price)]) sl49 rfl rfl rfl rfl rfl rfl rfl rfl rfl) ?_; refine .t rfl rfl (O.appO sl49 api_Price.ok c37 rfl rfl rfl rfl rfl) ?_; refine .a rfl rfl rfl rfl ?_; refine .nil ?_; refine ⟨by kernel_rfl, by kernel_rfl, ?_⟩; refine W.pk ?_; refine .v rfl rfl (OpL.binI rfl rfl rfl rfl) ?_; refine .m rfl rfl rfl rfl ?_; refine .nil ?_; cases h; exact rdN (Gives.mkR [(1000, 1003)] (.e rfl rfl) (.r rfl rfl rfl .n) rfl rfl rfl)
   ·have h := ifF q35 h; refine W.skip ?_; refine W.pk ?_; refine .v rfl rfl (OpL.binI rfl rfl rfl rfl) ?_; refine .m rfl rfl rfl rfl ?_; refine .nil ?_; cases h; exact rdN (Gives.mkR [] (.e rfl rfl) (.r rfl rfl rfl .n) rfl rfl rfl)
  ·have h := ifF q32 h; refine W.exit ?_; cases h; refine rdX fun e_ => ?_; subst e_; (repeat with_reducible refine thru ?_); refine hit ?_; exact toN (Gives.mkR [] (.r rfl rfl .n) (.r rfl rfl rfl .n) rfl rfl rfl)

noncomputable def asset_Left.f (x0 : api_Asset) (x1 : Int) : Option (Int) :=
  if ((decide (x1 < 0)) || (decide (x1 > 200000))) = true then
    some (-1)
  else
    some (IntKind.wrap .i64 (x0.Maturity - x1))
set_option maxRecDepth 100000 in
set_option maxHeartbeats 4000000 in
theorem asset_Left.ok {x0 : api_Asset} {x1 : Int} {r : Int} (h : asset_Left.f x0 x1 = some r) : Pm.Spec prog 12 [.agg [.imm (.val (.string (tx x0.ISIN))), .imm (.val (.int .i64 x0.Issuer)), .imm (.val (.int .i64 x0.Rating)), .imm (.val (.int .i64 x0.Maturity)), .imm (.val (.string (tx x0.Currency)))], .imm (.val (.int .i64 x1))] (.imm (.val (.int .i64 r))) [none, none] := by
 unfold asset_Left.f at h; refine Pm.Spec.of_body Try.func12 rfl (by kernel_rfl) (Nat.le_of_ble_eq_true rfl) (Nat.le_of_ble_eq_true rfl) ?_; refine W.ghost (σ' := (mkSt [(0, some (.agg (api_Asset.av x0))), (1, some (.i x1))] [] 1000)) (Gives.entry (.c rfl (.c rfl .n)) .n) ?_; refine W.seq ?_; refine W.pk ?_; refine .t rfl rfl (O.box rfl rfl rfl rfl rfl) ?_; refine .a rfl rfl rfl rfl ?_; refine .nil ?_; (iterate 2 refine W.seq ?_); refine W.fork (mkSt [(1, some (.i x1)), (2, some (.ptr 1000 0)), (10, some (.b ((decide (x1 < 0)) || (decide (x1 > 200000)))))] [(1000, some (.box [.s x0.ISIN, .i x0.Issuer, .i x0.Rating, .i x0.Maturity, .s x0.Currency]))] 1001) ?_ ?_
 ·refine W.cond rfl (fun q2 => ?_) (fun q2 => ?_)
  ·have h := ifT q2 h; refine W.seq ?_; refine W.pk ?_; refine .a rfl rfl rfl rfl ?_; refine .nil ?_; refine W.ret ?_; cases h; exact leaves (.inr rfl) rfl (.imm _) (cN (cN .nil)) rfl rfl
  ·have h := ifF q2 h; refine W.skip ?_; refine W.seq ?_; refine W.pk ?_; refine .v rfl rfl (O.fld fld29_3 rfl rfl rfl) ?_; refine .v rfl rfl (O.ld (y := .i x0.Maturity) ty3 rfl rfl rfl) ?_; refine .m rfl rfl rfl rfl ?_; refine .v rfl rfl (OpL.binI rfl rfl rfl rfl) ?_; refine .a rfl rfl rfl rfl ?_; refine .nil ?_; refine W.ret ?_; cases h; exact leaves (.inr rfl) rfl (.imm _) (cN (cN .nil)) rfl rfl
 ·clear h; refine W.pk ?_; refine .m rfl rfl rfl rfl ?_; refine .v rfl rfl (OpL.binI rfl rfl rfl rfl) ?_; refine .m rfl rfl rfl rfl ?_; rcases tf (decide (x1 < 0)) with g1 | g1
  ·(iterate 2 refine .x rfl (unmet rfl rfl rfl g1) ?_); refine .v rfl rfl (O.pickT g1 rfl rfl rfl) ?_; refine .nil ?_; exact toN (Gives.mkR [] (.r rfl rfl (.r rfl rfl (.c rfl (sbb (by simp only [g1, BL])) rfl .n))) (.r rfl rfl rfl .n) rfl rfl rfl)
  ·refine .m rfl (met rfl rfl rfl g1) rfl rfl ?_; refine .v rfl (met rfl rfl rfl g1) (OpL.binI rfl rfl rfl rfl) ?_; refine .v rfl rfl (O.pickF g1 rfl rfl rfl) ?_; refine .nil ?_; exact toN (Gives.mkR [] (.r rfl rfl (.r rfl rfl (.c rfl (sbb (by simp only [g1, BL])) rfl .n))) (.r rfl rfl rfl .n) rfl rfl rfl)

noncomputable def asset_Book_Ending_v2.b0 (x0 : asset_Book) (x1 : Int) (v14 : Int) (v15 : List Bs) : Option ((Int × (List Bs)) ⊕ (List Bs)) :=
  if (decide (v14 < (List.length x0.l : Int))) = true then
    if (0 : Int) ≤ v14 ∧ v14 < (List.length x0.l : Int) then
    (asset_Left.f (nth x0.l v14) x1).bind fun t34 =>
    if (decide (t34 ≤ 0)) = true then
      if (List.length v15 + List.length [(nth x0.l v14).ISIN]) * 16 ≤ 140737488355328 then
      some (.inl ((IntKind.wrap .i64 (v14 + 1)), (v15 ++ [(nth x0.l v14).ISIN])))
      else none
    else
      some (.inl ((IntKind.wrap .i64 (v14 + 1)), v15))
    else none
  else
    some (.inr v15)
noncomputable def asset_Book_Ending_v2.r0 (x0 : asset_Book) (x1 : Int) (s : Int × (List Bs)) : Option ((Int × (List Bs)) ⊕ (List Bs)) := asset_Book_Ending_v2.b0 x0 x1 s.1 s.2
noncomputable def asset_Book_Ending_v2.f (x0 : asset_Book) (x1 : Int) : Option (List Bs) :=
  (loop (asset_Book_Ending_v2.r0 x0 x1) (0, [])).bind fun o29 =>
  some o29
set_option maxRecDepth 100000 in
set_option maxHeartbeats 4000000 in
theorem asset_Book_Ending_v2.ok {x0 : asset_Book} {x1 : Int} {r : List Bs} (h : asset_Book_Ending_v2.f x0 x1 = some r) : Pm.Spec prog 15 [.imm (.fp (asset_Book.enc x0)), .imm (.val (.int .i64 x1))] (.xown 9 1 (List.map encS r)) [none, none] := by
 unfold asset_Book_Ending_v2.f at h; refine Pm.Spec.of_body Try.func15 rfl (by kernel_rfl) (Nat.le_of_ble_eq_true rfl) (Nat.le_of_ble_eq_true rfl) ?_; refine W.ghost (σ' := (mkSt [(0, some (.imm (.fp (asset_Book.enc x0)))), (1, some (.i x1))] [] 1000)) (Gives.entry (.c rfl (.c rfl .n)) .n) ?_; refine W.seq ?_; refine W.pk ?_; refine .a rfl rfl rfl rfl ?_; refine .nil ?_; (iterate 2 refine W.seq ?_); refine W.pk ?_; refine .m rfl rfl rfl rfl ?_; refine .v rfl rfl (OpL.eqP rfl u30 rfl rfl rfl) ?_; refine .nil ?_; refine W.cond rfl (fun q => by cases q) (fun _ => ?_)
 refine W.skip ?_; refine W.seq ?_; refine W.pk ?_; refine .a rfl rfl rfl rfl ?_; refine .nil ?_; (iterate 2 refine W.seq ?_); refine W.pk ?_; refine .m rfl rfl rfl rfl ?_; refine .v rfl rfl (OpL.nilP rfl rfl rfl) ?_; refine .v rfl rfl (O.fld fld71_0 rfl rfl rfl) ?_; refine .v rfl rfl (O.ld (y := .imm (.row 5 (List.map api_Asset.enc x0.l))) ty68 rfl rfl rfl) ?_; refine .v rfl rfl (O.lenR sl68 rfl rfl) ?_; refine .m rfl rfl rfl rfl ?_; refine .nil ?_; refine W.ghost (Gives.mintS 5 9 1 rfl) ?_; obtain ⟨o29, b30, h⟩ := bnd1 h; refine W.fork (mkSt [(5, some (.own 1000))] [(1000, some (.rows 9 1 (List.map encS o29) false))] 1001) ?_ ?_
 ·refine W.seq ?_; refine W.pk ?_; refine .m rfl rfl rfl rfl ?_; refine .a rfl rfl rfl rfl ?_; refine .nil ?_; refine W.ret ?_; cases h; exact leaves (.inr rfl) rfl (.own _ _ _ _ rfl) (cN (cN .nil)) rfl rfl
 ·clear h; refine W.block ?_; refine W.loopF (fun (s_ : Int × (List Bs)) => mkSt [(1, some (.i x1)), (5, some (.own 1000)), (13, some (.imm (.row 5 (List.map api_Asset.enc x0.l)))), (14, some (.i (List.length x0.l : Int))), (15, some (.i s_.1))] [(1000, some (.rows 9 1 (List.map encS s_.2) false))] 1001) b30 (Gives.mkR [] (.e rfl rfl) (.r rfl rfl rfl .n) rfl rfl rfl) ?_; rintro ⟨v14, v15⟩ s_ hr; have h : asset_Book_Ending_v2.b0 x0 x1 v14 v15 = some s_ := hr; unfold asset_Book_Ending_v2.b0 at h; refine W.seq ?_; refine W.pk ?_; refine .v rfl rfl (OpL.binI rfl rfl rfl rfl) ?_; refine .nil ?_; refine W.seq ?_; refine W.cond rfl (fun q32 => ?_) (fun q32 => ?_)
  ·have h := ifT q32 h; refine W.skip ?_; refine W.seq ?_; refine W.block ?_; refine W.seq ?_; obtain ⟨c33, h⟩ := chk h; refine W.pk ?_; refine .v rfl rfl (O.idx sl68 c33 rfl rfl rfl) ?_; refine .v rfl rfl (O.ldN ty29 rfl rfl rfl) ?_; refine .t rfl rfl (O.alloc z29 rfl) ?_; refine .s rfl rfl (O.st ty29 rfl rfl rfl rfl rfl rfl rfl rfl rfl rfl (all' := [.s ((nth x0.l v14).ISIN), .i ((nth x0.l v14).Issuer), .i ((nth x0.l v14).Rating), .i ((nth x0.l v14).Maturity), .s ((nth x0.l v14).Currency)]) rfl) ?_; refine .nil ?_; refine W.seq ?_; obtain ⟨t34, b35, h⟩ := bnd1 h; refine W.pk ?_; refine .v rfl rfl (O.ldN ty29 rfl rfl rfl) ?_; refine .m rfl rfl rfl rfl ?_; refine .call (.i t34) [] 0 (asset_Left.ok b35) rfl rfl rfl ca12 rfl rfl (cC (.agg _ _ _ _ (cC (.imm _) (cC (.imm _) (cC (.imm _) (cC (.imm _) (cC (.imm _) .nil)))))) (cC (.imm _) .nil)) rfl rfl rfl rfl rfl ?_; refine .v rfl rfl (OpL.binI rfl rfl rfl rfl) ?_; refine .nil ?_; refine W.cond rfl (fun q36 => ?_) (fun q36 => ?_)
   ·have h := ifT q36 h; obtain ⟨c37, h⟩ := chk h; refine W.pk ?_; refine .m rfl rfl rfl rfl ?_; refine .v rfl rfl (O.fld fld29_0 rfl rfl rfl) ?_; refine .v rfl rfl (O.ld (y := .s ((nth x0.l v14).ISIN)) ty9 rfl rfl rfl) ?_; refine .t rfl rfl (O.lit (enc := encS) (l := [(nth x0.l v14).ISIN]) sl36 rfl rfl rfl rfl rfl rfl rfl rfl rfl) ?_; refine .t rfl rfl (O.appO sl36 EncOk.str c37 rfl rfl rfl rfl rfl) ?_; refine .a rfl rfl rfl rfl ?_; refine .nil ?_; refine W.pk ?_; refine .v rfl rfl (OpL.binI rfl rfl rfl rfl) ?_; refine .m rfl rfl rfl rfl ?_; refine .nil ?_; cases h; exact rdN (Gives.mkR [(1000, 1003)] (.e rfl rfl) (.r rfl rfl rfl .n) rfl rfl rfl)
   ·have h := ifF q36 h; refine W.skip ?_; refine W.pk ?_; refine .v rfl rfl (OpL.binI rfl rfl rfl rfl) ?_; refine .m rfl rfl rfl rfl ?_; refine .nil ?_; cases h; exact rdN (Gives.mkR [] (.e rfl rfl) (.r rfl rfl rfl .n) rfl rfl rfl)
  ·have h := ifF q32 h; refine W.exit ?_; cases h; refine rdX fun e_ => ?_; subst e_; (repeat with_reducible refine thru ?_); refine hit ?_; exact toN (Gives.mkR [] (.r rfl rfl .n) (.r rfl rfl rfl .n) rfl rfl rfl)

noncomputable def lombardlaw13_awake.f  : Option (Bool) :=
  (asset_Worth.f 1000 995000).bind fun t1 =>
  (asset_Worth.f 1 995000).bind fun t3 =>
  some ((((t1.1 == 995) && (t1.2 == 0)) && (t3.1 == 0)) && (t3.2 == t1.2))
set_option maxRecDepth 100000 in
set_option maxHeartbeats 4000000 in
theorem lombardlaw13_awake.ok  {r : Bool} (h : lombardlaw13_awake.f  = some r) : Pm.Spec prog 9 [] (.imm (.val (.bool r))) [] := by
 unfold lombardlaw13_awake.f at h; refine Pm.Spec.of_body Try.func9 rfl (by kernel_rfl) (Nat.le_of_ble_eq_true rfl) (Nat.le_of_ble_eq_true rfl) ?_; refine W.ghost (σ' := (mkSt [] [] 1000)) (Gives.entry .n .n) ?_; refine W.seq ?_; refine W.pk ?_; refine .a rfl rfl rfl rfl ?_; refine .nil ?_; refine W.seq ?_; obtain ⟨t1, b2, h⟩ := bnd1 h; refine W.pk ?_; refine .call (.tup [.i t1.1, .i t1.2]) [] 0 (asset_Worth.ok b2) rfl rfl rfl ca10 rfl rfl (cC (.imm _) (cC (.imm _) .nil)) rfl rfl rfl rfl rfl ?_; refine .m rfl rfl rfl rfl ?_; (iterate 2 refine .v rfl rfl (OpL.extract rfl rfl rfl) ?_); (iterate 2 refine .a rfl rfl rfl rfl ?_); refine .nil ?_; refine W.seq ?_; obtain ⟨t3, b4, h⟩ := bnd1 h; refine W.pk ?_; refine .call (.tup [.i t3.1, .i t3.2]) [] 0 (asset_Worth.ok b4) rfl rfl rfl ca10 rfl rfl (cC (.imm _) (cC (.imm _) .nil)) rfl rfl rfl rfl rfl ?_; refine .m rfl rfl rfl rfl ?_; (iterate 2 refine .v rfl rfl (OpL.extract rfl rfl rfl) ?_); (iterate 2 refine .a rfl rfl rfl rfl ?_); refine .nil ?_; refine W.seq ?_; refine W.fork (mkSt [(0, some (.b ((((t1.1 == 995) && (t1.2 == 0)) && (t3.1 == 0)) && (t3.2 == t1.2))))] [] 1000) ?_ ?_
 ·refine W.ret ?_; cases h; exact leaves (.inr rfl) rfl (.imm _) .nil rfl rfl
 ·clear h; refine W.pk ?_; refine .m rfl rfl rfl rfl ?_; refine .v rfl rfl (OpL.binI rfl rfl rfl rfl) ?_; refine .m rfl rfl rfl rfl ?_; rcases tf (t1.1 == 995) with g5 | g5
  ·refine .m rfl (met rfl rfl rfl g5) rfl rfl ?_; refine .v rfl (met rfl rfl rfl g5) (OpL.binI rfl rfl rfl rfl) ?_; refine .v rfl rfl (O.pickT g5 rfl rfl rfl) ?_; refine .m rfl rfl rfl rfl ?_; rcases tf (t1.2 == 0) with g6 | g6
   ·refine .m rfl (met rfl rfl rfl g6) rfl rfl ?_; refine .v rfl (met rfl rfl rfl g6) (OpL.binI rfl rfl rfl rfl) ?_; refine .v rfl rfl (O.pickT g6 rfl rfl rfl) ?_; refine .m rfl rfl rfl rfl ?_; rcases tf (t3.1 == 0) with g7 | g7
    ·(iterate 2 refine .m rfl (met rfl rfl rfl g7) rfl rfl ?_); refine .v rfl (met rfl rfl rfl g7) (OpL.binI rfl rfl rfl rfl) ?_; refine .v rfl rfl (O.pickT g7 rfl rfl rfl) ?_; refine .a rfl rfl rfl rfl ?_; refine .nil ?_; exact toN (Gives.mkR [] (.c rfl (sbb (by first | (simp only [g5, g6, g7, BL]; done) | (repeat (first | rw [g5] | rw [g6] | rw [g7])) <;> simp only [BL])) rfl .n) .n rfl rfl rfl)
    ·(iterate 3 refine .x rfl (unmet rfl rfl rfl g7) ?_); refine .v rfl rfl (O.pickF g7 rfl rfl rfl) ?_; refine .a rfl rfl rfl rfl ?_; refine .nil ?_; exact toN (Gives.mkR [] (.c rfl (sbb (by first | (simp only [g5, g6, g7, BL]; done) | (repeat (first | rw [g5] | rw [g6] | rw [g7])) <;> simp only [BL])) rfl .n) .n rfl rfl rfl)
   ·(iterate 2 refine .x rfl (unmet rfl rfl rfl g6) ?_); refine .v rfl rfl (O.pickF g6 rfl rfl rfl) ?_; refine .m rfl rfl rfl rfl ?_; (iterate 3 refine .x rfl (unmet rfl rfl rfl rfl) ?_); refine .v rfl rfl (O.pickF rfl rfl rfl rfl) ?_; refine .a rfl rfl rfl rfl ?_; refine .nil ?_; exact toN (Gives.mkR [] (.c rfl (sbb (by first | (simp only [g5, g6, BL]; done) | (repeat (first | rw [g5] | rw [g6])) <;> simp only [BL])) rfl .n) .n rfl rfl rfl)
  ·(iterate 2 refine .x rfl (unmet rfl rfl rfl g5) ?_); refine .v rfl rfl (O.pickF g5 rfl rfl rfl) ?_; refine .m rfl rfl rfl rfl ?_; (iterate 2 refine .x rfl (unmet rfl rfl rfl rfl) ?_); refine .v rfl rfl (O.pickF rfl rfl rfl rfl) ?_; refine .m rfl rfl rfl rfl ?_; (iterate 3 refine .x rfl (unmet rfl rfl rfl rfl) ?_); refine .v rfl rfl (O.pickF rfl rfl rfl rfl) ?_; refine .a rfl rfl rfl rfl ?_; refine .nil ?_; exact toN (Gives.mkR [] (.c rfl (sbb (by simp only [g5, BL])) rfl .n) .n rfl rfl rfl)
end Go.Proofs.Ytkcjlpiaaklnkaa
