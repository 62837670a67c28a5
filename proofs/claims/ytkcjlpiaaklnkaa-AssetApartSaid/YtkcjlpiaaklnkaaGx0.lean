/- Shows what functions of the program come to, each as a plain function: written by a program of the author's for this claim. -/
import Derived.Test.YtkcjlpiaaklnkaaTy
import Derived.Test.YtkcjlpiaaklnkaaPmAC
namespace Go.Proofs.Ytkcjlpiaaklnkaa
open Go Go.Pm
set_option linter.unusedVariables false
set_option linter.unusedSimpArgs false
noncomputable def asset_New.f  : Option (asset_Book) :=
  some (⟨[], [], true⟩ : asset_Book)
set_option maxRecDepth 100000 in
set_option maxHeartbeats 4000000 in
theorem asset_New.ok  {r : asset_Book} (h : asset_New.f  = some r) : Pm.Spec prog 20 [] (.xbox [.xown 29 5 (List.map api_Asset.enc r.l), .xown 3 1 (List.map (encI .i64) r.prices), .imm (.val (.bool r.made))]) [] := by
 unfold asset_New.f at h; refine Pm.Spec.of_body Try.func20 rfl (by kernel_rfl) (Nat.le_of_ble_eq_true rfl) (Nat.le_of_ble_eq_true rfl) ?_; refine W.ghost (σ' := (mkSt [] [] 1000)) (Gives.entry .n .n) ?_; refine W.seq ?_; refine W.pk ?_; refine .a rfl rfl rfl rfl ?_; refine .nil ?_; refine W.seq ?_; refine W.pk ?_; refine .v rfl rfl (O.build (out := [.imm (.val (.slice none 0 0)), .imm (.val (.slice none 0 0)), .b true]) bl71 rfl rfl rfl rfl (by kernel_rfl)) ?_; refine .t rfl rfl (O.box rfl rfl rfl rfl rfl) ?_; refine .a rfl rfl rfl rfl ?_; refine .nil ?_; refine W.ret ?_; cases h; exact leaves (.inr rfl) rfl (.ptr _ _ _ _ _ rfl (cC (.nilown _ _) (cC (.nilown _ _) (cC (.imm _) .nil)))) .nil rfl rfl

noncomputable def lombardref05_digits.b0 (x0 : Bs) (v18 : Int) (v19 : List Int) : Option ((Int × (List Int)) ⊕ (((List Int) × Bool) ⊕ (List Int))) :=
  if (decide (v18 < (List.length x0 : Int))) = true then
    if (0 : Int) ≤ v18 ∧ v18 < (List.length x0 : Int) then
    if ((decide ((IntKind.wrap .i64 (byte x0 v18)) ≥ 48)) && (decide ((IntKind.wrap .i64 (byte x0 v18)) ≤ 57))) = true then
      if (List.length v19 + List.length [(IntKind.wrap .i64 ((IntKind.wrap .i64 (byte x0 v18)) - 48))]) * 8 ≤ 140737488355328 then
      some (.inl ((IntKind.wrap .i64 (v18 + 1)), (v19 ++ [(IntKind.wrap .i64 ((IntKind.wrap .i64 (byte x0 v18)) - 48))])))
      else none
    else
      if ((decide ((IntKind.wrap .i64 (byte x0 v18)) ≥ 65)) && (decide ((IntKind.wrap .i64 (byte x0 v18)) ≤ 90))) = true then
        if (List.length v19 + List.length [(IntKind.wrap .i64 (Int.tdiv (IntKind.wrap .i64 ((IntKind.wrap .i64 ((IntKind.wrap .i64 (byte x0 v18)) - 65)) + 10)) 10)), (Int.tmod (IntKind.wrap .i64 ((IntKind.wrap .i64 ((IntKind.wrap .i64 (byte x0 v18)) - 65)) + 10)) 10)]) * 8 ≤ 140737488355328 then
        some (.inl ((IntKind.wrap .i64 (v18 + 1)), (v19 ++ [(IntKind.wrap .i64 (Int.tdiv (IntKind.wrap .i64 ((IntKind.wrap .i64 ((IntKind.wrap .i64 (byte x0 v18)) - 65)) + 10)) 10)), (Int.tmod (IntKind.wrap .i64 ((IntKind.wrap .i64 ((IntKind.wrap .i64 (byte x0 v18)) - 65)) + 10)) 10)])))
        else none
      else
        some (.inr (.inl ([], false)))
    else none
  else
    some (.inr (.inr v19))
noncomputable def lombardref05_digits.r0 (x0 : Bs) (s : Int × (List Int)) : Option ((Int × (List Int)) ⊕ (((List Int) × Bool) ⊕ (List Int))) := lombardref05_digits.b0 x0 s.1 s.2
noncomputable def lombardref05_digits.f (x0 : Bs) : Option ((List Int) × Bool) :=
  (loop (lombardref05_digits.r0 x0) (0, [])).bind fun o37 =>
  match o37 with
  | .inl r48 => some r48
  | .inr w36 =>
    some (w36, true)
set_option maxRecDepth 100000 in
set_option maxHeartbeats 4000000 in
theorem lombardref05_digits.ok {x0 : Bs} {r : (List Int) × Bool} (h : lombardref05_digits.f x0 = some r) : Pm.Spec prog 82 [.imm (.val (.string (tx x0)))] (.tup [.xown 3 1 (List.map (encI .i64) r.1), .imm (.val (.bool r.2))]) [none] := by
 unfold lombardref05_digits.f at h; refine Pm.Spec.of_body Try.func82 rfl (by kernel_rfl) (Nat.le_of_ble_eq_true rfl) (Nat.le_of_ble_eq_true rfl) ?_; refine W.ghost (σ' := (mkSt [(0, some (.s x0))] [] 1000)) (Gives.entry (.c rfl .n) .n) ?_; refine W.seq ?_; refine W.pk ?_; (iterate 2 refine .a rfl rfl rfl rfl ?_); refine .nil ?_; refine W.seq ?_; refine W.pk ?_; refine .a rfl rfl rfl rfl ?_; refine .nil ?_; (iterate 2 refine W.seq ?_); refine W.pk ?_; refine .a rfl rfl rfl rfl ?_; refine .nil ?_; refine W.ghost (Gives.mintS 4 3 1 rfl) ?_; obtain ⟨o37, b38, z39⟩ := bnd1 h; refine W.fork2 (out := o37) (fun (w36 : List Int) => mkSt [(4, some (.own 1000))] [(1000, some (.rows 3 1 (List.map (encI .i64) w36) false))] 1001) ?_ ?_
 ·clear h; refine W.block ?_; refine W.loopF (fun (s_ : Int × (List Int)) => mkSt [(0, some (.s x0)), (4, some (.own 1000)), (5, some (.i s_.1))] [(1000, some (.rows 3 1 (List.map (encI .i64) s_.2) false))] 1001) b38 (Gives.mkR [] (.e rfl rfl) (.r rfl rfl rfl .n) rfl rfl rfl) ?_; rintro ⟨v18, v19⟩ s_ hr; have h : lombardref05_digits.b0 x0 v18 v19 = some s_ := hr; unfold lombardref05_digits.b0 at h; (iterate 2 refine W.seq ?_); refine W.pk ?_; (iterate 2 refine .m rfl rfl rfl rfl ?_); refine .v rfl rfl (O.lenS u9 rfl rfl) ?_; refine .v rfl rfl (OpL.binI rfl rfl rfl rfl) ?_; refine .nil ?_; refine W.cond rfl (fun q40 => ?_) (fun q40 => ?_)
  ·have h := ifT q40 h; refine W.skip ?_; refine W.seq ?_; refine W.block ?_; refine W.seq ?_; obtain ⟨c41, h⟩ := chk h; refine W.pk ?_; (iterate 2 refine .m rfl rfl rfl rfl ?_); refine .v rfl rfl (O.idxS u9 c41 rfl rfl rfl) ?_; refine .v rfl rfl (O.conv h5 u3 rfl rfl) ?_; refine .a rfl rfl rfl rfl ?_; refine .nil ?_; refine W.seq ?_; refine W.fork (mkSt [(0, some (.s x0)), (4, some (.own 1000)), (5, some (.i v18)), (6, some (.i (IntKind.wrap .i64 (byte x0 v18)))), (22, some (.b ((decide ((IntKind.wrap .i64 (byte x0 v18)) ≥ 48)) && (decide ((IntKind.wrap .i64 (byte x0 v18)) ≤ 57)))))] [(1000, some (.rows 3 1 (List.map (encI .i64) v19) false))] 1001) ?_ ?_
   ·refine W.cond rfl (fun q43 => ?_) (fun q43 => ?_)
    ·have h := ifT q43 h; obtain ⟨c44, h⟩ := chk h; refine W.pk ?_; (iterate 2 refine .m rfl rfl rfl rfl ?_); refine .v rfl rfl (OpL.binI rfl rfl rfl rfl) ?_; refine .t rfl rfl (O.lit (enc := (encI .i64)) (l := [(IntKind.wrap .i64 ((IntKind.wrap .i64 (byte x0 v18)) - 48))]) sl69 rfl rfl rfl rfl rfl rfl rfl rfl rfl) ?_; refine .t rfl rfl (O.appO sl69 (EncOk.int .i64) c44 rfl rfl rfl rfl rfl) ?_; refine .a rfl rfl rfl rfl ?_; refine .nil ?_; refine W.pk ?_; refine .m rfl rfl rfl rfl ?_; refine .v rfl rfl (OpL.binI rfl rfl rfl rfl) ?_; refine .a rfl rfl rfl rfl ?_; refine .nil ?_; cases h; exact rdN (Gives.mkR [(1000, 1002)] (.e rfl rfl) (.r rfl rfl rfl .n) rfl rfl rfl)
    ·have h := ifF q43 h; refine W.seq ?_; refine W.fork (mkSt [(0, some (.s x0)), (4, some (.own 1000)), (5, some (.i v18)), (6, some (.i (IntKind.wrap .i64 (byte x0 v18)))), (33, some (.b ((decide ((IntKind.wrap .i64 (byte x0 v18)) ≥ 65)) && (decide ((IntKind.wrap .i64 (byte x0 v18)) ≤ 90)))))] [(1000, some (.rows 3 1 (List.map (encI .i64) v19) false))] 1001) ?_ ?_
     ·refine W.cond rfl (fun q46 => ?_) (fun q46 => ?_)
      ·have h := ifT q46 h; obtain ⟨c47, h⟩ := chk h; refine W.pk ?_; (iterate 2 refine .m rfl rfl rfl rfl ?_); (iterate 2 refine .v rfl rfl (OpL.binI rfl rfl rfl rfl) ?_); refine .v rfl rfl (O.quo rfl rfl rfl (by decide)) ?_; refine .m rfl rfl rfl rfl ?_; (iterate 2 refine .v rfl rfl (OpL.binI rfl rfl rfl rfl) ?_); refine .v rfl rfl (O.rem rfl rfl rfl (by decide)) ?_; refine .t rfl rfl (O.lit (enc := (encI .i64)) (l := [(IntKind.wrap .i64 (Int.tdiv (IntKind.wrap .i64 ((IntKind.wrap .i64 ((IntKind.wrap .i64 (byte x0 v18)) - 65)) + 10)) 10)), (Int.tmod (IntKind.wrap .i64 ((IntKind.wrap .i64 ((IntKind.wrap .i64 (byte x0 v18)) - 65)) + 10)) 10)]) sl69 rfl rfl rfl rfl rfl rfl rfl rfl rfl) ?_; refine .t rfl rfl (O.appO sl69 (EncOk.int .i64) c47 rfl rfl rfl rfl rfl) ?_; refine .a rfl rfl rfl rfl ?_; refine .nil ?_; refine W.pk ?_; refine .m rfl rfl rfl rfl ?_; refine .v rfl rfl (OpL.binI rfl rfl rfl rfl) ?_; refine .a rfl rfl rfl rfl ?_; refine .nil ?_; cases h; exact rdN (Gives.mkR [(1000, 1002)] (.e rfl rfl) (.r rfl rfl rfl .n) rfl rfl rfl)
      ·have h := ifF q46 h; refine W.seq ?_; refine W.pk ?_; (iterate 2 refine .a rfl rfl rfl rfl ?_); refine .nil ?_; refine W.ret ?_; cases h; refine rdR fun e_ => ?_; subst e_; have h := z39; dsimp only at h; refine fkR ?_; cases h; exact leaves (.inr rfl) rfl (.tup _ _ _ _ (cC (.nilown _ _) (cC (.imm _) .nil))) (cN .nil) rfl rfl
     ·clear h; refine W.pk ?_; refine .m rfl rfl rfl rfl ?_; refine .v rfl rfl (OpL.binI rfl rfl rfl rfl) ?_; refine .m rfl rfl rfl rfl ?_; rcases tf (decide ((IntKind.wrap .i64 (byte x0 v18)) ≥ 65)) with g45 | g45
      ·refine .m rfl (met rfl rfl rfl g45) rfl rfl ?_; refine .v rfl (met rfl rfl rfl g45) (OpL.binI rfl rfl rfl rfl) ?_; refine .v rfl rfl (O.pickT g45 rfl rfl rfl) ?_; refine .nil ?_; exact toN (Gives.mkR [] (.r rfl rfl (.r rfl rfl (.r rfl rfl (.r rfl rfl (.c rfl (sbb (by simp only [g45, BL])) rfl .n))))) (.r rfl rfl rfl .n) rfl rfl rfl)
      ·(iterate 2 refine .x rfl (unmet rfl rfl rfl g45) ?_); refine .v rfl rfl (O.pickF g45 rfl rfl rfl) ?_; refine .nil ?_; exact toN (Gives.mkR [] (.r rfl rfl (.r rfl rfl (.r rfl rfl (.r rfl rfl (.c rfl (sbb (by simp only [g45, BL])) rfl .n))))) (.r rfl rfl rfl .n) rfl rfl rfl)
   ·clear h; refine W.pk ?_; refine .m rfl rfl rfl rfl ?_; refine .v rfl rfl (OpL.binI rfl rfl rfl rfl) ?_; refine .m rfl rfl rfl rfl ?_; rcases tf (decide ((IntKind.wrap .i64 (byte x0 v18)) ≥ 48)) with g42 | g42
    ·refine .m rfl (met rfl rfl rfl g42) rfl rfl ?_; refine .v rfl (met rfl rfl rfl g42) (OpL.binI rfl rfl rfl rfl) ?_; refine .v rfl rfl (O.pickT g42 rfl rfl rfl) ?_; refine .nil ?_; exact toN (Gives.mkR [] (.r rfl rfl (.r rfl rfl (.r rfl rfl (.r rfl rfl (.c rfl (sbb (by simp only [g42, BL])) rfl .n))))) (.r rfl rfl rfl .n) rfl rfl rfl)
    ·(iterate 2 refine .x rfl (unmet rfl rfl rfl g42) ?_); refine .v rfl rfl (O.pickF g42 rfl rfl rfl) ?_; refine .nil ?_; exact toN (Gives.mkR [] (.r rfl rfl (.r rfl rfl (.r rfl rfl (.r rfl rfl (.c rfl (sbb (by simp only [g42, BL])) rfl .n))))) (.r rfl rfl rfl .n) rfl rfl rfl)
  ·have h := ifF q40 h; refine W.exit ?_; cases h; refine rdX fun e_ => ?_; subst e_; (repeat with_reducible refine thru ?_); refine hit ?_; exact fkN (Gives.mkR [] (.r rfl rfl .n) (.r rfl rfl rfl .n) rfl rfl rfl)
 ·intro w36 e_; subst e_; clear h; have h := z39; dsimp only at h; refine W.seq ?_; refine W.pk ?_; refine .m rfl rfl rfl rfl ?_; (iterate 2 refine .a rfl rfl rfl rfl ?_); refine .nil ?_; refine W.ret ?_; cases h; exact leaves (.inr rfl) rfl (.tup _ _ _ _ (cC (.own _ _ _ _ rfl) (cC (.imm _) .nil))) (cN .nil) rfl rfl

noncomputable def lombardref05_shaped.f (x0 : Bs) : Option (Bool) :=
  (lombardref05_digits.f x0).bind fun t1 =>
  if ((t1.2 && ((List.length x0 : Int) == 11)) = true → (0 : Int) ≤ 0 ∧ 0 < (List.length x0 : Int)) then
  if (((t1.2 && ((List.length x0 : Int) == 11)) && (decide ((byte x0 0) ≥ 65))) = true → (0 : Int) ≤ 1 ∧ 1 < (List.length x0 : Int)) then
  some (((t1.2 && ((List.length x0 : Int) == 11)) && (decide ((byte x0 0) ≥ 65))) && (decide ((byte x0 1) ≥ 65)))
  else none
  else none
set_option maxRecDepth 100000 in
set_option maxHeartbeats 4000000 in
theorem lombardref05_shaped.ok {x0 : Bs} {r : Bool} (h : lombardref05_shaped.f x0 = some r) : Pm.Spec prog 76 [.imm (.val (.string (tx x0)))] (.imm (.val (.bool r))) [none] := by
 unfold lombardref05_shaped.f at h; refine Pm.Spec.of_body Try.func76 rfl (by kernel_rfl) (Nat.le_of_ble_eq_true rfl) (Nat.le_of_ble_eq_true rfl) ?_; refine W.ghost (σ' := (mkSt [(0, some (.s x0))] [] 1000)) (Gives.entry (.c rfl .n) .n) ?_; refine W.seq ?_; refine W.pk ?_; refine .a rfl rfl rfl rfl ?_; refine .nil ?_; refine W.seq ?_; obtain ⟨t1, b2, h⟩ := bnd1 h; refine W.pk ?_; refine .m rfl rfl rfl rfl ?_; refine .call (.tup [.own 1000, .b t1.2]) [(1000, some (.rows 3 1 (List.map (encI .i64) t1.1) false))] 1 (lombardref05_digits.ok b2) rfl rfl rfl ca82 rfl rfl (cC (.imm _) .nil) rfl rfl rfl rfl rfl ?_; refine .m rfl rfl rfl rfl ?_; (iterate 2 refine .v rfl rfl (OpL.extract rfl rfl rfl) ?_); (iterate 2 refine .a rfl rfl rfl rfl ?_); refine .nil ?_; refine W.seq ?_; obtain ⟨c3, h⟩ := chk h; obtain ⟨c4, h⟩ := chk h; refine W.fork (mkSt [(2, some (.b (((t1.2 && ((List.length x0 : Int) == 11)) && (decide ((byte x0 0) ≥ 65))) && (decide ((byte x0 1) ≥ 65)))))] [] 1001) ?_ ?_
 ·refine W.ret ?_; cases h; exact leaves (.inr rfl) rfl (.imm _) (cN .nil) rfl rfl
 ·clear h; refine W.pk ?_; (iterate 2 refine .m rfl rfl rfl rfl ?_); rcases tf t1.2 with g5 | g5
  ·refine .m rfl (met rfl rfl rfl g5) rfl rfl ?_; refine .v rfl (met rfl rfl rfl g5) (O.lenS u9 rfl rfl) ?_; refine .v rfl (met rfl rfl rfl g5) (OpL.binI rfl rfl rfl rfl) ?_; refine .v rfl rfl (O.pickT g5 rfl rfl rfl) ?_; refine .m rfl rfl rfl rfl ?_; rcases tf ((List.length x0 : Int) == 11) with g6 | g6
   ·refine .m rfl (met rfl rfl rfl g6) rfl rfl ?_; refine .v rfl (met rfl rfl rfl g6) (O.idxS u9 (c3 (by first | (simp only [g5, g6, BL]; done) | (repeat (first | rw [g5] | rw [g6])) <;> simp only [BL])) rfl rfl rfl) ?_; refine .v rfl (met rfl rfl rfl g6) (OpL.binI rfl rfl rfl rfl) ?_; refine .v rfl rfl (O.pickT g6 rfl rfl rfl) ?_; refine .m rfl rfl rfl rfl ?_; rcases tf (decide ((byte x0 0) ≥ 65)) with g7 | g7
    ·refine .m rfl (met rfl rfl rfl g7) rfl rfl ?_; refine .v rfl (met rfl rfl rfl g7) (O.idxS u9 (c4 (by first | (simp only [g5, g6, g7, BL]; done) | (repeat (first | rw [g5] | rw [g6] | rw [g7])) <;> simp only [BL])) rfl rfl rfl) ?_; refine .v rfl (met rfl rfl rfl g7) (OpL.binI rfl rfl rfl rfl) ?_; refine .v rfl rfl (O.pickT g7 rfl rfl rfl) ?_; refine .a rfl rfl rfl rfl ?_; refine .nil ?_; exact toN (Gives.mkR [] (.c rfl (sbb (by first | (simp only [g5, g6, g7, BL]; done) | (repeat (first | rw [g5] | rw [g6] | rw [g7])) <;> simp only [BL])) rfl .n) .n rfl rfl rfl)
    ·(iterate 3 refine .x rfl (unmet rfl rfl rfl g7) ?_); refine .v rfl rfl (O.pickF g7 rfl rfl rfl) ?_; refine .a rfl rfl rfl rfl ?_; refine .nil ?_; exact toN (Gives.mkR [] (.c rfl (sbb (by first | (simp only [g5, g6, g7, BL]; done) | (repeat (first | rw [g5] | rw [g6] | rw [g7])) <;> simp only [BL])) rfl .n) .n rfl rfl rfl)
   ·(iterate 3 refine .x rfl (unmet rfl rfl rfl g6) ?_); refine .v rfl rfl (O.pickF g6 rfl rfl rfl) ?_; refine .m rfl rfl rfl rfl ?_; (iterate 3 refine .x rfl (unmet rfl rfl rfl rfl) ?_); refine .v rfl rfl (O.pickF rfl rfl rfl rfl) ?_; refine .a rfl rfl rfl rfl ?_; refine .nil ?_; exact toN (Gives.mkR [] (.c rfl (sbb (by first | (simp only [g5, g6, BL]; done) | (repeat (first | rw [g5] | rw [g6])) <;> simp only [BL])) rfl .n) .n rfl rfl rfl)
  ·(iterate 3 refine .x rfl (unmet rfl rfl rfl g5) ?_); refine .v rfl rfl (O.pickF g5 rfl rfl rfl) ?_; refine .m rfl rfl rfl rfl ?_; (iterate 3 refine .x rfl (unmet rfl rfl rfl rfl) ?_); refine .v rfl rfl (O.pickF rfl rfl rfl rfl) ?_; refine .m rfl rfl rfl rfl ?_; (iterate 3 refine .x rfl (unmet rfl rfl rfl rfl) ?_); refine .v rfl rfl (O.pickF rfl rfl rfl rfl) ?_; refine .a rfl rfl rfl rfl ?_; refine .nil ?_; exact toN (Gives.mkR [] (.c rfl (sbb (by simp only [g5, BL])) rfl .n) .n rfl rfl rfl)

noncomputable def lombardref05_right.b0 (t1 : (List Int) × Bool) (v10 : Int) (v11 : Int) : Option ((Int × Int) ⊕ Int) :=
  if (decide (v11 < (List.length t1.1 : Int))) = true then
    if (0 : Int) ≤ (IntKind.wrap .i64 ((IntKind.wrap .i64 ((List.length t1.1 : Int) - 1)) - v11)) ∧ (IntKind.wrap .i64 ((IntKind.wrap .i64 ((List.length t1.1 : Int) - 1)) - v11)) < (List.length t1.1 : Int) then
    ((
      if ((Int.tmod v11 2) == 1) = true then
        some (IntKind.wrap .i64 (2 * (nth t1.1 (IntKind.wrap .i64 ((IntKind.wrap .i64 ((List.length t1.1 : Int) - 1)) - v11)))))
      else
        some (nth t1.1 (IntKind.wrap .i64 ((IntKind.wrap .i64 ((List.length t1.1 : Int) - 1)) - v11))) : Option (Int))).bind fun o34 =>
    some (.inl ((IntKind.wrap .i64 ((IntKind.wrap .i64 (v10 + (IntKind.wrap .i64 (Int.tdiv o34 10)))) + (Int.tmod o34 10))), (IntKind.wrap .i64 (v11 + 1))))
    else none
  else
    some (.inr v10)
noncomputable def lombardref05_right.r0 (t1 : (List Int) × Bool) (s : Int × Int) : Option ((Int × Int) ⊕ Int) := lombardref05_right.b0 t1 s.1 s.2
noncomputable def lombardref05_right.f (x0 : Bs) : Option (Bool) :=
  (lombardref05_digits.f x0).bind fun t1 =>
  (loop (lombardref05_right.r0 t1) (0, 0)).bind fun o27 =>
  some (t1.2 && ((Int.tmod o27 10) == 0))
set_option maxRecDepth 100000 in
set_option maxHeartbeats 4000000 in
theorem lombardref05_right.ok {x0 : Bs} {r : Bool} (h : lombardref05_right.f x0 = some r) : Pm.Spec prog 77 [.imm (.val (.string (tx x0)))] (.imm (.val (.bool r))) [none] := by
 unfold lombardref05_right.f at h; refine Pm.Spec.of_body Try.func77 rfl (by kernel_rfl) (Nat.le_of_ble_eq_true rfl) (Nat.le_of_ble_eq_true rfl) ?_; refine W.ghost (σ' := (mkSt [(0, some (.s x0))] [] 1000)) (Gives.entry (.c rfl .n) .n) ?_; refine W.seq ?_; refine W.pk ?_; refine .a rfl rfl rfl rfl ?_; refine .nil ?_; refine W.seq ?_; obtain ⟨t1, b2, h⟩ := bnd1 h; refine W.pk ?_; refine .m rfl rfl rfl rfl ?_; refine .call (.tup [.own 1000, .b t1.2]) [(1000, some (.rows 3 1 (List.map (encI .i64) t1.1) false))] 1 (lombardref05_digits.ok b2) rfl rfl rfl ca82 rfl rfl (cC (.imm _) .nil) rfl rfl rfl rfl rfl ?_; refine .m rfl rfl rfl rfl ?_; (iterate 2 refine .v rfl rfl (OpL.extract rfl rfl rfl) ?_); (iterate 2 refine .a rfl rfl rfl rfl ?_); refine .nil ?_; refine W.seq ?_; refine W.pk ?_; refine .a rfl rfl rfl rfl ?_; refine .nil ?_; (iterate 2 refine W.seq ?_); refine W.pk ?_; refine .a rfl rfl rfl rfl ?_; refine .nil ?_; obtain ⟨o27, b28, h⟩ := bnd1 h; refine W.fork (mkSt [(4, some (.b t1.2)), (5, some (.i o27))] [] 1001) ?_ ?_
 ·refine W.seq ?_; refine W.fork (mkSt [(2, some (.b (t1.2 && ((Int.tmod o27 10) == 0))))] [] 1001) ?_ ?_
  ·refine W.ret ?_; cases h; exact leaves (.inr rfl) rfl (.imm _) (cN .nil) rfl rfl
  ·clear h; refine W.pk ?_; (iterate 2 refine .m rfl rfl rfl rfl ?_); rcases tf t1.2 with g37 | g37
   ·refine .m rfl (met rfl rfl rfl g37) rfl rfl ?_; refine .v rfl (met rfl rfl rfl g37) (O.rem rfl rfl rfl (by decide)) ?_; refine .v rfl (met rfl rfl rfl g37) (OpL.binI rfl rfl rfl rfl) ?_; refine .v rfl rfl (O.pickT g37 rfl rfl rfl) ?_; refine .a rfl rfl rfl rfl ?_; refine .nil ?_; exact toN (Gives.mkR [] (.c rfl (sbb (by simp only [g37, BL])) rfl .n) .n rfl rfl rfl)
   ·(iterate 3 refine .x rfl (unmet rfl rfl rfl g37) ?_); refine .v rfl rfl (O.pickF g37 rfl rfl rfl) ?_; refine .a rfl rfl rfl rfl ?_; refine .nil ?_; exact toN (Gives.mkR [] (.c rfl (sbb (by simp only [g37, BL])) rfl .n) .n rfl rfl rfl)
 ·clear h; refine W.block ?_; refine W.loopF (fun (s_ : Int × Int) => mkSt [(3, some (.own 1000)), (4, some (.b t1.2)), (5, some (.i s_.1)), (6, some (.i s_.2))] [(1000, some (.rows 3 1 (List.map (encI .i64) t1.1) false))] 1001) b28 (Gives.mkR [] (.e rfl rfl) (.r rfl rfl rfl .n) rfl rfl rfl) ?_; rintro ⟨v10, v11⟩ s_ hr; have h : lombardref05_right.b0 t1 v10 v11 = some s_ := hr; unfold lombardref05_right.b0 at h; (iterate 2 refine W.seq ?_); refine W.pk ?_; (iterate 2 refine .m rfl rfl rfl rfl ?_); refine .v rfl rfl (O.lenO sl69 rfl rfl rfl) ?_; refine .v rfl rfl (OpL.binI rfl rfl rfl rfl) ?_; refine .nil ?_; refine W.cond rfl (fun q30 => ?_) (fun q30 => ?_)
  ·have h := ifT q30 h; refine W.skip ?_; refine W.seq ?_; refine W.block ?_; refine W.seq ?_; obtain ⟨c31, h⟩ := chk h; refine W.pk ?_; (iterate 2 refine .m rfl rfl rfl rfl ?_); refine .v rfl rfl (O.lenO sl69 rfl rfl rfl) ?_; refine .v rfl rfl (OpL.binI rfl rfl rfl rfl) ?_; refine .m rfl rfl rfl rfl ?_; refine .v rfl rfl (OpL.binI rfl rfl rfl rfl) ?_; refine .v rfl rfl (O.idxO sl69 c31 rfl rfl rfl rfl) ?_; refine .v rfl rfl (O.ldE (c := (.val (.int .i64 (nth t1.1 (IntKind.wrap .i64 ((IntKind.wrap .i64 ((List.length t1.1 : Int) - 1)) - v11)))))) ty3 c31 rfl rfl rfl rfl rfl) ?_; refine .a rfl rfl rfl rfl ?_; refine .nil ?_; (iterate 2 refine W.seq ?_); refine W.pk ?_; refine .m rfl rfl rfl rfl ?_; refine .v rfl rfl (O.rem rfl rfl rfl (by decide)) ?_; refine .v rfl rfl (OpL.binI rfl rfl rfl rfl) ?_; refine .nil ?_; obtain ⟨o34, b35, h⟩ := bnd1 h; refine W.fork (mkSt [(3, some (.own 1000)), (4, some (.b t1.2)), (5, some (.i v10)), (6, some (.i v11)), (7, some (.i o34))] [(1000, some (.rows 3 1 (List.map (encI .i64) t1.1) false))] 1001) ?_ ?_
   ·refine W.pk ?_; (iterate 2 refine .m rfl rfl rfl rfl ?_); refine .v rfl rfl (O.quo rfl rfl rfl (by decide)) ?_; refine .v rfl rfl (OpL.binI rfl rfl rfl rfl) ?_; refine .m rfl rfl rfl rfl ?_; refine .v rfl rfl (O.rem rfl rfl rfl (by decide)) ?_; refine .v rfl rfl (OpL.binI rfl rfl rfl rfl) ?_; refine .a rfl rfl rfl rfl ?_; refine .nil ?_; refine W.pk ?_; refine .m rfl rfl rfl rfl ?_; refine .v rfl rfl (OpL.binI rfl rfl rfl rfl) ?_; refine .a rfl rfl rfl rfl ?_; refine .nil ?_; cases h; exact rdN (Gives.mkR [] (.e rfl rfl) (.r rfl rfl rfl .n) rfl rfl rfl)
   ·clear h; have h := b35; refine W.cond rfl (fun q36 => ?_) (fun q36 => ?_)
    ·have h := ifT q36 h; refine W.pk ?_; refine .m rfl rfl rfl rfl ?_; refine .v rfl rfl (OpL.binI rfl rfl rfl rfl) ?_; refine .a rfl rfl rfl rfl ?_; refine .nil ?_; cases h; exact toN (Gives.mkR [] (.e rfl rfl) (.r rfl rfl rfl .n) rfl rfl rfl)
    ·have h := ifF q36 h; refine W.skip ?_; cases h; exact toN (Gives.mkR [] (.e rfl rfl) (.r rfl rfl rfl .n) rfl rfl rfl)
  ·have h := ifF q30 h; refine W.exit ?_; cases h; refine rdX fun e_ => ?_; subst e_; (repeat with_reducible refine thru ?_); refine hit ?_; exact toN (Gives.mkR [] (.e rfl rfl) .n rfl rfl rfl)

noncomputable def lombardref05_Check.f (x0 : Bs) : Option (Int) :=
  if (((List.length x0 : Int) != 12) = false → (0 : Int) ≤ 11 ∧ 11 < (List.length x0 : Int)) then
  if ((((List.length x0 : Int) != 12) || (decide ((byte x0 11) < 48))) = false → (0 : Int) ≤ 11 ∧ 11 < (List.length x0 : Int)) then
  if (((((List.length x0 : Int) != 12) || (decide ((byte x0 11) < 48))) || (decide ((byte x0 11) > 57))) = false → (0 : Int) ≤ 0 ∧ (0 : Int) ≤ 11 ∧ 11 ≤ (List.length x0 : Int)) then
  (if ((((List.length x0 : Int) != 12) || (decide ((byte x0 11) < 48))) || (decide ((byte x0 11) > 57))) = false then lombardref05_shaped.f (List.take (Int.toNat 11 - Int.toNat 0) (List.drop (Int.toNat 0) x0)) else some default).bind fun t4 =>
  if (((((List.length x0 : Int) != 12) || (decide ((byte x0 11) < 48))) || (decide ((byte x0 11) > 57))) || (!t4)) = true then
    some 11
  else
    (lombardref05_right.f x0).bind fun t10 =>
    if (!t10) = true then
      some 12
    else
      some 0
  else none
  else none
  else none
set_option maxRecDepth 100000 in
set_option maxHeartbeats 4000000 in
theorem lombardref05_Check.ok {x0 : Bs} {r : Int} (h : lombardref05_Check.f x0 = some r) : Pm.Spec prog 68 [.imm (.val (.string (tx x0)))] (.imm (.val (.int .i64 r))) [none] := by
 unfold lombardref05_Check.f at h; refine Pm.Spec.of_body Try.func68 rfl (by kernel_rfl) (Nat.le_of_ble_eq_true rfl) (Nat.le_of_ble_eq_true rfl) ?_; refine W.ghost (σ' := (mkSt [(0, some (.s x0))] [] 1000)) (Gives.entry (.c rfl .n) .n) ?_; refine W.seq ?_; refine W.pk ?_; refine .a rfl rfl rfl rfl ?_; refine .nil ?_; (iterate 2 refine W.seq ?_); obtain ⟨c1, h⟩ := chk h; obtain ⟨c2, h⟩ := chk h; obtain ⟨c3, h⟩ := chk h; obtain ⟨t4, b5, h⟩ := bnd1 h; refine W.fork (mkSt [(0, some (.s x0)), (21, some (.b (((((List.length x0 : Int) != 12) || (decide ((byte x0 11) < 48))) || (decide ((byte x0 11) > 57))) || (!t4))))] [] 1000) ?_ ?_
 ·refine W.cond rfl (fun q9 => ?_) (fun q9 => ?_)
  ·have h := ifT q9 h; refine W.seq ?_; refine W.pk ?_; refine .a rfl rfl rfl rfl ?_; refine .nil ?_; refine W.ret ?_; cases h; exact leaves (.inr rfl) rfl (.imm _) (cN .nil) rfl rfl
  ·have h := ifF q9 h; refine W.skip ?_; (iterate 2 refine W.seq ?_); obtain ⟨t10, b11, h⟩ := bnd1 h; refine W.pk ?_; refine .m rfl rfl rfl rfl ?_; refine .call (.b t10) [] 0 (lombardref05_right.ok b11) rfl rfl rfl ca77 rfl rfl (cC (.imm _) .nil) rfl rfl rfl rfl rfl ?_; refine .v rfl rfl (OpL.unV rfl rfl rfl) ?_; refine .nil ?_; refine W.cond rfl (fun q12 => ?_) (fun q12 => ?_)
   ·have h := ifT q12 h; refine W.seq ?_; refine W.pk ?_; refine .a rfl rfl rfl rfl ?_; refine .nil ?_; refine W.ret ?_; cases h; exact leaves (.inr rfl) rfl (.imm _) (cN .nil) rfl rfl
   ·have h := ifF q12 h; refine W.skip ?_; refine W.seq ?_; refine W.pk ?_; refine .a rfl rfl rfl rfl ?_; refine .nil ?_; refine W.ret ?_; cases h; exact leaves (.inr rfl) rfl (.imm _) (cN .nil) rfl rfl
 ·clear h; refine W.pk ?_; refine .m rfl rfl rfl rfl ?_; refine .v rfl rfl (O.lenS u9 rfl rfl) ?_; refine .v rfl rfl (OpL.binI rfl rfl rfl rfl) ?_; refine .m rfl rfl rfl rfl ?_; rcases tf ((List.length x0 : Int) != 12) with g6 | g6
  ·(iterate 3 refine .x rfl (unmet rfl rfl rfl g6) ?_); refine .v rfl rfl (O.pickT g6 rfl rfl rfl) ?_; refine .m rfl rfl rfl rfl ?_; (iterate 3 refine .x rfl (unmet rfl rfl rfl rfl) ?_); refine .v rfl rfl (O.pickT rfl rfl rfl rfl) ?_; refine .m rfl rfl rfl rfl ?_; (iterate 4 refine .x rfl (unmet rfl rfl rfl rfl) ?_); refine .v rfl rfl (O.pickT rfl rfl rfl rfl) ?_; refine .nil ?_; exact toN (Gives.mkR [] (.r rfl rfl (.c rfl (sbb (by simp only [g6, BL])) rfl .n)) .n rfl rfl rfl)
  ·refine .m rfl (met rfl rfl rfl g6) rfl rfl ?_; refine .v rfl (met rfl rfl rfl g6) (O.idxS u9 (c1 (by simp only [g6, BL])) rfl rfl rfl) ?_; refine .v rfl (met rfl rfl rfl g6) (OpL.binI rfl rfl rfl rfl) ?_; refine .v rfl rfl (O.pickF g6 rfl rfl rfl) ?_; refine .m rfl rfl rfl rfl ?_; rcases tf (decide ((byte x0 11) < 48)) with g7 | g7
   ·(iterate 3 refine .x rfl (unmet rfl rfl rfl g7) ?_); refine .v rfl rfl (O.pickT g7 rfl rfl rfl) ?_; refine .m rfl rfl rfl rfl ?_; (iterate 4 refine .x rfl (unmet rfl rfl rfl rfl) ?_); refine .v rfl rfl (O.pickT rfl rfl rfl rfl) ?_; refine .nil ?_; exact toN (Gives.mkR [] (.r rfl rfl (.c rfl (sbb (by first | (simp only [g6, g7, BL]; done) | (repeat (first | rw [g6] | rw [g7])) <;> simp only [BL])) rfl .n)) .n rfl rfl rfl)
   ·refine .m rfl (met rfl rfl rfl g7) rfl rfl ?_; refine .v rfl (met rfl rfl rfl g7) (O.idxS u9 (c2 (by first | (simp only [g6, g7, BL]; done) | (repeat (first | rw [g6] | rw [g7])) <;> simp only [BL])) rfl rfl rfl) ?_; refine .v rfl (met rfl rfl rfl g7) (OpL.binI rfl rfl rfl rfl) ?_; refine .v rfl rfl (O.pickF g7 rfl rfl rfl) ?_; refine .m rfl rfl rfl rfl ?_; rcases tf (decide ((byte x0 11) > 57)) with g8 | g8
    ·(iterate 4 refine .x rfl (unmet rfl rfl rfl g8) ?_); refine .v rfl rfl (O.pickT g8 rfl rfl rfl) ?_; refine .nil ?_; exact toN (Gives.mkR [] (.r rfl rfl (.c rfl (sbb (by first | (simp only [g6, g7, g8, BL]; done) | (repeat (first | rw [g6] | rw [g7] | rw [g8])) <;> simp only [BL])) rfl .n)) .n rfl rfl rfl)
    ·refine .m rfl (met rfl rfl rfl g8) rfl rfl ?_; refine .v rfl (met rfl rfl rfl g8) (O.partS u9 (c3 (by first | (simp only [g6, g7, g8, BL]; done) | (repeat (first | rw [g6] | rw [g7] | rw [g8])) <;> simp only [BL])) rfl rfl rfl rfl) ?_; refine .call (.b t4) [] 0 (lombardref05_shaped.ok ((if_pos (by first | (simp only [g6, g7, g8, BL]; done) | (repeat (first | rw [g6] | rw [g7] | rw [g8])) <;> simp only [BL])).symm.trans b5)) rfl (met rfl rfl rfl g8) rfl ca76 rfl rfl (cC (.imm _) .nil) rfl rfl rfl rfl rfl ?_; refine .v rfl (met rfl rfl rfl g8) (OpL.unV rfl rfl rfl) ?_; refine .v rfl rfl (O.pickF g8 rfl rfl rfl) ?_; refine .nil ?_; exact toN (Gives.mkR [] (.r rfl rfl (.c rfl (sbb (by first | (simp only [g6, g7, g8, BL]; done) | (repeat (first | rw [g6] | rw [g7] | rw [g8])) <;> simp only [BL])) rfl .n)) .n rfl rfl rfl)

noncomputable def lombardref05_Currency.b0 (x0 : Bs) (v4 : Int) : Option (Int ⊕ (Bool ⊕ Unit)) :=
  if (decide (v4 < 32)) = true then
    if (0 : Int) ≤ v4 ∧ v4 ≤ (IntKind.wrap .i64 (v4 + 3)) ∧ (IntKind.wrap .i64 (v4 + 3)) ≤ (List.length [69, 85, 82, 32, 85, 83, 68, 32, 71, 66, 80, 32, 67, 72, 70, 32, 74, 80, 89, 32, 83, 69, 75, 32, 78, 79, 75, 32, 68, 75, 75, 32] : Int) then
    if ((List.take (Int.toNat (IntKind.wrap .i64 (v4 + 3)) - Int.toNat v4) (List.drop (Int.toNat v4) [69, 85, 82, 32, 85, 83, 68, 32, 71, 66, 80, 32, 67, 72, 70, 32, 74, 80, 89, 32, 83, 69, 75, 32, 78, 79, 75, 32, 68, 75, 75, 32])) == x0) = true then
      some (.inr (.inl true))
    else
      some (.inl (IntKind.wrap .i64 (v4 + 4)))
    else none
  else
    some (.inr (.inr ()))
noncomputable def lombardref05_Currency.r0 (x0 : Bs) (s : Int) : Option (Int ⊕ (Bool ⊕ Unit)) := lombardref05_Currency.b0 x0 s
noncomputable def lombardref05_Currency.f (x0 : Bs) : Option (Bool) :=
  (loop (lombardref05_Currency.r0 x0) 0).bind fun o12 =>
  match o12 with
  | .inl r18 => some r18
  | .inr w11 =>
    some false
set_option maxRecDepth 100000 in
set_option maxHeartbeats 4000000 in
theorem lombardref05_Currency.ok {x0 : Bs} {r : Bool} (h : lombardref05_Currency.f x0 = some r) : Pm.Spec prog 69 [.imm (.val (.string (tx x0)))] (.imm (.val (.bool r))) [none] := by
 unfold lombardref05_Currency.f at h; refine Pm.Spec.of_body Try.func69 rfl (by kernel_rfl) (Nat.le_of_ble_eq_true rfl) (Nat.le_of_ble_eq_true rfl) ?_; refine W.ghost (σ' := (mkSt [(0, some (.s x0))] [] 1000)) (Gives.entry (.c rfl .n) .n) ?_; refine W.seq ?_; refine W.pk ?_; refine .a rfl rfl rfl rfl ?_; refine .nil ?_; (iterate 2 refine W.seq ?_); refine W.pk ?_; refine .a rfl rfl rfl rfl ?_; refine .nil ?_; obtain ⟨o12, b13, z14⟩ := bnd1 h; refine W.fork2 (out := o12) (fun (w11 : Unit) => mkSt [] [] 1000) ?_ ?_
 ·clear h; refine W.block ?_; refine W.loopF (fun (s_ : Int) => mkSt [(0, some (.s x0)), (3, some (.i s_))] [] 1000) b13 (Gives.mkR [] (.e rfl rfl) .n rfl rfl rfl) ?_; rintro v4 s_ hr; have h : lombardref05_Currency.b0 x0 v4 = some s_ := hr; unfold lombardref05_Currency.b0 at h; (iterate 2 refine W.seq ?_); refine W.pk ?_; refine .m rfl rfl rfl rfl ?_; refine .v rfl rfl (OpL.binI rfl rfl rfl rfl) ?_; refine .nil ?_; refine W.cond rfl (fun q15 => ?_) (fun q15 => ?_)
  ·have h := ifT q15 h; refine W.skip ?_; refine W.seq ?_; refine W.block ?_; refine W.seq ?_; obtain ⟨c16, h⟩ := chk h; refine W.pk ?_; (iterate 2 refine .m rfl rfl rfl rfl ?_); refine .v rfl rfl (OpL.binI rfl rfl rfl rfl) ?_; refine .v rfl rfl (O.partS u9 c16 rfl rfl rfl rfl) ?_; refine .m rfl rfl rfl rfl ?_; refine .v rfl rfl (O.cmpS rfl rfl rfl rfl) ?_; refine .nil ?_; refine W.cond rfl (fun q17 => ?_) (fun q17 => ?_)
   ·have h := ifT q17 h; refine W.seq ?_; refine W.pk ?_; refine .a rfl rfl rfl rfl ?_; refine .nil ?_; refine W.ret ?_; cases h; refine rdR fun e_ => ?_; subst e_; have h := z14; dsimp only at h; refine fkR ?_; cases h; exact leaves (.inr rfl) rfl (.imm _) (cN .nil) rfl rfl
   ·have h := ifF q17 h; refine W.skip ?_; refine W.pk ?_; refine .m rfl rfl rfl rfl ?_; refine .v rfl rfl (OpL.binI rfl rfl rfl rfl) ?_; refine .a rfl rfl rfl rfl ?_; refine .nil ?_; cases h; exact rdN (Gives.mkR [] (.e rfl rfl) .n rfl rfl rfl)
  ·have h := ifF q15 h; refine W.exit ?_; cases h; refine rdX fun e_ => ?_; subst e_; (repeat with_reducible refine thru ?_); refine hit ?_; exact fkN (Gives.mkR [] .n .n rfl rfl rfl)
 ·intro w11 e_; subst e_; clear h; have h := z14; dsimp only at h; refine W.seq ?_; refine W.pk ?_; refine .a rfl rfl rfl rfl ?_; refine .nil ?_; refine W.ret ?_; cases h; exact leaves (.inr rfl) rfl (.imm _) (cN .nil) rfl rfl

noncomputable def lombardref05_Asset.f (x0 : api_Asset) : Option (Int) :=
  (lombardref05_Check.f x0.ISIN).bind fun t1 =>
  if (t1 != 0) = true then
    (lombardref05_Check.f x0.ISIN).bind fun t4 =>
    some t4
  else
    (lombardref05_Currency.f x0.Currency).bind fun t6 =>
    if (!t6) = true then
      some 11
    else
      if ((((decide (x0.Issuer < 0)) || (decide (x0.Issuer > 9999))) || (decide (x0.Rating < 0))) || (decide (x0.Rating > 20))) = true then
        some 1
      else
        if ((decide (x0.Maturity < 0)) || (decide (x0.Maturity > 200000))) = true then
          some 10
        else
          some 0
set_option maxRecDepth 100000 in
set_option maxHeartbeats 4000000 in
theorem lombardref05_Asset.ok {x0 : api_Asset} {r : Int} (h : lombardref05_Asset.f x0 = some r) : Pm.Spec prog 53 [.agg [.imm (.val (.string (tx x0.ISIN))), .imm (.val (.int .i64 x0.Issuer)), .imm (.val (.int .i64 x0.Rating)), .imm (.val (.int .i64 x0.Maturity)), .imm (.val (.string (tx x0.Currency)))]] (.imm (.val (.int .i64 r))) [none] := by
 unfold lombardref05_Asset.f at h; refine Pm.Spec.of_body Try.func53 rfl (by kernel_rfl) (Nat.le_of_ble_eq_true rfl) (Nat.le_of_ble_eq_true rfl) ?_; refine W.ghost (σ' := (mkSt [(0, some (.agg (api_Asset.av x0)))] [] 1000)) (Gives.entry (.c rfl .n) .n) ?_; refine W.seq ?_; refine W.pk ?_; refine .t rfl rfl (O.box rfl rfl rfl rfl rfl) ?_; refine .a rfl rfl rfl rfl ?_; refine .nil ?_; (iterate 2 refine W.seq ?_); obtain ⟨t1, b2, h⟩ := bnd1 h; refine W.pk ?_; refine .v rfl rfl (O.fld fld29_0 rfl rfl rfl) ?_; refine .v rfl rfl (O.ld (y := .s x0.ISIN) ty9 rfl rfl rfl) ?_; refine .call (.i t1) [] 0 (lombardref05_Check.ok b2) rfl rfl rfl ca68 rfl rfl (cC (.imm _) .nil) rfl rfl rfl rfl rfl ?_; refine .v rfl rfl (OpL.binI rfl rfl rfl rfl) ?_; refine .nil ?_; refine W.cond rfl (fun q3 => ?_) (fun q3 => ?_)
 ·have h := ifT q3 h; refine W.seq ?_; obtain ⟨t4, b5, h⟩ := bnd1 h; refine W.pk ?_; refine .v rfl rfl (O.fld fld29_0 rfl rfl rfl) ?_; refine .v rfl rfl (O.ld (y := .s x0.ISIN) ty9 rfl rfl rfl) ?_; refine .call (.i t4) [] 0 (lombardref05_Check.ok b5) rfl rfl rfl ca68 rfl rfl (cC (.imm _) .nil) rfl rfl rfl rfl rfl ?_; refine .a rfl rfl rfl rfl ?_; refine .nil ?_; refine W.ret ?_; cases h; exact leaves (.inr rfl) rfl (.imm _) (cN .nil) rfl rfl
 ·have h := ifF q3 h; refine W.skip ?_; (iterate 2 refine W.seq ?_); obtain ⟨t6, b7, h⟩ := bnd1 h; refine W.pk ?_; refine .v rfl rfl (O.fld fld29_4 rfl rfl rfl) ?_; refine .v rfl rfl (O.ld (y := .s x0.Currency) ty9 rfl rfl rfl) ?_; refine .call (.b t6) [] 0 (lombardref05_Currency.ok b7) rfl rfl rfl ca69 rfl rfl (cC (.imm _) .nil) rfl rfl rfl rfl rfl ?_; refine .v rfl rfl (OpL.unV rfl rfl rfl) ?_; refine .nil ?_; refine W.cond rfl (fun q8 => ?_) (fun q8 => ?_)
  ·have h := ifT q8 h; refine W.seq ?_; refine W.pk ?_; refine .a rfl rfl rfl rfl ?_; refine .nil ?_; refine W.ret ?_; cases h; exact leaves (.inr rfl) rfl (.imm _) (cN .nil) rfl rfl
  ·have h := ifF q8 h; refine W.skip ?_; (iterate 2 refine W.seq ?_); refine W.fork (mkSt [(1, some (.ptr 1000 0)), (31, some (.b ((((decide (x0.Issuer < 0)) || (decide (x0.Issuer > 9999))) || (decide (x0.Rating < 0))) || (decide (x0.Rating > 20)))))] [(1000, some (.box [.s x0.ISIN, .i x0.Issuer, .i x0.Rating, .i x0.Maturity, .s x0.Currency]))] 1001) ?_ ?_
   ·refine W.cond rfl (fun q12 => ?_) (fun q12 => ?_)
    ·have h := ifT q12 h; refine W.seq ?_; refine W.pk ?_; refine .a rfl rfl rfl rfl ?_; refine .nil ?_; refine W.ret ?_; cases h; exact leaves (.inr rfl) rfl (.imm _) (cN .nil) rfl rfl
    ·have h := ifF q12 h; refine W.skip ?_; (iterate 2 refine W.seq ?_); refine W.fork (mkSt [(39, some (.b ((decide (x0.Maturity < 0)) || (decide (x0.Maturity > 200000)))))] [] 1001) ?_ ?_
     ·refine W.cond rfl (fun q14 => ?_) (fun q14 => ?_)
      ·have h := ifT q14 h; refine W.seq ?_; refine W.pk ?_; refine .a rfl rfl rfl rfl ?_; refine .nil ?_; refine W.ret ?_; cases h; exact leaves (.inr rfl) rfl (.imm _) (cN .nil) rfl rfl
      ·have h := ifF q14 h; refine W.skip ?_; refine W.seq ?_; refine W.pk ?_; refine .a rfl rfl rfl rfl ?_; refine .nil ?_; refine W.ret ?_; cases h; exact leaves (.inr rfl) rfl (.imm _) (cN .nil) rfl rfl
     ·clear h; refine W.pk ?_; refine .v rfl rfl (O.fld fld29_3 rfl rfl rfl) ?_; refine .v rfl rfl (O.ld (y := .i x0.Maturity) ty3 rfl rfl rfl) ?_; refine .v rfl rfl (OpL.binI rfl rfl rfl rfl) ?_; refine .m rfl rfl rfl rfl ?_; rcases tf (decide (x0.Maturity < 0)) with g13 | g13
      ·(iterate 3 refine .x rfl (unmet rfl rfl rfl g13) ?_); refine .v rfl rfl (O.pickT g13 rfl rfl rfl) ?_; refine .nil ?_; exact toN (Gives.mkR [] (.c rfl (sbb (by simp only [g13, BL])) rfl .n) .n rfl rfl rfl)
      ·refine .v rfl (met rfl rfl rfl g13) (O.fld fld29_3 rfl rfl rfl) ?_; refine .v rfl (met rfl rfl rfl g13) (O.ld (y := .i x0.Maturity) ty3 rfl rfl rfl) ?_; refine .v rfl (met rfl rfl rfl g13) (OpL.binI rfl rfl rfl rfl) ?_; refine .v rfl rfl (O.pickF g13 rfl rfl rfl) ?_; refine .nil ?_; exact toN (Gives.mkR [] (.c rfl (sbb (by simp only [g13, BL])) rfl .n) .n rfl rfl rfl)
   ·clear h; refine W.pk ?_; refine .v rfl rfl (O.fld fld29_1 rfl rfl rfl) ?_; refine .v rfl rfl (O.ld (y := .i x0.Issuer) ty3 rfl rfl rfl) ?_; refine .v rfl rfl (OpL.binI rfl rfl rfl rfl) ?_; refine .m rfl rfl rfl rfl ?_; rcases tf (decide (x0.Issuer < 0)) with g9 | g9
    ·(iterate 3 refine .x rfl (unmet rfl rfl rfl g9) ?_); refine .v rfl rfl (O.pickT g9 rfl rfl rfl) ?_; refine .m rfl rfl rfl rfl ?_; (iterate 3 refine .x rfl (unmet rfl rfl rfl rfl) ?_); refine .v rfl rfl (O.pickT rfl rfl rfl rfl) ?_; refine .m rfl rfl rfl rfl ?_; (iterate 3 refine .x rfl (unmet rfl rfl rfl rfl) ?_); refine .v rfl rfl (O.pickT rfl rfl rfl rfl) ?_; refine .nil ?_; exact toN (Gives.mkR [] (.r rfl rfl (.c rfl (sbb (by simp only [g9, BL])) rfl .n)) (.r rfl rfl rfl .n) rfl rfl rfl)
    ·refine .v rfl (met rfl rfl rfl g9) (O.fld fld29_1 rfl rfl rfl) ?_; refine .v rfl (met rfl rfl rfl g9) (O.ld (y := .i x0.Issuer) ty3 rfl rfl rfl) ?_; refine .v rfl (met rfl rfl rfl g9) (OpL.binI rfl rfl rfl rfl) ?_; refine .v rfl rfl (O.pickF g9 rfl rfl rfl) ?_; refine .m rfl rfl rfl rfl ?_; rcases tf (decide (x0.Issuer > 9999)) with g10 | g10
     ·(iterate 3 refine .x rfl (unmet rfl rfl rfl g10) ?_); refine .v rfl rfl (O.pickT g10 rfl rfl rfl) ?_; refine .m rfl rfl rfl rfl ?_; (iterate 3 refine .x rfl (unmet rfl rfl rfl rfl) ?_); refine .v rfl rfl (O.pickT rfl rfl rfl rfl) ?_; refine .nil ?_; exact toN (Gives.mkR [] (.r rfl rfl (.c rfl (sbb (by first | (simp only [g9, g10, BL]; done) | (repeat (first | rw [g9] | rw [g10])) <;> simp only [BL])) rfl .n)) (.r rfl rfl rfl .n) rfl rfl rfl)
     ·refine .v rfl (met rfl rfl rfl g10) (O.fld fld29_2 rfl rfl rfl) ?_; refine .v rfl (met rfl rfl rfl g10) (O.ld (y := .i x0.Rating) ty3 rfl rfl rfl) ?_; refine .v rfl (met rfl rfl rfl g10) (OpL.binI rfl rfl rfl rfl) ?_; refine .v rfl rfl (O.pickF g10 rfl rfl rfl) ?_; refine .m rfl rfl rfl rfl ?_; rcases tf (decide (x0.Rating < 0)) with g11 | g11
      ·(iterate 3 refine .x rfl (unmet rfl rfl rfl g11) ?_); refine .v rfl rfl (O.pickT g11 rfl rfl rfl) ?_; refine .nil ?_; exact toN (Gives.mkR [] (.r rfl rfl (.c rfl (sbb (by first | (simp only [g9, g10, g11, BL]; done) | (repeat (first | rw [g9] | rw [g10] | rw [g11])) <;> simp only [BL])) rfl .n)) (.r rfl rfl rfl .n) rfl rfl rfl)
      ·refine .v rfl (met rfl rfl rfl g11) (O.fld fld29_2 rfl rfl rfl) ?_; refine .v rfl (met rfl rfl rfl g11) (O.ld (y := .i x0.Rating) ty3 rfl rfl rfl) ?_; refine .v rfl (met rfl rfl rfl g11) (OpL.binI rfl rfl rfl rfl) ?_; refine .v rfl rfl (O.pickF g11 rfl rfl rfl) ?_; refine .nil ?_; exact toN (Gives.mkR [] (.r rfl rfl (.c rfl (sbb (by first | (simp only [g9, g10, g11, BL]; done) | (repeat (first | rw [g9] | rw [g10] | rw [g11])) <;> simp only [BL])) rfl .n)) (.r rfl rfl rfl .n) rfl rfl rfl)

noncomputable def lombardref13_Find.b0 (x0 : List lombardref13_Known) (x1 : Bs) (v4 : Int) : Option (Int ⊕ (Int ⊕ Unit)) :=
  if (decide (v4 < (List.length x0 : Int))) = true then
    if (0 : Int) ≤ v4 ∧ v4 < (List.length x0 : Int) then
    if ((((nth x0 v4).A).ISIN) == x1) = true then
      some (.inr (.inl v4))
    else
      some (.inl (IntKind.wrap .i64 (v4 + 1)))
    else none
  else
    some (.inr (.inr ()))
noncomputable def lombardref13_Find.r0 (x0 : List lombardref13_Known) (x1 : Bs) (s : Int) : Option (Int ⊕ (Int ⊕ Unit)) := lombardref13_Find.b0 x0 x1 s
noncomputable def lombardref13_Find.f (x0 : List lombardref13_Known) (x1 : Bs) : Option (Int) :=
  (loop (lombardref13_Find.r0 x0 x1) 0).bind fun o12 =>
  match o12 with
  | .inl r18 => some r18
  | .inr w11 =>
    some (-1)
set_option maxRecDepth 100000 in
set_option maxHeartbeats 4000000 in
theorem lombardref13_Find.ok {x0 : List lombardref13_Known} {x1 : Bs} {r : Int} (h : lombardref13_Find.f x0 x1 = some r) : Pm.Spec prog 17 [.xown 46 6 (List.map lombardref13_Known.enc x0), .imm (.val (.string (tx x1)))] (.imm (.val (.int .i64 r))) [some (.xown 46 6 (List.map lombardref13_Known.enc x0)), none] := by
 unfold lombardref13_Find.f at h; refine Pm.Spec.of_body Try.func17 rfl (by kernel_rfl) (Nat.le_of_ble_eq_true rfl) (Nat.le_of_ble_eq_true rfl) ?_; refine W.ghost (σ' := (mkSt [(0, some (.own 0)), (1, some (.s x1))] [(0, some (.rows 46 6 (List.map lombardref13_Known.enc x0) false))] 1000)) (Gives.entry (.c rfl (.c rfl .n)) (.c rfl .n)) ?_; refine W.seq ?_; refine W.pk ?_; refine .a rfl rfl rfl rfl ?_; refine .nil ?_; (iterate 2 refine W.seq ?_); refine W.pk ?_; refine .a rfl rfl rfl rfl ?_; refine .nil ?_; obtain ⟨o12, b13, z14⟩ := bnd1 h; refine W.fork2 (out := o12) (fun (w11 : Unit) => mkSt [] [(0, some (.rows 46 6 (List.map lombardref13_Known.enc x0) false))] 1000) ?_ ?_
 ·clear h; refine W.block ?_; refine W.loopF (fun (s_ : Int) => mkSt [(0, some (.own 0)), (1, some (.s x1)), (5, some (.i s_))] [(0, some (.rows 46 6 (List.map lombardref13_Known.enc x0) false))] 1000) b13 (Gives.mkR [] (.e rfl rfl) (.r rfl rfl rfl .n) rfl rfl rfl) ?_; rintro v4 s_ hr; have h : lombardref13_Find.b0 x0 x1 v4 = some s_ := hr; unfold lombardref13_Find.b0 at h; (iterate 2 refine W.seq ?_); refine W.pk ?_; (iterate 2 refine .m rfl rfl rfl rfl ?_); refine .v rfl rfl (O.lenO sl31 rfl rfl rfl) ?_; refine .v rfl rfl (OpL.binI rfl rfl rfl rfl) ?_; refine .nil ?_; refine W.cond rfl (fun q15 => ?_) (fun q15 => ?_)
  ·have h := ifT q15 h; refine W.skip ?_; refine W.seq ?_; refine W.block ?_; refine W.seq ?_; obtain ⟨c16, h⟩ := chk h; refine W.pk ?_; (iterate 2 refine .m rfl rfl rfl rfl ?_); refine .v rfl rfl (O.idxO sl31 c16 rfl rfl rfl rfl) ?_; refine .v rfl rfl (O.fld fld46_0 rfl rfl rfl) ?_; refine .v rfl rfl (O.fld fld29_0 rfl rfl rfl) ?_; refine .v rfl rfl (O.ldE (c := (.val (.string (tx (((nth x0 v4).A).ISIN))))) ty9 c16 rfl rfl rfl rfl rfl) ?_; refine .m rfl rfl rfl rfl ?_; refine .v rfl rfl (O.cmpS rfl rfl rfl rfl) ?_; refine .nil ?_; refine W.cond rfl (fun q17 => ?_) (fun q17 => ?_)
   ·have h := ifT q17 h; refine W.seq ?_; refine W.pk ?_; refine .m rfl rfl rfl rfl ?_; refine .a rfl rfl rfl rfl ?_; refine .nil ?_; refine W.ret ?_; cases h; refine rdR fun e_ => ?_; subst e_; have h := z14; dsimp only at h; refine fkR ?_; cases h; exact leaves (.inr rfl) rfl (.imm _) (cS (.own _ _ _ _ rfl) (cN .nil)) rfl rfl
   ·have h := ifF q17 h; refine W.skip ?_; refine W.pk ?_; refine .m rfl rfl rfl rfl ?_; refine .v rfl rfl (OpL.binI rfl rfl rfl rfl) ?_; refine .a rfl rfl rfl rfl ?_; refine .nil ?_; cases h; exact rdN (Gives.mkR [] (.e rfl rfl) (.r rfl rfl rfl .n) rfl rfl rfl)
  ·have h := ifF q15 h; refine W.exit ?_; cases h; refine rdX fun e_ => ?_; subst e_; (repeat with_reducible refine thru ?_); refine hit ?_; exact fkN (Gives.mkR [] .n (.r rfl rfl rfl .n) rfl rfl rfl)
 ·intro w11 e_; subst e_; clear h; have h := z14; dsimp only at h; refine W.seq ?_; refine W.pk ?_; refine .a rfl rfl rfl rfl ?_; refine .nil ?_; refine W.ret ?_; cases h; exact leaves (.inr rfl) rfl (.imm _) (cS (.own _ _ _ _ rfl) (cN .nil)) rfl rfl

noncomputable def lombardref13_Add.b0 (x0 : List lombardref13_Known) (x1 : api_Asset) (v37 : Bool) (v38 : Int) (v39 : List lombardref13_Known) : Option ((Bool × Int × (List lombardref13_Known)) ⊕ (Bool × (List lombardref13_Known))) :=
  if (decide (v38 < (List.length x0 : Int))) = true then
    if ((!v37) = true → (0 : Int) ≤ v38 ∧ v38 < (List.length x0 : Int)) then
    ((
      if ((!v37) && (!(Go.Op.bytesLess (((nth x0 v38).A).ISIN) x1.ISIN || (((nth x0 v38).A).ISIN) == x1.ISIN))) = true then
        if (List.length v39 + List.length [(⟨x1, 0⟩ : lombardref13_Known)]) * 64 ≤ 140737488355328 then
        some (true, (v39 ++ [(⟨x1, 0⟩ : lombardref13_Known)]))
        else none
      else
        some (v37, v39) : Option (Bool × (List lombardref13_Known)))).bind fun o77 =>
    if (0 : Int) ≤ v38 ∧ v38 < (List.length x0 : Int) then
    if (List.length o77.2 + List.length [(⟨((nth x0 v38).A), (nth x0 v38).Price⟩ : lombardref13_Known)]) * 64 ≤ 140737488355328 then
    some (.inl (o77.1, (IntKind.wrap .i64 (v38 + 1)), (o77.2 ++ [(⟨((nth x0 v38).A), (nth x0 v38).Price⟩ : lombardref13_Known)])))
    else none
    else none
    else none
  else
    some (.inr (v37, v39))
noncomputable def lombardref13_Add.r0 (x0 : List lombardref13_Known) (x1 : api_Asset) (s : Bool × Int × (List lombardref13_Known)) : Option ((Bool × Int × (List lombardref13_Known)) ⊕ (Bool × (List lombardref13_Known))) := lombardref13_Add.b0 x0 x1 s.1 s.2.1 s.2.2
noncomputable def lombardref13_Add.f (x0 : List lombardref13_Known) (x1 : api_Asset) : Option ((List lombardref13_Known) × Int) :=
  (lombardref05_Asset.f x1).bind fun t1 =>
  if (t1 != 0) = true then
    (lombardref05_Asset.f x1).bind fun t4 =>
    some (x0, t4)
  else
    (lombardref13_Find.f x0 x1.ISIN).bind fun t6 =>
    if (decide (t6 ≥ 0)) = true then
      some (x0, 7)
    else
      if (decide ((List.length x0 : Int) ≥ 64)) = true then
        some (x0, 18)
      else
        (loop (lombardref13_Add.r0 x0 x1) (false, 0, [])).bind fun o67 =>
        if (!o67.1) = true then
          if (List.length o67.2 + List.length [(⟨x1, 0⟩ : lombardref13_Known)]) * 64 ≤ 140737488355328 then
          some ((o67.2 ++ [(⟨x1, 0⟩ : lombardref13_Known)]), 0)
          else none
        else
          some (o67.2, 0)
set_option maxRecDepth 100000 in
set_option maxHeartbeats 4000000 in
theorem lombardref13_Add.ok {x0 : List lombardref13_Known} {x1 : api_Asset} {r : (List lombardref13_Known) × Int} (h : lombardref13_Add.f x0 x1 = some r) : Pm.Spec prog 35 [.xown 46 6 (List.map lombardref13_Known.enc x0), .agg [.imm (.val (.string (tx x1.ISIN))), .imm (.val (.int .i64 x1.Issuer)), .imm (.val (.int .i64 x1.Rating)), .imm (.val (.int .i64 x1.Maturity)), .imm (.val (.string (tx x1.Currency)))]] (.tup [.xown 46 6 (List.map lombardref13_Known.enc r.1), .imm (.val (.int .i64 r.2))]) [none, none] := by
 unfold lombardref13_Add.f at h; refine Pm.Spec.of_body Try.func35 rfl (by kernel_rfl) (Nat.le_of_ble_eq_true rfl) (Nat.le_of_ble_eq_true rfl) ?_; refine W.ghost (σ' := (mkSt [(0, some (.own 0)), (1, some (.agg (api_Asset.av x1)))] [(0, some (.rows 46 6 (List.map lombardref13_Known.enc x0) false))] 1000)) (Gives.entry (.c rfl (.c rfl .n)) (.c rfl .n)) ?_; refine W.seq ?_; refine W.pk ?_; refine .t rfl rfl (O.box rfl rfl rfl rfl rfl) ?_; (iterate 2 refine .a rfl rfl rfl rfl ?_); refine .nil ?_; (iterate 2 refine W.seq ?_); obtain ⟨t1, b2, h⟩ := bnd1 h; refine W.pk ?_; refine .v rfl rfl (O.ldN ty29 rfl rfl rfl) ?_; refine .call (.i t1) [] 0 (lombardref05_Asset.ok b2) rfl rfl rfl ca53 rfl rfl (cC (.agg _ _ _ _ (cC (.imm _) (cC (.imm _) (cC (.imm _) (cC (.imm _) (cC (.imm _) .nil)))))) .nil) rfl rfl rfl rfl rfl ?_; refine .v rfl rfl (OpL.binI rfl rfl rfl rfl) ?_; refine .nil ?_; refine W.cond rfl (fun q3 => ?_) (fun q3 => ?_)
 ·have h := ifT q3 h; refine W.seq ?_; obtain ⟨t4, b5, h⟩ := bnd1 h; refine W.pk ?_; refine .m rfl rfl rfl rfl ?_; refine .v rfl rfl (O.ldN ty29 rfl rfl rfl) ?_; refine .call (.i t4) [] 0 (lombardref05_Asset.ok b5) rfl rfl rfl ca53 rfl rfl (cC (.agg _ _ _ _ (cC (.imm _) (cC (.imm _) (cC (.imm _) (cC (.imm _) (cC (.imm _) .nil)))))) .nil) rfl rfl rfl rfl rfl ?_; (iterate 2 refine .a rfl rfl rfl rfl ?_); refine .nil ?_; refine W.ret ?_; cases h; exact leaves (.inr rfl) rfl (.tup _ _ _ _ (cC (.own _ _ _ _ rfl) (cC (.imm _) .nil))) (cN (cN .nil)) rfl rfl
 ·have h := ifF q3 h; refine W.skip ?_; (iterate 2 refine W.seq ?_); obtain ⟨t6, b7, h⟩ := bnd1 h; refine W.pk ?_; refine .m rfl rfl rfl rfl ?_; refine .v rfl rfl (O.fld fld29_0 rfl rfl rfl) ?_; refine .v rfl rfl (O.ld (y := .s x1.ISIN) ty9 rfl rfl rfl) ?_; refine .call (.i t6) [(0, some (.rows 46 6 (List.map lombardref13_Known.enc x0) false)), (0, none)] 0 (lombardref13_Find.ok b7) rfl rfl rfl ca17 rfl rfl (cC (.own _ _ _ _ rfl) (cC (.imm _) .nil)) rfl rfl rfl rfl rfl ?_; refine .v rfl rfl (OpL.binI rfl rfl rfl rfl) ?_; refine .nil ?_; refine W.cond rfl (fun q8 => ?_) (fun q8 => ?_)
  ·have h := ifT q8 h; refine W.seq ?_; refine W.pk ?_; refine .m rfl rfl rfl rfl ?_; (iterate 2 refine .a rfl rfl rfl rfl ?_); refine .nil ?_; refine W.ret ?_; cases h; exact leaves (.inr rfl) rfl (.tup _ _ _ _ (cC (.own _ _ _ _ rfl) (cC (.imm _) .nil))) (cN (cN .nil)) rfl rfl
  ·have h := ifF q8 h; refine W.skip ?_; (iterate 2 refine W.seq ?_); refine W.pk ?_; refine .m rfl rfl rfl rfl ?_; refine .v rfl rfl (O.lenO sl31 rfl rfl rfl) ?_; refine .v rfl rfl (OpL.binI rfl rfl rfl rfl) ?_; refine .nil ?_; refine W.cond rfl (fun q9 => ?_) (fun q9 => ?_)
   ·have h := ifT q9 h; refine W.seq ?_; refine W.pk ?_; refine .m rfl rfl rfl rfl ?_; (iterate 2 refine .a rfl rfl rfl rfl ?_); refine .nil ?_; refine W.ret ?_; cases h; exact leaves (.inr rfl) rfl (.tup _ _ _ _ (cC (.own _ _ _ _ rfl) (cC (.imm _) .nil))) (cN (cN .nil)) rfl rfl
   ·have h := ifF q9 h; refine W.skip ?_; refine W.seq ?_; refine W.pk ?_; refine .a rfl rfl rfl rfl ?_; refine .nil ?_; refine W.seq ?_; refine W.pk ?_; refine .a rfl rfl rfl rfl ?_; refine .nil ?_; (iterate 2 refine W.seq ?_); refine W.pk ?_; refine .a rfl rfl rfl rfl ?_; refine .nil ?_; refine W.ghost (Gives.mintS 6 46 6 rfl) ?_; obtain ⟨o67, b68, h⟩ := bnd1 h; refine W.fork (mkSt [(3, some (.ptr 1000 0)), (6, some (.own 1001)), (7, some (.b o67.1))] [(0, some (.rows 46 6 (List.map lombardref13_Known.enc x0) false)), (1000, some (.box [.s x1.ISIN, .i x1.Issuer, .i x1.Rating, .i x1.Maturity, .s x1.Currency])), (1001, some (.rows 46 6 (List.map lombardref13_Known.enc o67.2) false))] 1002) ?_ ?_
    ·(iterate 2 refine W.seq ?_); refine W.pk ?_; refine .m rfl rfl rfl rfl ?_; refine .v rfl rfl (OpL.unV rfl rfl rfl) ?_; refine .nil ?_; refine W.cond rfl (fun q83 => ?_) (fun q83 => ?_)
     ·have h := ifT q83 h; obtain ⟨c84, h⟩ := chk h; refine W.pk ?_; refine .m rfl rfl rfl rfl ?_; refine .v rfl rfl (O.ldN ty29 rfl rfl rfl) ?_; refine .v rfl rfl (O.build (out := [.s x1.ISIN, .i x1.Issuer, .i x1.Rating, .i x1.Maturity, .s x1.Currency, .i 0]) bl46 rfl rfl rfl rfl (by kernel_rfl)) ?_; refine .t rfl rfl (O.lit (enc := lombardref13_Known.enc) (l := [(⟨x1, 0⟩ : lombardref13_Known)]) sl31 rfl rfl rfl rfl rfl rfl rfl rfl rfl) ?_; refine .t rfl rfl (O.appO sl31 lombardref13_Known.ok c84 rfl rfl rfl rfl rfl) ?_; refine .a rfl rfl rfl rfl ?_; refine .nil ?_; refine W.seq ?_; refine W.pk ?_; refine .m rfl rfl rfl rfl ?_; (iterate 2 refine .a rfl rfl rfl rfl ?_); refine .nil ?_; refine W.ret ?_; cases h; exact leaves (.inr rfl) rfl (.tup _ _ _ _ (cC (.own _ _ _ _ rfl) (cC (.imm _) .nil))) (cN (cN .nil)) rfl rfl
     ·have h := ifF q83 h; refine W.skip ?_; refine W.seq ?_; refine W.pk ?_; refine .m rfl rfl rfl rfl ?_; (iterate 2 refine .a rfl rfl rfl rfl ?_); refine .nil ?_; refine W.ret ?_; cases h; exact leaves (.inr rfl) rfl (.tup _ _ _ _ (cC (.own _ _ _ _ rfl) (cC (.imm _) .nil))) (cN (cN .nil)) rfl rfl
    ·clear h; refine W.block ?_; refine W.loopF (fun (s_ : Bool × Int × (List lombardref13_Known)) => mkSt [(0, some (.own 0)), (3, some (.ptr 1000 0)), (6, some (.own 1001)), (7, some (.b s_.1)), (8, some (.i s_.2.1))] [(0, some (.rows 46 6 (List.map lombardref13_Known.enc x0) false)), (1000, some (.box [.s x1.ISIN, .i x1.Issuer, .i x1.Rating, .i x1.Maturity, .s x1.Currency])), (1001, some (.rows 46 6 (List.map lombardref13_Known.enc s_.2.2) false))] 1002) b68 (Gives.mkR [] (.e rfl rfl) (.e rfl rfl) rfl rfl rfl) ?_; rintro ⟨v37, v38, v39⟩ s_ hr; have h : lombardref13_Add.b0 x0 x1 v37 v38 v39 = some s_ := hr; unfold lombardref13_Add.b0 at h; (iterate 2 refine W.seq ?_); refine W.pk ?_; (iterate 2 refine .m rfl rfl rfl rfl ?_); refine .v rfl rfl (O.lenO sl31 rfl rfl rfl) ?_; refine .v rfl rfl (OpL.binI rfl rfl rfl rfl) ?_; refine .nil ?_; refine W.cond rfl (fun q70 => ?_) (fun q70 => ?_)
     ·have h := ifT q70 h; refine W.skip ?_; refine W.seq ?_; refine W.block ?_; (iterate 2 refine W.seq ?_); obtain ⟨c71, h⟩ := chk h; refine W.fork (mkSt [(0, some (.own 0)), (3, some (.ptr 1000 0)), (6, some (.own 1001)), (7, some (.b v37)), (8, some (.i v38)), (43, some (.b ((!v37) && (!(Go.Op.bytesLess (((nth x0 v38).A).ISIN) x1.ISIN || (((nth x0 v38).A).ISIN) == x1.ISIN)))))] [(0, some (.rows 46 6 (List.map lombardref13_Known.enc x0) false)), (1000, some (.box [.s x1.ISIN, .i x1.Issuer, .i x1.Rating, .i x1.Maturity, .s x1.Currency])), (1001, some (.rows 46 6 (List.map lombardref13_Known.enc v39) false))] 1002) ?_ ?_
      ·obtain ⟨o77, b78, h⟩ := bnd1 h; refine W.fork (mkSt [(0, some (.own 0)), (3, some (.ptr 1000 0)), (6, some (.own 1004)), (7, some (.b o77.1)), (8, some (.i v38))] [(0, some (.rows 46 6 (List.map lombardref13_Known.enc x0) false)), (1000, some (.box [.s x1.ISIN, .i x1.Issuer, .i x1.Rating, .i x1.Maturity, .s x1.Currency])), (1004, some (.rows 46 6 (List.map lombardref13_Known.enc o77.2) false))] 1005) ?_ ?_
       ·obtain ⟨c81, h⟩ := chk h; obtain ⟨c82, h⟩ := chk h; refine W.pk ?_; (iterate 3 refine .m rfl rfl rfl rfl ?_); refine .v rfl rfl (O.idxO sl31 c81 rfl rfl rfl rfl) ?_; refine .v rfl rfl (O.ldEN ty46 c81 rfl rfl rfl rfl rfl) ?_; refine .t rfl rfl (O.lit (enc := lombardref13_Known.enc) (l := [(⟨((nth x0 v38).A), (nth x0 v38).Price⟩ : lombardref13_Known)]) sl31 rfl rfl rfl rfl rfl rfl rfl rfl rfl) ?_; refine .t rfl rfl (O.appO sl31 lombardref13_Known.ok c82 rfl rfl rfl rfl rfl) ?_; refine .a rfl rfl rfl rfl ?_; refine .nil ?_; refine W.pk ?_; refine .m rfl rfl rfl rfl ?_; refine .v rfl rfl (OpL.binI rfl rfl rfl rfl) ?_; refine .a rfl rfl rfl rfl ?_; refine .nil ?_; cases h; exact rdN (Gives.mkR [(1001, 1006)] (.e rfl rfl) (.e rfl rfl) rfl rfl rfl)
       ·clear h; have h := b78; refine W.cond rfl (fun q79 => ?_) (fun q79 => ?_)
        ·have h := ifT q79 h; refine W.seq ?_; obtain ⟨c80, h⟩ := chk h; refine W.pk ?_; refine .m rfl rfl rfl rfl ?_; refine .v rfl rfl (O.ldN ty29 rfl rfl rfl) ?_; refine .v rfl rfl (O.build (out := [.s x1.ISIN, .i x1.Issuer, .i x1.Rating, .i x1.Maturity, .s x1.Currency, .i 0]) bl46 rfl rfl rfl rfl (by kernel_rfl)) ?_; refine .t rfl rfl (O.lit (enc := lombardref13_Known.enc) (l := [(⟨x1, 0⟩ : lombardref13_Known)]) sl31 rfl rfl rfl rfl rfl rfl rfl rfl rfl) ?_; refine .t rfl rfl (O.appO sl31 lombardref13_Known.ok c80 rfl rfl rfl rfl rfl) ?_; refine .a rfl rfl rfl rfl ?_; refine .nil ?_; refine W.pk ?_; refine .a rfl rfl rfl rfl ?_; refine .nil ?_; cases h; exact toN (Gives.mkR [(1004, 1003)] (.e rfl rfl) (.e rfl rfl) rfl rfl rfl)
        ·have h := ifF q79 h; refine W.skip ?_; cases h; exact toN (Gives.mkR [(1004, 1001)] (.e rfl rfl) (.e rfl rfl) rfl rfl rfl)
      ·clear h; refine W.dk (unm 13 [0, 1, 3, 7, 7, 31, 63, 127, 255, 7, 519, 2047, 4095]) rfl (by kernel_rfl) ?_; refine .m rfl rfl rfl rfl ?_; refine .v rfl rfl (OpL.unV rfl rfl rfl) ?_; refine .m rfl rfl rfl rfl ?_; rcases tf v37 with g72 | g72
       ·(iterate 9 refine .x rfl (unmet rfl rfl rfl (notT g72)) ?_); refine .v rfl rfl (O.pickF (notT g72) rfl rfl rfl) ?_; refine .nil ?_; refine ⟨by kernel_rfl, by kernel_rfl, ?_⟩; exact toN (Gives.mkR [] (.r rfl rfl (.r rfl rfl (.r rfl rfl (.r rfl rfl (.r rfl rfl (.c rfl (sbb (by simp only [g72, BL])) rfl .n)))))) (.e rfl rfl) rfl rfl rfl)
       ·(iterate 2 refine .m rfl (met rfl rfl rfl (notF g72)) rfl rfl ?_); refine .v rfl (met rfl rfl rfl (notF g72)) (O.idxO sl31 (c71 (by simp only [g72, BL])) rfl rfl rfl rfl) ?_; refine .v rfl (met rfl rfl rfl (notF g72)) (O.fld fld46_0 rfl rfl rfl) ?_; refine .v rfl (met rfl rfl rfl (notF g72)) (O.fld fld29_0 rfl rfl rfl) ?_; refine .v rfl (met rfl rfl rfl (notF g72)) (O.ldE (c := (.val (.string (tx (((nth x0 v38).A).ISIN))))) ty9 (c71 (by simp only [g72, BL])) rfl rfl rfl rfl rfl) ?_; refine .v rfl (met rfl rfl rfl (notF g72)) (O.fld fld29_0 rfl rfl rfl) ?_; refine .v rfl (met rfl rfl rfl (notF g72)) (O.ld (y := .s x1.ISIN) ty9 rfl rfl rfl) ?_; refine .v rfl (met rfl rfl rfl (notF g72)) (O.cmpS rfl rfl rfl rfl) ?_; refine .v rfl rfl (O.pickT (notF g72) rfl rfl rfl) ?_; refine .nil ?_; refine ⟨by kernel_rfl, by kernel_rfl, ?_⟩; exact toN (Gives.mkR [] (.r rfl rfl (.r rfl rfl (.r rfl rfl (.r rfl rfl (.r rfl rfl (.c rfl (sbb (by simp only [g72, BL])) rfl .n)))))) (.e rfl rfl) rfl rfl rfl)
     ·have h := ifF q70 h; refine W.exit ?_; cases h; refine rdX fun e_ => ?_; subst e_; (repeat with_reducible refine thru ?_); refine hit ?_; exact toN (Gives.mkR [] (.e rfl rfl) (.e rfl rfl) rfl rfl rfl)

noncomputable def isin_digit.f (x0 : Int) : Option (Bool) :=
  some ((decide (x0 ≥ 48)) && (decide (x0 ≤ 57)))
set_option maxRecDepth 100000 in
set_option maxHeartbeats 4000000 in
theorem isin_digit.ok {x0 : Int} {r : Bool} (h : isin_digit.f x0 = some r) : Pm.Spec prog 72 [.imm (.val (.int .u8 x0))] (.imm (.val (.bool r))) [none] := by
 unfold isin_digit.f at h; refine Pm.Spec.of_body Try.func72 rfl (by kernel_rfl) (Nat.le_of_ble_eq_true rfl) (Nat.le_of_ble_eq_true rfl) ?_; refine W.ghost (σ' := (mkSt [(0, some (.imm (.val (.int .u8 x0))))] [] 1000)) (Gives.entry (.c rfl .n) .n) ?_; refine W.seq ?_; refine W.pk ?_; refine .a rfl rfl rfl rfl ?_; refine .nil ?_; refine W.seq ?_; refine W.fork (mkSt [(2, some (.b ((decide (x0 ≥ 48)) && (decide (x0 ≤ 57)))))] [] 1000) ?_ ?_
 ·refine W.ret ?_; cases h; exact leaves (.inr rfl) rfl (.imm _) (cN .nil) rfl rfl
 ·clear h; refine W.pk ?_; refine .m rfl rfl rfl rfl ?_; refine .v rfl rfl (OpL.binI rfl rfl rfl rfl) ?_; refine .m rfl rfl rfl rfl ?_; rcases tf (decide (x0 ≥ 48)) with g1 | g1
  ·refine .m rfl (met rfl rfl rfl g1) rfl rfl ?_; refine .v rfl (met rfl rfl rfl g1) (OpL.binI rfl rfl rfl rfl) ?_; refine .v rfl rfl (O.pickT g1 rfl rfl rfl) ?_; refine .a rfl rfl rfl rfl ?_; refine .nil ?_; exact toN (Gives.mkR [] (.c rfl (sbb (by simp only [g1, BL])) rfl .n) .n rfl rfl rfl)
  ·(iterate 2 refine .x rfl (unmet rfl rfl rfl g1) ?_); refine .v rfl rfl (O.pickF g1 rfl rfl rfl) ?_; refine .a rfl rfl rfl rfl ?_; refine .nil ?_; exact toN (Gives.mkR [] (.c rfl (sbb (by simp only [g1, BL])) rfl .n) .n rfl rfl rfl)

noncomputable def isin_upper.f (x0 : Int) : Option (Bool) :=
  some ((decide (x0 ≥ 65)) && (decide (x0 ≤ 90)))
set_option maxRecDepth 100000 in
set_option maxHeartbeats 4000000 in
theorem isin_upper.ok {x0 : Int} {r : Bool} (h : isin_upper.f x0 = some r) : Pm.Spec prog 83 [.imm (.val (.int .u8 x0))] (.imm (.val (.bool r))) [none] := by
 unfold isin_upper.f at h; refine Pm.Spec.of_body Try.func83 rfl (by kernel_rfl) (Nat.le_of_ble_eq_true rfl) (Nat.le_of_ble_eq_true rfl) ?_; refine W.ghost (σ' := (mkSt [(0, some (.imm (.val (.int .u8 x0))))] [] 1000)) (Gives.entry (.c rfl .n) .n) ?_; refine W.seq ?_; refine W.pk ?_; refine .a rfl rfl rfl rfl ?_; refine .nil ?_; refine W.seq ?_; refine W.fork (mkSt [(2, some (.b ((decide (x0 ≥ 65)) && (decide (x0 ≤ 90)))))] [] 1000) ?_ ?_
 ·refine W.ret ?_; cases h; exact leaves (.inr rfl) rfl (.imm _) (cN .nil) rfl rfl
 ·clear h; refine W.pk ?_; refine .m rfl rfl rfl rfl ?_; refine .v rfl rfl (OpL.binI rfl rfl rfl rfl) ?_; refine .m rfl rfl rfl rfl ?_; rcases tf (decide (x0 ≥ 65)) with g1 | g1
  ·refine .m rfl (met rfl rfl rfl g1) rfl rfl ?_; refine .v rfl (met rfl rfl rfl g1) (OpL.binI rfl rfl rfl rfl) ?_; refine .v rfl rfl (O.pickT g1 rfl rfl rfl) ?_; refine .a rfl rfl rfl rfl ?_; refine .nil ?_; exact toN (Gives.mkR [] (.c rfl (sbb (by simp only [g1, BL])) rfl .n) .n rfl rfl rfl)
  ·(iterate 2 refine .x rfl (unmet rfl rfl rfl g1) ?_); refine .v rfl rfl (O.pickF g1 rfl rfl rfl) ?_; refine .a rfl rfl rfl rfl ?_; refine .nil ?_; exact toN (Gives.mkR [] (.c rfl (sbb (by simp only [g1, BL])) rfl .n) .n rfl rfl rfl)

noncomputable def isin_shape.b0 (x0 : Bs) (v11 : Int) : Option (Int ⊕ (Bool ⊕ Unit)) :=
  if (decide (v11 < (List.length x0 : Int))) = true then
    if (0 : Int) ≤ v11 ∧ v11 < (List.length x0 : Int) then
    (isin_upper.f (byte x0 v11)).bind fun t38 =>
    if ((!t38) = true ∧ (decide (v11 < 2)) = false → (0 : Int) ≤ v11 ∧ v11 < (List.length x0 : Int)) then
    (if (!t38) = true ∧ (decide (v11 < 2)) = false then isin_digit.f (byte x0 v11) else some default).bind fun t41 =>
    if ((!t38) && ((decide (v11 < 2)) || (!t41))) = true then
      some (.inr (.inl false))
    else
      some (.inl (IntKind.wrap .i64 (v11 + 1)))
    else none
    else none
  else
    some (.inr (.inr ()))
noncomputable def isin_shape.r0 (x0 : Bs) (s : Int) : Option (Int ⊕ (Bool ⊕ Unit)) := isin_shape.b0 x0 s
noncomputable def isin_shape.f (x0 : Bs) : Option (Bool) :=
  (loop (isin_shape.r0 x0) 0).bind fun o33 =>
  match o33 with
  | .inl r46 => some r46
  | .inr w32 =>
    some ((List.length x0 : Int) == 11)
set_option maxRecDepth 100000 in
set_option maxHeartbeats 4000000 in
theorem isin_shape.ok {x0 : Bs} {r : Bool} (h : isin_shape.f x0 = some r) : Pm.Spec prog 78 [.imm (.val (.string (tx x0)))] (.imm (.val (.bool r))) [none] := by
 unfold isin_shape.f at h; refine Pm.Spec.of_body Try.func78 rfl (by kernel_rfl) (Nat.le_of_ble_eq_true rfl) (Nat.le_of_ble_eq_true rfl) ?_; refine W.ghost (σ' := (mkSt [(0, some (.s x0))] [] 1000)) (Gives.entry (.c rfl .n) .n) ?_; refine W.seq ?_; refine W.pk ?_; refine .a rfl rfl rfl rfl ?_; refine .nil ?_; (iterate 2 refine W.seq ?_); refine W.pk ?_; refine .m rfl rfl rfl rfl ?_; refine .v rfl rfl (O.lenS u9 rfl rfl) ?_; refine .m rfl rfl rfl rfl ?_; refine .nil ?_; obtain ⟨o33, b34, z35⟩ := bnd1 h; refine W.fork2 (out := o33) (fun (w32 : Unit) => mkSt [(0, some (.s x0))] [] 1000) ?_ ?_
 ·clear h; refine W.block ?_; refine W.loopF (fun (s_ : Int) => mkSt [(0, some (.s x0)), (5, some (.i (List.length x0 : Int))), (6, some (.i s_))] [] 1000) b34 (Gives.mkR [] (.e rfl rfl) .n rfl rfl rfl) ?_; rintro v11 s_ hr; have h : isin_shape.b0 x0 v11 = some s_ := hr; unfold isin_shape.b0 at h; refine W.seq ?_; refine W.pk ?_; refine .v rfl rfl (OpL.binI rfl rfl rfl rfl) ?_; refine .nil ?_; refine W.seq ?_; refine W.cond rfl (fun q36 => ?_) (fun q36 => ?_)
  ·have h := ifT q36 h; refine W.skip ?_; refine W.seq ?_; refine W.block ?_; refine W.seq ?_; refine W.pk ?_; refine .m rfl rfl rfl rfl ?_; refine .a rfl rfl rfl rfl ?_; refine .nil ?_; refine W.seq ?_; obtain ⟨c37, h⟩ := chk h; obtain ⟨t38, b39, h⟩ := bnd1 h; obtain ⟨c40, h⟩ := chk h; obtain ⟨t41, b42, h⟩ := bnd1 h; refine W.fork (mkSt [(0, some (.s x0)), (5, some (.i (List.length x0 : Int))), (6, some (.i v11)), (24, some (.b ((!t38) && ((decide (v11 < 2)) || (!t41)))))] [] 1000) ?_ ?_
   ·refine W.cond rfl (fun q45 => ?_) (fun q45 => ?_)
    ·have h := ifT q45 h; refine W.seq ?_; refine W.pk ?_; refine .a rfl rfl rfl rfl ?_; refine .nil ?_; refine W.ret ?_; cases h; refine rdR fun e_ => ?_; subst e_; have h := z35; dsimp only at h; refine fkR ?_; cases h; exact leaves (.inr rfl) rfl (.imm _) (cN .nil) rfl rfl
    ·have h := ifF q45 h; refine W.skip ?_; refine W.pk ?_; refine .v rfl rfl (OpL.binI rfl rfl rfl rfl) ?_; refine .m rfl rfl rfl rfl ?_; refine .nil ?_; cases h; exact rdN (Gives.mkR [] (.e rfl rfl) .n rfl rfl rfl)
   ·clear h; refine W.pk ?_; (iterate 2 refine .m rfl rfl rfl rfl ?_); refine .v rfl rfl (O.idxS u9 c37 rfl rfl rfl) ?_; refine .call (.b t38) [] 0 (isin_upper.ok b39) rfl rfl rfl ca83 rfl rfl (cC (.imm _) .nil) rfl rfl rfl rfl rfl ?_; refine .v rfl rfl (OpL.unV rfl rfl rfl) ?_; refine .m rfl rfl rfl rfl ?_; rcases tf t38 with g43 | g43
    ·(iterate 3 refine .x rfl (unmet rfl rfl rfl (notT g43)) ?_); (iterate 5 refine .x rfl (unmetU rfl rfl rfl) ?_); refine .x rfl (unmet rfl rfl rfl (notT g43)) ?_; refine .v rfl rfl (O.pickF (notT g43) rfl rfl rfl) ?_; refine .nil ?_; exact toN (Gives.mkR [] (.r rfl rfl (.r rfl rfl (.r rfl rfl (.c rfl (sbb (by simp only [g43, BL])) rfl .n)))) .n rfl rfl rfl)
    ·refine .m rfl (met rfl rfl rfl (notF g43)) rfl rfl ?_; refine .v rfl (met rfl rfl rfl (notF g43)) (OpL.binI rfl rfl rfl rfl) ?_; refine .m rfl (met rfl rfl rfl (notF g43)) rfl rfl ?_; rcases tf (decide (v11 < 2)) with g44 | g44
     ·(iterate 5 refine .x rfl (unmet rfl rfl rfl g44) ?_); refine .v rfl (met rfl rfl rfl (notF g43)) (O.pickT g44 rfl rfl rfl) ?_; refine .v rfl rfl (O.pickT (notF g43) rfl rfl rfl) ?_; refine .nil ?_; exact toN (Gives.mkR [] (.r rfl rfl (.r rfl rfl (.r rfl rfl (.c rfl (sbb (by first | (simp only [g43, g44, BL]; done) | (repeat (first | rw [g43] | rw [g44])) <;> simp only [BL])) rfl .n)))) .n rfl rfl rfl)
     ·(iterate 2 refine .m rfl (met rfl rfl rfl g44) rfl rfl ?_); refine .v rfl (met rfl rfl rfl g44) (O.idxS u9 (c40 ⟨(by first | (simp only [g43, g44, BL]; done) | (repeat (first | rw [g43] | rw [g44])) <;> simp only [BL]), (by first | (simp only [g43, g44, BL]; done) | (repeat (first | rw [g43] | rw [g44])) <;> simp only [BL])⟩) rfl rfl rfl) ?_; refine .call (.b t41) [] 0 (isin_digit.ok ((if_pos ⟨(by first | (simp only [g43, g44, BL]; done) | (repeat (first | rw [g43] | rw [g44])) <;> simp only [BL]), (by first | (simp only [g43, g44, BL]; done) | (repeat (first | rw [g43] | rw [g44])) <;> simp only [BL])⟩).symm.trans b42)) rfl (met rfl rfl rfl g44) rfl ca72 rfl rfl (cC (.imm _) .nil) rfl rfl rfl rfl rfl ?_; refine .v rfl (met rfl rfl rfl g44) (OpL.unV rfl rfl rfl) ?_; refine .v rfl (met rfl rfl rfl (notF g43)) (O.pickF g44 rfl rfl rfl) ?_; refine .v rfl rfl (O.pickT (notF g43) rfl rfl rfl) ?_; refine .nil ?_; exact toN (Gives.mkR [] (.r rfl rfl (.r rfl rfl (.r rfl rfl (.c rfl (sbb (by first | (simp only [g43, g44, BL]; done) | (repeat (first | rw [g43] | rw [g44])) <;> simp only [BL])) rfl .n)))) .n rfl rfl rfl)
  ·have h := ifF q36 h; refine W.exit ?_; cases h; refine rdX fun e_ => ?_; subst e_; (repeat with_reducible refine thru ?_); refine hit ?_; exact fkN (Gives.mkR [] (.r rfl rfl .n) .n rfl rfl rfl)
 ·intro w32 e_; subst e_; clear h; have h := z35; dsimp only at h; refine W.seq ?_; refine W.pk ?_; refine .m rfl rfl rfl rfl ?_; refine .v rfl rfl (O.lenS u9 rfl rfl) ?_; refine .v rfl rfl (OpL.binI rfl rfl rfl rfl) ?_; refine .a rfl rfl rfl rfl ?_; refine .nil ?_; refine W.ret ?_; cases h; exact leaves (.inr rfl) rfl (.imm _) (cN .nil) rfl rfl

noncomputable def isin_total_1.f (x0 : Int) (x1 : Bool) (x2 : Int) : Option (Bool × Int) :=
  if x1 = true then
    some ((!x1), (IntKind.wrap .i64 (x2 + (IntKind.wrap .i64 ((IntKind.wrap .i64 (Int.tdiv (IntKind.wrap .i64 (x0 * 2)) 10)) + (Int.tmod (IntKind.wrap .i64 (x0 * 2)) 10))))))
  else
    some ((!x1), (IntKind.wrap .i64 (x2 + x0)))
set_option maxRecDepth 100000 in
set_option maxHeartbeats 4000000 in
theorem isin_total_1.ok {x0 : Int} {x1 : Bool} {x2 : Int} {r : Bool × Int} (h : isin_total_1.f x0 x1 x2 = some r) : Pm.Spec prog 84 [.imm (.val (.int .i64 x0)), .xbox [.imm (.val (.bool x1))], .xbox [.imm (.val (.int .i64 x2))]] (.tup []) [none, some (.xbox [.imm (.val (.bool r.1))]), some (.xbox [.imm (.val (.int .i64 r.2))])] := by
 unfold isin_total_1.f at h; refine Pm.Spec.of_body Try.func84 rfl (by kernel_rfl) (Nat.le_of_ble_eq_true rfl) (Nat.le_of_ble_eq_true rfl) ?_; refine W.ghost (σ' := (mkSt [(0, some (.i x0)), (1, some (.ptr 0 0)), (2, some (.ptr 1 0))] [(0, some (.box [.b x1])), (1, some (.box [.i x2]))] 1000)) (Gives.entry (.c rfl (.c rfl (.c rfl .n))) (.c rfl (.c rfl .n))) ?_; (iterate 2 refine W.seq ?_); refine W.pk ?_; refine .v rfl rfl (O.ld (y := .b x1) ty4 rfl rfl rfl) ?_; refine .nil ?_; refine W.cond rfl (fun q1 => ?_) (fun q1 => ?_)
 ·have h := ifT q1 h; refine W.seq ?_; refine W.pk ?_; refine .m rfl rfl rfl rfl ?_; refine .v rfl rfl (OpL.binI rfl rfl rfl rfl) ?_; refine .a rfl rfl rfl rfl ?_; refine .nil ?_; refine W.pk ?_; refine .m rfl rfl rfl rfl ?_; refine .v rfl rfl (O.quo rfl rfl rfl (by decide)) ?_; refine .m rfl rfl rfl rfl ?_; refine .v rfl rfl (O.rem rfl rfl rfl (by decide)) ?_; refine .v rfl rfl (OpL.binI rfl rfl rfl rfl) ?_; refine .a rfl rfl rfl rfl ?_; refine .nil ?_; refine W.seq ?_; refine W.pk ?_; refine .v rfl rfl (O.ld (y := .i x2) ty3 rfl rfl rfl) ?_; refine .m rfl rfl rfl rfl ?_; refine .v rfl rfl (OpL.binI rfl rfl rfl rfl) ?_; refine .s rfl rfl (O.st ty3 rfl rfl rfl rfl rfl rfl rfl rfl rfl rfl (all' := [.i (IntKind.wrap .i64 (x2 + (IntKind.wrap .i64 ((IntKind.wrap .i64 (Int.tdiv (IntKind.wrap .i64 (x0 * 2)) 10)) + (Int.tmod (IntKind.wrap .i64 (x0 * 2)) 10)))))]) rfl) ?_; refine .nil ?_; refine W.pk ?_; refine .v rfl rfl (O.ld (y := .b x1) ty4 rfl rfl rfl) ?_; refine .v rfl rfl (OpL.unV rfl rfl rfl) ?_; refine .s rfl rfl (O.st ty4 rfl rfl rfl rfl rfl rfl rfl rfl rfl rfl (all' := [.b (!x1)]) rfl) ?_; refine .nil ?_; cases h; exact leaves (.inl rfl) rfl (.tup _ _ _ _ .nil) (cN (cS (.ptr _ _ _ _ _ rfl (cC (.imm _) .nil)) (cS (.ptr _ _ _ _ _ rfl (cC (.imm _) .nil)) .nil))) rfl rfl
 ·have h := ifF q1 h; refine W.skip ?_; refine W.seq ?_; refine W.pk ?_; refine .v rfl rfl (O.ld (y := .i x2) ty3 rfl rfl rfl) ?_; refine .m rfl rfl rfl rfl ?_; refine .v rfl rfl (OpL.binI rfl rfl rfl rfl) ?_; refine .s rfl rfl (O.st ty3 rfl rfl rfl rfl rfl rfl rfl rfl rfl rfl (all' := [.i (IntKind.wrap .i64 (x2 + x0))]) rfl) ?_; refine .nil ?_; refine W.pk ?_; refine .v rfl rfl (O.ld (y := .b x1) ty4 rfl rfl rfl) ?_; refine .v rfl rfl (OpL.unV rfl rfl rfl) ?_; refine .s rfl rfl (O.st ty4 rfl rfl rfl rfl rfl rfl rfl rfl rfl rfl (all' := [.b (!x1)]) rfl) ?_; refine .nil ?_; cases h; exact leaves (.inl rfl) rfl (.tup _ _ _ _ .nil) (cN (cS (.ptr _ _ _ _ _ rfl (cC (.imm _) .nil)) (cS (.ptr _ _ _ _ _ rfl (cC (.imm _) .nil)) .nil))) rfl rfl

noncomputable def isin_total.b0 (x0 : Bs) (v14 : Int) (v15 : Bool) (v16 : Int) : Option ((Int × Bool × Int) ⊕ Int) :=
  if (decide (v14 ≥ 0)) = true then
    if (0 : Int) ≤ v14 ∧ v14 < (List.length x0 : Int) then
    (isin_digit.f (byte x0 v14)).bind fun t49 =>
    if t49 = true then
      if (0 : Int) ≤ v14 ∧ v14 < (List.length x0 : Int) then
      (isin_total_1.f (IntKind.wrap .i64 (IntKind.wrap .u8 ((byte x0 v14) - 48))) v15 v16).bind fun t53 =>
      some (.inl ((IntKind.wrap .i64 (v14 - 1)), t53.1, t53.2))
      else none
    else
      if (0 : Int) ≤ v14 ∧ v14 < (List.length x0 : Int) then
      (isin_total_1.f (Int.tmod (IntKind.wrap .i64 ((IntKind.wrap .i64 (IntKind.wrap .u8 ((byte x0 v14) - 65))) + 10)) 10) v15 v16).bind fun t56 =>
      (isin_total_1.f (IntKind.wrap .i64 (Int.tdiv (IntKind.wrap .i64 ((IntKind.wrap .i64 (IntKind.wrap .u8 ((byte x0 v14) - 65))) + 10)) 10)) t56.1 t56.2).bind fun t58 =>
      some (.inl ((IntKind.wrap .i64 (v14 - 1)), t58.1, t58.2))
      else none
    else none
  else
    some (.inr v16)
noncomputable def isin_total.r0 (x0 : Bs) (s : Int × Bool × Int) : Option ((Int × Bool × Int) ⊕ Int) := isin_total.b0 x0 s.1 s.2.1 s.2.2
noncomputable def isin_total.f (x0 : Bs) (x1 : Bool) : Option (Int) :=
  (loop (isin_total.r0 x0) ((IntKind.wrap .i64 ((List.length x0 : Int) - 1)), x1, 0)).bind fun o44 =>
  some o44
set_option maxRecDepth 100000 in
set_option maxHeartbeats 4000000 in
theorem isin_total.ok {x0 : Bs} {x1 : Bool} {r : Int} (h : isin_total.f x0 x1 = some r) : Pm.Spec prog 79 [.imm (.val (.string (tx x0))), .imm (.val (.bool x1))] (.imm (.val (.int .i64 r))) [none, none] := by
 unfold isin_total.f at h; refine Pm.Spec.of_body Try.func79 rfl (by kernel_rfl) (Nat.le_of_ble_eq_true rfl) (Nat.le_of_ble_eq_true rfl) ?_; refine W.ghost (σ' := (mkSt [(0, some (.s x0)), (1, some (.b x1))] [] 1000)) (Gives.entry (.c rfl (.c rfl .n)) .n) ?_; refine W.seq ?_; refine W.pk ?_; refine .t rfl rfl (O.box rfl rfl rfl rfl rfl) ?_; refine .a rfl rfl rfl rfl ?_; refine .nil ?_; refine W.seq ?_; refine W.pk ?_; refine .t rfl rfl (O.alloc z3 rfl) ?_; refine .s rfl rfl (O.st ty3 rfl rfl rfl rfl rfl rfl rfl rfl rfl rfl (all' := [.i 0]) rfl) ?_; refine .nil ?_; refine W.seq ?_; refine W.pk ?_; refine .v rfl rfl (OpL.mkfn rfl rfl) ?_; refine .a rfl rfl rfl rfl ?_; refine .nil ?_; (iterate 2 refine W.seq ?_); refine W.pk ?_; refine .m rfl rfl rfl rfl ?_; refine .v rfl rfl (O.lenS u9 rfl rfl) ?_; refine .v rfl rfl (OpL.binI rfl rfl rfl rfl) ?_; refine .a rfl rfl rfl rfl ?_; refine .nil ?_; obtain ⟨o44, b45, h⟩ := bnd1 h; refine W.fork (mkSt [(5, some (.ptr 1001 0))] [(1001, some (.box [.i o44]))] 1002) ?_ ?_
 ·refine W.seq ?_; refine W.pk ?_; refine .v rfl rfl (O.ld (y := .i o44) ty3 rfl rfl rfl) ?_; refine .a rfl rfl rfl rfl ?_; refine .nil ?_; refine W.ret ?_; cases h; exact leaves (.inr rfl) rfl (.imm _) (cN (cN .nil)) rfl rfl
 ·clear h; refine W.block ?_; refine W.loopF (fun (s_ : Int × Bool × Int) => mkSt [(0, some (.s x0)), (5, some (.ptr 1001 0)), (6, some (.fn 84 [.ptr 1000 0, .ptr 1001 0])), (7, some (.i s_.1))] [(1000, some (.box [.b s_.2.1])), (1001, some (.box [.i s_.2.2]))] 1002) b45 (Gives.mkR [] (.e rfl rfl) (.e rfl rfl) rfl rfl rfl) ?_; rintro ⟨v14, v15, v16⟩ s_ hr; have h : isin_total.b0 x0 v14 v15 v16 = some s_ := hr; unfold isin_total.b0 at h; (iterate 2 refine W.seq ?_); refine W.pk ?_; refine .m rfl rfl rfl rfl ?_; refine .v rfl rfl (OpL.binI rfl rfl rfl rfl) ?_; refine .nil ?_; refine W.cond rfl (fun q47 => ?_) (fun q47 => ?_)
  ·have h := ifT q47 h; refine W.skip ?_; refine W.seq ?_; refine W.block ?_; (iterate 2 refine W.seq ?_); obtain ⟨c48, h⟩ := chk h; obtain ⟨t49, b50, h⟩ := bnd1 h; refine W.pk ?_; (iterate 2 refine .m rfl rfl rfl rfl ?_); refine .v rfl rfl (O.idxS u9 c48 rfl rfl rfl) ?_; refine .call (.b t49) [] 0 (isin_digit.ok b50) rfl rfl rfl ca72 rfl rfl (cC (.imm _) .nil) rfl rfl rfl rfl rfl ?_; refine .nil ?_; refine W.cond rfl (fun q51 => ?_) (fun q51 => ?_)
   ·have h := ifT q51 h; refine W.seq ?_; obtain ⟨c52, h⟩ := chk h; obtain ⟨t53, b54, h⟩ := bnd1 h; refine W.pk ?_; (iterate 3 refine .m rfl rfl rfl rfl ?_); refine .v rfl rfl (O.idxS u9 c52 rfl rfl rfl) ?_; refine .v rfl rfl (OpL.binI rfl rfl rfl rfl) ?_; refine .v rfl rfl (O.conv h5 u3 rfl rfl) ?_; refine .call (.tup []) [(1000, some (.box [.b t53.1])), (1001, some (.box [.i t53.2])), (1000, none), (1001, none)] 0 (isin_total_1.ok b54) rfl rfl rfl ca84 rfl rfl (cC (.imm _) (cC (.ptr _ _ _ _ _ rfl (cC (.imm _) .nil)) (cC (.ptr _ _ _ _ _ rfl (cC (.imm _) .nil)) .nil))) rfl rfl rfl rfl rfl ?_; refine .nil ?_; refine W.exit ?_; (repeat with_reducible refine thru ?_); refine hit ?_; refine W.pk ?_; refine .m rfl rfl rfl rfl ?_; refine .v rfl rfl (OpL.binI rfl rfl rfl rfl) ?_; refine .a rfl rfl rfl rfl ?_; refine .nil ?_; cases h; exact rdN (Gives.mkR [] (.e rfl rfl) (.e rfl rfl) rfl rfl rfl)
   ·have h := ifF q51 h; refine W.skip ?_; refine W.seq ?_; obtain ⟨c55, h⟩ := chk h; refine W.pk ?_; (iterate 2 refine .m rfl rfl rfl rfl ?_); refine .v rfl rfl (O.idxS u9 c55 rfl rfl rfl) ?_; refine .v rfl rfl (OpL.binI rfl rfl rfl rfl) ?_; refine .v rfl rfl (O.conv h5 u3 rfl rfl) ?_; refine .v rfl rfl (OpL.binI rfl rfl rfl rfl) ?_; refine .a rfl rfl rfl rfl ?_; refine .nil ?_; refine W.seq ?_; obtain ⟨t56, b57, h⟩ := bnd1 h; refine W.pk ?_; (iterate 2 refine .m rfl rfl rfl rfl ?_); refine .v rfl rfl (O.rem rfl rfl rfl (by decide)) ?_; refine .call (.tup []) [(1000, some (.box [.b t56.1])), (1001, some (.box [.i t56.2])), (1000, none), (1001, none)] 0 (isin_total_1.ok b57) rfl rfl rfl ca84 rfl rfl (cC (.imm _) (cC (.ptr _ _ _ _ _ rfl (cC (.imm _) .nil)) (cC (.ptr _ _ _ _ _ rfl (cC (.imm _) .nil)) .nil))) rfl rfl rfl rfl rfl ?_; refine .nil ?_; obtain ⟨t58, b59, h⟩ := bnd1 h; refine W.pk ?_; (iterate 2 refine .m rfl rfl rfl rfl ?_); refine .v rfl rfl (O.quo rfl rfl rfl (by decide)) ?_; refine .call (.tup []) [(1000, some (.box [.b t58.1])), (1001, some (.box [.i t58.2])), (1000, none), (1001, none)] 0 (isin_total_1.ok b59) rfl rfl rfl ca84 rfl rfl (cC (.imm _) (cC (.ptr _ _ _ _ _ rfl (cC (.imm _) .nil)) (cC (.ptr _ _ _ _ _ rfl (cC (.imm _) .nil)) .nil))) rfl rfl rfl rfl rfl ?_; refine .nil ?_; refine W.pk ?_; refine .m rfl rfl rfl rfl ?_; refine .v rfl rfl (OpL.binI rfl rfl rfl rfl) ?_; refine .a rfl rfl rfl rfl ?_; refine .nil ?_; cases h; exact rdN (Gives.mkR [] (.e rfl rfl) (.e rfl rfl) rfl rfl rfl)
  ·have h := ifF q47 h; refine W.exit ?_; cases h; refine rdX fun e_ => ?_; subst e_; (repeat with_reducible refine thru ?_); refine hit ?_; exact toN (Gives.mkR [] (.r rfl rfl .n) (.r rfl rfl rfl .n) rfl rfl rfl)

noncomputable def isin_Digit.f (x0 : Bs) : Option (Int × Int) :=
  (isin_shape.f x0).bind fun t1 =>
  if (!t1) = true then
    some (0, 11)
  else
    (isin_total.f x0 true).bind fun t4 =>
    some ((IntKind.wrap .u8 (IntKind.wrap .i64 (48 + (Int.tmod (IntKind.wrap .i64 (10 - (Int.tmod t4 10))) 10)))), 0)
set_option maxRecDepth 100000 in
set_option maxHeartbeats 4000000 in
theorem isin_Digit.ok {x0 : Bs} {r : Int × Int} (h : isin_Digit.f x0 = some r) : Pm.Spec prog 73 [.imm (.val (.string (tx x0)))] (.tup [.imm (.val (.int .u8 r.1)), .imm (.val (.int .i64 r.2))]) [none] := by
 unfold isin_Digit.f at h; refine Pm.Spec.of_body Try.func73 rfl (by kernel_rfl) (Nat.le_of_ble_eq_true rfl) (Nat.le_of_ble_eq_true rfl) ?_; refine W.ghost (σ' := (mkSt [(0, some (.s x0))] [] 1000)) (Gives.entry (.c rfl .n) .n) ?_; refine W.seq ?_; refine W.pk ?_; (iterate 2 refine .a rfl rfl rfl rfl ?_); refine .nil ?_; (iterate 2 refine W.seq ?_); obtain ⟨t1, b2, h⟩ := bnd1 h; refine W.pk ?_; refine .m rfl rfl rfl rfl ?_; refine .call (.b t1) [] 0 (isin_shape.ok b2) rfl rfl rfl ca78 rfl rfl (cC (.imm _) .nil) rfl rfl rfl rfl rfl ?_; refine .v rfl rfl (OpL.unV rfl rfl rfl) ?_; refine .nil ?_; refine W.cond rfl (fun q3 => ?_) (fun q3 => ?_)
 ·have h := ifT q3 h; refine W.seq ?_; refine W.pk ?_; (iterate 2 refine .a rfl rfl rfl rfl ?_); refine .nil ?_; refine W.ret ?_; cases h; exact leaves (.inr rfl) rfl (.tup _ _ _ _ (cC (.imm _) (cC (.imm _) .nil))) (cN .nil) rfl rfl
 ·have h := ifF q3 h; refine W.skip ?_; refine W.seq ?_; obtain ⟨t4, b5, h⟩ := bnd1 h; refine W.pk ?_; refine .m rfl rfl rfl rfl ?_; refine .call (.i t4) [] 0 (isin_total.ok b5) rfl rfl rfl ca79 rfl rfl (cC (.imm _) (cC (.imm _) .nil)) rfl rfl rfl rfl rfl ?_; refine .v rfl rfl (O.rem rfl rfl rfl (by decide)) ?_; refine .v rfl rfl (OpL.binI rfl rfl rfl rfl) ?_; refine .v rfl rfl (O.rem rfl rfl rfl (by decide)) ?_; refine .v rfl rfl (OpL.binI rfl rfl rfl rfl) ?_; refine .v rfl rfl (O.conv h3 u5 rfl rfl) ?_; (iterate 2 refine .a rfl rfl rfl rfl ?_); refine .nil ?_; refine W.ret ?_; cases h; exact leaves (.inr rfl) rfl (.tup _ _ _ _ (cC (.imm _) (cC (.imm _) .nil))) (cN .nil) rfl rfl

noncomputable def isin_Check.f (x0 : Bs) : Option (Int) :=
  if (((List.length x0 : Int) != 12) = false → (0 : Int) ≤ 11 ∧ 11 < (List.length x0 : Int)) then
  (if ((List.length x0 : Int) != 12) = false then isin_digit.f (byte x0 11) else some default).bind fun t2 =>
  if (((List.length x0 : Int) != 12) || (!t2)) = true then
    some 11
  else
    if (0 : Int) ≤ 0 ∧ (0 : Int) ≤ 11 ∧ 11 ≤ (List.length x0 : Int) then
    (isin_Digit.f (List.take (Int.toNat 11 - Int.toNat 0) (List.drop (Int.toNat 0) x0))).bind fun t7 =>
    if ((t7.2 == 0) = true → (0 : Int) ≤ 11 ∧ 11 < (List.length x0 : Int)) then
    if ((t7.2 == 0) && (t7.1 != (byte x0 11))) = true then
      some 12
    else
      some t7.2
    else none
    else none
  else none
set_option maxRecDepth 100000 in
set_option maxHeartbeats 4000000 in
theorem isin_Check.ok {x0 : Bs} {r : Int} (h : isin_Check.f x0 = some r) : Pm.Spec prog 61 [.imm (.val (.string (tx x0)))] (.imm (.val (.int .i64 r))) [none] := by
 unfold isin_Check.f at h; refine Pm.Spec.of_body Try.func61 rfl (by kernel_rfl) (Nat.le_of_ble_eq_true rfl) (Nat.le_of_ble_eq_true rfl) ?_; refine W.ghost (σ' := (mkSt [(0, some (.s x0))] [] 1000)) (Gives.entry (.c rfl .n) .n) ?_; refine W.seq ?_; refine W.pk ?_; refine .a rfl rfl rfl rfl ?_; refine .nil ?_; (iterate 2 refine W.seq ?_); obtain ⟨c1, h⟩ := chk h; obtain ⟨t2, b3, h⟩ := bnd1 h; refine W.fork (mkSt [(0, some (.s x0)), (13, some (.b (((List.length x0 : Int) != 12) || (!t2))))] [] 1000) ?_ ?_
 ·refine W.cond rfl (fun q5 => ?_) (fun q5 => ?_)
  ·have h := ifT q5 h; refine W.seq ?_; refine W.pk ?_; refine .a rfl rfl rfl rfl ?_; refine .nil ?_; refine W.ret ?_; cases h; exact leaves (.inr rfl) rfl (.imm _) (cN .nil) rfl rfl
  ·have h := ifF q5 h; refine W.skip ?_; refine W.seq ?_; obtain ⟨c6, h⟩ := chk h; obtain ⟨t7, b8, h⟩ := bnd1 h; refine W.pk ?_; refine .m rfl rfl rfl rfl ?_; refine .v rfl rfl (O.partS u9 c6 rfl rfl rfl rfl) ?_; refine .call (.tup [.imm (.val (.int .u8 t7.1)), .i t7.2]) [] 0 (isin_Digit.ok b8) rfl rfl rfl ca73 rfl rfl (cC (.imm _) .nil) rfl rfl rfl rfl rfl ?_; refine .m rfl rfl rfl rfl ?_; (iterate 2 refine .v rfl rfl (OpL.extract rfl rfl rfl) ?_); (iterate 2 refine .a rfl rfl rfl rfl ?_); refine .nil ?_; (iterate 2 refine W.seq ?_); obtain ⟨c9, h⟩ := chk h; refine W.fork (mkSt [(4, some (.i t7.2)), (27, some (.b ((t7.2 == 0) && (t7.1 != (byte x0 11)))))] [] 1000) ?_ ?_
   ·refine W.cond rfl (fun q11 => ?_) (fun q11 => ?_)
    ·have h := ifT q11 h; refine W.pk ?_; refine .a rfl rfl rfl rfl ?_; refine .nil ?_; refine W.seq ?_; refine W.pk ?_; refine .m rfl rfl rfl rfl ?_; refine .a rfl rfl rfl rfl ?_; refine .nil ?_; refine W.ret ?_; cases h; exact leaves (.inr rfl) rfl (.imm _) (cN .nil) rfl rfl
    ·have h := ifF q11 h; refine W.skip ?_; refine W.seq ?_; refine W.pk ?_; refine .m rfl rfl rfl rfl ?_; refine .a rfl rfl rfl rfl ?_; refine .nil ?_; refine W.ret ?_; cases h; exact leaves (.inr rfl) rfl (.imm _) (cN .nil) rfl rfl
   ·clear h; refine W.pk ?_; refine .m rfl rfl rfl rfl ?_; refine .v rfl rfl (OpL.binI rfl rfl rfl rfl) ?_; refine .m rfl rfl rfl rfl ?_; rcases tf (t7.2 == 0) with g10 | g10
    ·(iterate 2 refine .m rfl (met rfl rfl rfl g10) rfl rfl ?_); refine .v rfl (met rfl rfl rfl g10) (O.idxS u9 (c9 (by simp only [g10, BL])) rfl rfl rfl) ?_; refine .v rfl (met rfl rfl rfl g10) (OpL.binI rfl rfl rfl rfl) ?_; refine .v rfl rfl (O.pickT g10 rfl rfl rfl) ?_; refine .nil ?_; exact toN (Gives.mkR [] (.r rfl rfl (.c rfl (sbb (by simp only [g10, BL])) rfl .n)) .n rfl rfl rfl)
    ·(iterate 4 refine .x rfl (unmet rfl rfl rfl g10) ?_); refine .v rfl rfl (O.pickF g10 rfl rfl rfl) ?_; refine .nil ?_; exact toN (Gives.mkR [] (.r rfl rfl (.c rfl (sbb (by simp only [g10, BL])) rfl .n)) .n rfl rfl rfl)
 ·clear h; refine W.pk ?_; refine .m rfl rfl rfl rfl ?_; refine .v rfl rfl (O.lenS u9 rfl rfl) ?_; refine .v rfl rfl (OpL.binI rfl rfl rfl rfl) ?_; refine .m rfl rfl rfl rfl ?_; rcases tf ((List.length x0 : Int) != 12) with g4 | g4
  ·(iterate 4 refine .x rfl (unmet rfl rfl rfl g4) ?_); refine .v rfl rfl (O.pickT g4 rfl rfl rfl) ?_; refine .nil ?_; exact toN (Gives.mkR [] (.r rfl rfl (.c rfl (sbb (by simp only [g4, BL])) rfl .n)) .n rfl rfl rfl)
  ·refine .m rfl (met rfl rfl rfl g4) rfl rfl ?_; refine .v rfl (met rfl rfl rfl g4) (O.idxS u9 (c1 (by simp only [g4, BL])) rfl rfl rfl) ?_; refine .call (.b t2) [] 0 (isin_digit.ok ((if_pos (by simp only [g4, BL])).symm.trans b3)) rfl (met rfl rfl rfl g4) rfl ca72 rfl rfl (cC (.imm _) .nil) rfl rfl rfl rfl rfl ?_; refine .v rfl (met rfl rfl rfl g4) (OpL.unV rfl rfl rfl) ?_; refine .v rfl rfl (O.pickF g4 rfl rfl rfl) ?_; refine .nil ?_; exact toN (Gives.mkR [] (.r rfl rfl (.c rfl (sbb (by simp only [g4, BL])) rfl .n)) .n rfl rfl rfl)

noncomputable def isin_Currency.f (x0 : Bs) : Option (Bool) :=
  if (x0 == [69, 85, 82]) = true then
    if (x0 == [69, 85, 82]) = true then
      some true
    else
      some false
  else
    if (x0 == [85, 83, 68]) = true then
      if (x0 == [85, 83, 68]) = true then
        some true
      else
        some false
    else
      if (x0 == [71, 66, 80]) = true then
        if (x0 == [71, 66, 80]) = true then
          some true
        else
          some false
      else
        if (x0 == [67, 72, 70]) = true then
          if (x0 == [67, 72, 70]) = true then
            some true
          else
            some false
        else
          if (x0 == [74, 80, 89]) = true then
            if (x0 == [74, 80, 89]) = true then
              some true
            else
              some false
          else
            if (x0 == [83, 69, 75]) = true then
              if (x0 == [83, 69, 75]) = true then
                some true
              else
                some false
            else
              if (x0 == [78, 79, 75]) = true then
                if (x0 == [78, 79, 75]) = true then
                  some true
                else
                  some false
              else
                if (x0 == [68, 75, 75]) = true then
                  some true
                else
                  some false
set_option maxRecDepth 100000 in
set_option maxHeartbeats 4000000 in
theorem isin_Currency.ok {x0 : Bs} {r : Bool} (h : isin_Currency.f x0 = some r) : Pm.Spec prog 62 [.imm (.val (.string (tx x0)))] (.imm (.val (.bool r))) [none] := by
 unfold isin_Currency.f at h; refine Pm.Spec.of_body Try.func62 rfl (by kernel_rfl) (Nat.le_of_ble_eq_true rfl) (Nat.le_of_ble_eq_true rfl) ?_; refine W.ghost (σ' := (mkSt [(0, some (.s x0))] [] 1000)) (Gives.entry (.c rfl .n) .n) ?_; refine W.seq ?_; refine W.pk ?_; refine .a rfl rfl rfl rfl ?_; refine .nil ?_; (iterate 2 refine W.seq ?_); refine W.pk ?_; refine .m rfl rfl rfl rfl ?_; refine .nil ?_; refine W.block ?_; (iterate 2 refine W.seq ?_); refine W.pk ?_; refine .v rfl rfl (O.cmpS rfl rfl rfl rfl) ?_; refine .a rfl rfl rfl rfl ?_; refine .nil ?_; refine W.cond rfl (fun q1 => ?_) (fun q1 => ?_)
 ·have h := ifT q1 h; refine W.skip ?_; refine W.cond rfl (fun q2 => ?_) (fun q2 => ?_)
  ·have h := ifT q2 h; refine W.seq ?_; refine W.pk ?_; refine .a rfl rfl rfl rfl ?_; refine .nil ?_; refine W.ret ?_; cases h; exact leaves (.inr rfl) rfl (.imm _) (cN .nil) rfl rfl
  ·have h := ifF q2 h; refine W.skip ?_; refine W.seq ?_; refine W.pk ?_; refine .a rfl rfl rfl rfl ?_; refine .nil ?_; refine W.ret ?_; cases h; exact leaves (.inr rfl) rfl (.imm _) (cN .nil) rfl rfl
 ·have h := ifF q1 h; refine W.seq ?_; refine W.pk ?_; refine .v rfl rfl (O.cmpS rfl rfl rfl rfl) ?_; refine .a rfl rfl rfl rfl ?_; refine .nil ?_; refine W.cond rfl (fun q3 => ?_) (fun q3 => ?_)
  ·have h := ifT q3 h; refine W.skip ?_; refine W.cond rfl (fun q4 => ?_) (fun q4 => ?_)
   ·have h := ifT q4 h; refine W.seq ?_; refine W.pk ?_; refine .a rfl rfl rfl rfl ?_; refine .nil ?_; refine W.ret ?_; cases h; exact leaves (.inr rfl) rfl (.imm _) (cN .nil) rfl rfl
   ·have h := ifF q4 h; refine W.skip ?_; refine W.seq ?_; refine W.pk ?_; refine .a rfl rfl rfl rfl ?_; refine .nil ?_; refine W.ret ?_; cases h; exact leaves (.inr rfl) rfl (.imm _) (cN .nil) rfl rfl
  ·have h := ifF q3 h; refine W.seq ?_; refine W.pk ?_; refine .v rfl rfl (O.cmpS rfl rfl rfl rfl) ?_; refine .a rfl rfl rfl rfl ?_; refine .nil ?_; refine W.cond rfl (fun q5 => ?_) (fun q5 => ?_)
   ·have h := ifT q5 h; refine W.skip ?_; refine W.cond rfl (fun q6 => ?_) (fun q6 => ?_)
    ·have h := ifT q6 h; refine W.seq ?_; refine W.pk ?_; refine .a rfl rfl rfl rfl ?_; refine .nil ?_; refine W.ret ?_; cases h; exact leaves (.inr rfl) rfl (.imm _) (cN .nil) rfl rfl
    ·have h := ifF q6 h; refine W.skip ?_; refine W.seq ?_; refine W.pk ?_; refine .a rfl rfl rfl rfl ?_; refine .nil ?_; refine W.ret ?_; cases h; exact leaves (.inr rfl) rfl (.imm _) (cN .nil) rfl rfl
   ·have h := ifF q5 h; refine W.seq ?_; refine W.pk ?_; refine .v rfl rfl (O.cmpS rfl rfl rfl rfl) ?_; refine .a rfl rfl rfl rfl ?_; refine .nil ?_; refine W.cond rfl (fun q7 => ?_) (fun q7 => ?_)
    ·have h := ifT q7 h; refine W.skip ?_; refine W.cond rfl (fun q8 => ?_) (fun q8 => ?_)
     ·have h := ifT q8 h; refine W.seq ?_; refine W.pk ?_; refine .a rfl rfl rfl rfl ?_; refine .nil ?_; refine W.ret ?_; cases h; exact leaves (.inr rfl) rfl (.imm _) (cN .nil) rfl rfl
     ·have h := ifF q8 h; refine W.skip ?_; refine W.seq ?_; refine W.pk ?_; refine .a rfl rfl rfl rfl ?_; refine .nil ?_; refine W.ret ?_; cases h; exact leaves (.inr rfl) rfl (.imm _) (cN .nil) rfl rfl
    ·have h := ifF q7 h; refine W.seq ?_; refine W.pk ?_; refine .v rfl rfl (O.cmpS rfl rfl rfl rfl) ?_; refine .a rfl rfl rfl rfl ?_; refine .nil ?_; refine W.cond rfl (fun q9 => ?_) (fun q9 => ?_)
     ·have h := ifT q9 h; refine W.skip ?_; refine W.cond rfl (fun q10 => ?_) (fun q10 => ?_)
      ·have h := ifT q10 h; refine W.seq ?_; refine W.pk ?_; refine .a rfl rfl rfl rfl ?_; refine .nil ?_; refine W.ret ?_; cases h; exact leaves (.inr rfl) rfl (.imm _) (cN .nil) rfl rfl
      ·have h := ifF q10 h; refine W.skip ?_; refine W.seq ?_; refine W.pk ?_; refine .a rfl rfl rfl rfl ?_; refine .nil ?_; refine W.ret ?_; cases h; exact leaves (.inr rfl) rfl (.imm _) (cN .nil) rfl rfl
     ·have h := ifF q9 h; refine W.seq ?_; refine W.pk ?_; refine .v rfl rfl (O.cmpS rfl rfl rfl rfl) ?_; refine .a rfl rfl rfl rfl ?_; refine .nil ?_; refine W.cond rfl (fun q11 => ?_) (fun q11 => ?_)
      ·have h := ifT q11 h; refine W.skip ?_; refine W.cond rfl (fun q12 => ?_) (fun q12 => ?_)
       ·have h := ifT q12 h; refine W.seq ?_; refine W.pk ?_; refine .a rfl rfl rfl rfl ?_; refine .nil ?_; refine W.ret ?_; cases h; exact leaves (.inr rfl) rfl (.imm _) (cN .nil) rfl rfl
       ·have h := ifF q12 h; refine W.skip ?_; refine W.seq ?_; refine W.pk ?_; refine .a rfl rfl rfl rfl ?_; refine .nil ?_; refine W.ret ?_; cases h; exact leaves (.inr rfl) rfl (.imm _) (cN .nil) rfl rfl
      ·have h := ifF q11 h; refine W.seq ?_; refine W.pk ?_; refine .v rfl rfl (O.cmpS rfl rfl rfl rfl) ?_; refine .a rfl rfl rfl rfl ?_; refine .nil ?_; refine W.cond rfl (fun q13 => ?_) (fun q13 => ?_)
       ·have h := ifT q13 h; refine W.skip ?_; refine W.cond rfl (fun q14 => ?_) (fun q14 => ?_)
        ·have h := ifT q14 h; refine W.seq ?_; refine W.pk ?_; refine .a rfl rfl rfl rfl ?_; refine .nil ?_; refine W.ret ?_; cases h; exact leaves (.inr rfl) rfl (.imm _) (cN .nil) rfl rfl
        ·have h := ifF q14 h; refine W.skip ?_; refine W.seq ?_; refine W.pk ?_; refine .a rfl rfl rfl rfl ?_; refine .nil ?_; refine W.ret ?_; cases h; exact leaves (.inr rfl) rfl (.imm _) (cN .nil) rfl rfl
       ·have h := ifF q13 h; refine W.pk ?_; refine .v rfl rfl (O.cmpS rfl rfl rfl rfl) ?_; refine .a rfl rfl rfl rfl ?_; refine .nil ?_; refine W.cond rfl (fun q15 => ?_) (fun q15 => ?_)
        ·have h := ifT q15 h; refine W.seq ?_; refine W.pk ?_; refine .a rfl rfl rfl rfl ?_; refine .nil ?_; refine W.ret ?_; cases h; exact leaves (.inr rfl) rfl (.imm _) (cN .nil) rfl rfl
        ·have h := ifF q15 h; refine W.skip ?_; refine W.seq ?_; refine W.pk ?_; refine .a rfl rfl rfl rfl ?_; refine .nil ?_; refine W.ret ?_; cases h; exact leaves (.inr rfl) rfl (.imm _) (cN .nil) rfl rfl

noncomputable def isin_Asset.f (x0 : api_Asset) : Option (Int) :=
  (isin_Check.f x0.ISIN).bind fun t1 =>
  if (t1 != 0) = true then
    some t1
  else
    (isin_Currency.f x0.Currency).bind fun t4 =>
    if (!t4) = true then
      some 11
    else
      if ((((decide (x0.Issuer < 0)) || (decide (x0.Issuer > 9999))) || (decide (x0.Rating < 0))) || (decide (x0.Rating > 20))) = true then
        some 1
      else
        if ((decide (x0.Maturity < 0)) || (decide (x0.Maturity > 200000))) = true then
          some 10
        else
          some 0
set_option maxRecDepth 100000 in
set_option maxHeartbeats 4000000 in
theorem isin_Asset.ok {x0 : api_Asset} {r : Int} (h : isin_Asset.f x0 = some r) : Pm.Spec prog 42 [.agg [.imm (.val (.string (tx x0.ISIN))), .imm (.val (.int .i64 x0.Issuer)), .imm (.val (.int .i64 x0.Rating)), .imm (.val (.int .i64 x0.Maturity)), .imm (.val (.string (tx x0.Currency)))]] (.imm (.val (.int .i64 r))) [none] := by
 unfold isin_Asset.f at h; refine Pm.Spec.of_body Try.func42 rfl (by kernel_rfl) (Nat.le_of_ble_eq_true rfl) (Nat.le_of_ble_eq_true rfl) ?_; refine W.ghost (σ' := (mkSt [(0, some (.agg (api_Asset.av x0)))] [] 1000)) (Gives.entry (.c rfl .n) .n) ?_; refine W.seq ?_; refine W.pk ?_; refine .t rfl rfl (O.box rfl rfl rfl rfl rfl) ?_; refine .a rfl rfl rfl rfl ?_; refine .nil ?_; (iterate 2 refine W.seq ?_); obtain ⟨t1, b2, h⟩ := bnd1 h; refine W.pk ?_; refine .v rfl rfl (O.fld fld29_0 rfl rfl rfl) ?_; refine .v rfl rfl (O.ld (y := .s x0.ISIN) ty9 rfl rfl rfl) ?_; refine .call (.i t1) [] 0 (isin_Check.ok b2) rfl rfl rfl ca61 rfl rfl (cC (.imm _) .nil) rfl rfl rfl rfl rfl ?_; refine .a rfl rfl rfl rfl ?_; refine .nil ?_; refine W.seq ?_; refine W.pk ?_; refine .m rfl rfl rfl rfl ?_; refine .v rfl rfl (OpL.binI rfl rfl rfl rfl) ?_; refine .nil ?_; refine W.cond rfl (fun q3 => ?_) (fun q3 => ?_)
 ·have h := ifT q3 h; refine W.seq ?_; refine W.pk ?_; refine .m rfl rfl rfl rfl ?_; refine .a rfl rfl rfl rfl ?_; refine .nil ?_; refine W.ret ?_; cases h; exact leaves (.inr rfl) rfl (.imm _) (cN .nil) rfl rfl
 ·have h := ifF q3 h; refine W.skip ?_; refine W.seq ?_; refine W.block ?_; refine W.seq ?_; obtain ⟨t4, b5, h⟩ := bnd1 h; refine W.pk ?_; refine .v rfl rfl (O.fld fld29_4 rfl rfl rfl) ?_; refine .v rfl rfl (O.ld (y := .s x0.Currency) ty9 rfl rfl rfl) ?_; refine .call (.b t4) [] 0 (isin_Currency.ok b5) rfl rfl rfl ca62 rfl rfl (cC (.imm _) .nil) rfl rfl rfl rfl rfl ?_; refine .v rfl rfl (OpL.unV rfl rfl rfl) ?_; refine .a rfl rfl rfl rfl ?_; refine .nil ?_; refine W.cond rfl (fun q6 => ?_) (fun q6 => ?_)
  ·have h := ifT q6 h; refine W.seq ?_; refine W.pk ?_; refine .a rfl rfl rfl rfl ?_; refine .nil ?_; refine W.ret ?_; cases h; exact leaves (.inr rfl) rfl (.imm _) (cN .nil) rfl rfl
  ·have h := ifF q6 h; refine W.seq ?_; refine W.fork (mkSt [(1, some (.ptr 1000 0)), (15, some (.b ((((decide (x0.Issuer < 0)) || (decide (x0.Issuer > 9999))) || (decide (x0.Rating < 0))) || (decide (x0.Rating > 20)))))] [(1000, some (.box [.s x0.ISIN, .i x0.Issuer, .i x0.Rating, .i x0.Maturity, .s x0.Currency]))] 1001) ?_ ?_
   ·refine W.cond rfl (fun q10 => ?_) (fun q10 => ?_)
    ·have h := ifT q10 h; refine W.seq ?_; refine W.pk ?_; refine .a rfl rfl rfl rfl ?_; refine .nil ?_; refine W.ret ?_; cases h; exact leaves (.inr rfl) rfl (.imm _) (cN .nil) rfl rfl
    ·have h := ifF q10 h; refine W.seq ?_; refine W.fork (mkSt [(34, some (.b ((decide (x0.Maturity < 0)) || (decide (x0.Maturity > 200000)))))] [] 1001) ?_ ?_
     ·refine W.cond rfl (fun q12 => ?_) (fun q12 => ?_)
      ·have h := ifT q12 h; refine W.seq ?_; refine W.pk ?_; refine .a rfl rfl rfl rfl ?_; refine .nil ?_; refine W.ret ?_; cases h; exact leaves (.inr rfl) rfl (.imm _) (cN .nil) rfl rfl
      ·have h := ifF q12 h; refine W.skip ?_; refine W.seq ?_; refine W.pk ?_; refine .a rfl rfl rfl rfl ?_; refine .nil ?_; refine W.ret ?_; cases h; exact leaves (.inr rfl) rfl (.imm _) (cN .nil) rfl rfl
     ·clear h; refine W.pk ?_; refine .v rfl rfl (O.fld fld29_3 rfl rfl rfl) ?_; refine .v rfl rfl (O.ld (y := .i x0.Maturity) ty3 rfl rfl rfl) ?_; refine .v rfl rfl (OpL.binI rfl rfl rfl rfl) ?_; refine .m rfl rfl rfl rfl ?_; rcases tf (decide (x0.Maturity < 0)) with g11 | g11
      ·(iterate 3 refine .x rfl (unmet rfl rfl rfl g11) ?_); refine .v rfl rfl (O.pickT g11 rfl rfl rfl) ?_; refine .a rfl rfl rfl rfl ?_; refine .nil ?_; exact toN (Gives.mkR [] (.c rfl (sbb (by simp only [g11, BL])) rfl .n) .n rfl rfl rfl)
      ·refine .v rfl (met rfl rfl rfl g11) (O.fld fld29_3 rfl rfl rfl) ?_; refine .v rfl (met rfl rfl rfl g11) (O.ld (y := .i x0.Maturity) ty3 rfl rfl rfl) ?_; refine .v rfl (met rfl rfl rfl g11) (OpL.binI rfl rfl rfl rfl) ?_; refine .v rfl rfl (O.pickF g11 rfl rfl rfl) ?_; refine .a rfl rfl rfl rfl ?_; refine .nil ?_; exact toN (Gives.mkR [] (.c rfl (sbb (by simp only [g11, BL])) rfl .n) .n rfl rfl rfl)
   ·clear h; refine W.pk ?_; refine .v rfl rfl (O.fld fld29_1 rfl rfl rfl) ?_; refine .v rfl rfl (O.ld (y := .i x0.Issuer) ty3 rfl rfl rfl) ?_; refine .v rfl rfl (OpL.binI rfl rfl rfl rfl) ?_; refine .m rfl rfl rfl rfl ?_; rcases tf (decide (x0.Issuer < 0)) with g7 | g7
    ·(iterate 3 refine .x rfl (unmet rfl rfl rfl g7) ?_); refine .v rfl rfl (O.pickT g7 rfl rfl rfl) ?_; refine .m rfl rfl rfl rfl ?_; (iterate 3 refine .x rfl (unmet rfl rfl rfl rfl) ?_); refine .v rfl rfl (O.pickT rfl rfl rfl rfl) ?_; refine .m rfl rfl rfl rfl ?_; (iterate 3 refine .x rfl (unmet rfl rfl rfl rfl) ?_); refine .v rfl rfl (O.pickT rfl rfl rfl rfl) ?_; refine .a rfl rfl rfl rfl ?_; refine .nil ?_; exact toN (Gives.mkR [] (.r rfl rfl (.c rfl (sbb (by simp only [g7, BL])) rfl .n)) (.r rfl rfl rfl .n) rfl rfl rfl)
    ·refine .v rfl (met rfl rfl rfl g7) (O.fld fld29_1 rfl rfl rfl) ?_; refine .v rfl (met rfl rfl rfl g7) (O.ld (y := .i x0.Issuer) ty3 rfl rfl rfl) ?_; refine .v rfl (met rfl rfl rfl g7) (OpL.binI rfl rfl rfl rfl) ?_; refine .v rfl rfl (O.pickF g7 rfl rfl rfl) ?_; refine .m rfl rfl rfl rfl ?_; rcases tf (decide (x0.Issuer > 9999)) with g8 | g8
     ·(iterate 3 refine .x rfl (unmet rfl rfl rfl g8) ?_); refine .v rfl rfl (O.pickT g8 rfl rfl rfl) ?_; refine .m rfl rfl rfl rfl ?_; (iterate 3 refine .x rfl (unmet rfl rfl rfl rfl) ?_); refine .v rfl rfl (O.pickT rfl rfl rfl rfl) ?_; refine .a rfl rfl rfl rfl ?_; refine .nil ?_; exact toN (Gives.mkR [] (.r rfl rfl (.c rfl (sbb (by first | (simp only [g7, g8, BL]; done) | (repeat (first | rw [g7] | rw [g8])) <;> simp only [BL])) rfl .n)) (.r rfl rfl rfl .n) rfl rfl rfl)
     ·refine .v rfl (met rfl rfl rfl g8) (O.fld fld29_2 rfl rfl rfl) ?_; refine .v rfl (met rfl rfl rfl g8) (O.ld (y := .i x0.Rating) ty3 rfl rfl rfl) ?_; refine .v rfl (met rfl rfl rfl g8) (OpL.binI rfl rfl rfl rfl) ?_; refine .v rfl rfl (O.pickF g8 rfl rfl rfl) ?_; refine .m rfl rfl rfl rfl ?_; rcases tf (decide (x0.Rating < 0)) with g9 | g9
      ·(iterate 3 refine .x rfl (unmet rfl rfl rfl g9) ?_); refine .v rfl rfl (O.pickT g9 rfl rfl rfl) ?_; refine .a rfl rfl rfl rfl ?_; refine .nil ?_; exact toN (Gives.mkR [] (.r rfl rfl (.c rfl (sbb (by first | (simp only [g7, g8, g9, BL]; done) | (repeat (first | rw [g7] | rw [g8] | rw [g9])) <;> simp only [BL])) rfl .n)) (.r rfl rfl rfl .n) rfl rfl rfl)
      ·refine .v rfl (met rfl rfl rfl g9) (O.fld fld29_2 rfl rfl rfl) ?_; refine .v rfl (met rfl rfl rfl g9) (O.ld (y := .i x0.Rating) ty3 rfl rfl rfl) ?_; refine .v rfl (met rfl rfl rfl g9) (OpL.binI rfl rfl rfl rfl) ?_; refine .v rfl rfl (O.pickF g9 rfl rfl rfl) ?_; refine .a rfl rfl rfl rfl ?_; refine .nil ?_; exact toN (Gives.mkR [] (.r rfl rfl (.c rfl (sbb (by first | (simp only [g7, g8, g9, BL]; done) | (repeat (first | rw [g7] | rw [g8] | rw [g9])) <;> simp only [BL])) rfl .n)) (.r rfl rfl rfl .n) rfl rfl rfl)

noncomputable def cmp_isNaN_string.f (x0 : Bs) : Option (Bool) :=
  some (!(x0 == x0))
set_option maxRecDepth 100000 in
set_option maxHeartbeats 4000000 in
theorem cmp_isNaN_string.ok {x0 : Bs} {r : Bool} (h : cmp_isNaN_string.f x0 = some r) : Pm.Spec prog 67 [.imm (.val (.string (tx x0)))] (.imm (.val (.bool r))) [none] := by
 unfold cmp_isNaN_string.f at h; refine Pm.Spec.of_body Try.func67 rfl (by kernel_rfl) (Nat.le_of_ble_eq_true rfl) (Nat.le_of_ble_eq_true rfl) ?_; refine W.ghost (σ' := (mkSt [(0, some (.s x0))] [] 1000)) (Gives.entry (.c rfl .n) .n) ?_; refine W.seq ?_; refine W.pk ?_; refine .a rfl rfl rfl rfl ?_; refine .nil ?_; refine W.seq ?_; refine W.pk ?_; (iterate 2 refine .m rfl rfl rfl rfl ?_); refine .v rfl rfl (O.cmpS rfl rfl rfl rfl) ?_; refine .a rfl rfl rfl rfl ?_; refine .nil ?_; refine W.ret ?_; cases h; exact leaves (.inr rfl) rfl (.imm _) (cN .nil) rfl rfl

noncomputable def cmp_Compare_string.f (x0 : Bs) (x1 : Bs) : Option (Int) :=
  (cmp_isNaN_string.f x0).bind fun t1 =>
  (cmp_isNaN_string.f x1).bind fun t3 =>
  if t1 = true then
    if t3 = true then
      some 0
    else
      some (-1)
  else
    if t3 = true then
      some 1
    else
      if (Go.Op.bytesLess x0 x1) = true then
        some (-1)
      else
        if (!(Go.Op.bytesLess x0 x1 || x0 == x1)) = true then
          some 1
        else
          some 0
set_option maxRecDepth 100000 in
set_option maxHeartbeats 4000000 in
theorem cmp_Compare_string.ok {x0 : Bs} {x1 : Bs} {r : Int} (h : cmp_Compare_string.f x0 x1 = some r) : Pm.Spec prog 52 [.imm (.val (.string (tx x0))), .imm (.val (.string (tx x1)))] (.imm (.val (.int .i64 r))) [none, none] := by
 unfold cmp_Compare_string.f at h; refine Pm.Spec.of_body Try.func52 rfl (by kernel_rfl) (Nat.le_of_ble_eq_true rfl) (Nat.le_of_ble_eq_true rfl) ?_; refine W.ghost (σ' := (mkSt [(0, some (.s x0)), (1, some (.s x1))] [] 1000)) (Gives.entry (.c rfl (.c rfl .n)) .n) ?_; refine W.seq ?_; refine W.pk ?_; refine .a rfl rfl rfl rfl ?_; refine .nil ?_; refine W.seq ?_; obtain ⟨t1, b2, h⟩ := bnd1 h; refine W.pk ?_; refine .m rfl rfl rfl rfl ?_; refine .call (.b t1) [] 0 (cmp_isNaN_string.ok b2) rfl rfl rfl ca67 rfl rfl (cC (.imm _) .nil) rfl rfl rfl rfl rfl ?_; refine .a rfl rfl rfl rfl ?_; refine .nil ?_; refine W.seq ?_; obtain ⟨t3, b4, h⟩ := bnd1 h; refine W.pk ?_; refine .m rfl rfl rfl rfl ?_; refine .call (.b t3) [] 0 (cmp_isNaN_string.ok b4) rfl rfl rfl ca67 rfl rfl (cC (.imm _) .nil) rfl rfl rfl rfl rfl ?_; refine .a rfl rfl rfl rfl ?_; refine .nil ?_; (iterate 2 refine W.seq ?_); refine W.pk ?_; refine .m rfl rfl rfl rfl ?_; refine .nil ?_; refine W.cond rfl (fun q5 => ?_) (fun q5 => ?_)
 ·have h := ifT q5 h; (iterate 2 refine W.seq ?_); refine W.pk ?_; refine .m rfl rfl rfl rfl ?_; refine .nil ?_; refine W.cond rfl (fun q6 => ?_) (fun q6 => ?_)
  ·have h := ifT q6 h; refine W.seq ?_; refine W.pk ?_; refine .a rfl rfl rfl rfl ?_; refine .nil ?_; refine W.ret ?_; cases h; exact leaves (.inr rfl) rfl (.imm _) (cN (cN .nil)) rfl rfl
  ·have h := ifF q6 h; refine W.skip ?_; refine W.seq ?_; refine W.pk ?_; refine .a rfl rfl rfl rfl ?_; refine .nil ?_; refine W.ret ?_; cases h; exact leaves (.inr rfl) rfl (.imm _) (cN (cN .nil)) rfl rfl
 ·have h := ifF q5 h; refine W.skip ?_; (iterate 2 refine W.seq ?_); refine W.pk ?_; refine .m rfl rfl rfl rfl ?_; refine .nil ?_; refine W.cond rfl (fun q7 => ?_) (fun q7 => ?_)
  ·have h := ifT q7 h; refine W.seq ?_; refine W.pk ?_; refine .a rfl rfl rfl rfl ?_; refine .nil ?_; refine W.ret ?_; cases h; exact leaves (.inr rfl) rfl (.imm _) (cN (cN .nil)) rfl rfl
  ·have h := ifF q7 h; refine W.skip ?_; (iterate 2 refine W.seq ?_); refine W.pk ?_; (iterate 2 refine .m rfl rfl rfl rfl ?_); refine .v rfl rfl (O.cmpS rfl rfl rfl rfl) ?_; refine .nil ?_; refine W.cond rfl (fun q8 => ?_) (fun q8 => ?_)
   ·have h := ifT q8 h; refine W.seq ?_; refine W.pk ?_; refine .a rfl rfl rfl rfl ?_; refine .nil ?_; refine W.ret ?_; cases h; exact leaves (.inr rfl) rfl (.imm _) (cN (cN .nil)) rfl rfl
   ·have h := ifF q8 h; refine W.skip ?_; (iterate 2 refine W.seq ?_); refine W.pk ?_; (iterate 2 refine .m rfl rfl rfl rfl ?_); refine .v rfl rfl (O.cmpS rfl rfl rfl rfl) ?_; refine .nil ?_; refine W.cond rfl (fun q9 => ?_) (fun q9 => ?_)
    ·have h := ifT q9 h; refine W.seq ?_; refine W.pk ?_; refine .a rfl rfl rfl rfl ?_; refine .nil ?_; refine W.ret ?_; cases h; exact leaves (.inr rfl) rfl (.imm _) (cN (cN .nil)) rfl rfl
    ·have h := ifF q9 h; refine W.skip ?_; refine W.seq ?_; refine W.pk ?_; refine .a rfl rfl rfl rfl ?_; refine .nil ?_; refine W.ret ?_; cases h; exact leaves (.inr rfl) rfl (.imm _) (cN (cN .nil)) rfl rfl

noncomputable def asset_Book_place_1_v2.f (x0 : api_Asset) (x1 : Bs) : Option (Int) :=
  (cmp_Compare_string.f x0.ISIN x1).bind fun t1 =>
  some t1
set_option maxRecDepth 100000 in
set_option maxHeartbeats 4000000 in
theorem asset_Book_place_1_v2.ok {x0 : api_Asset} {x1 : Bs} {r : Int} (h : asset_Book_place_1_v2.f x0 x1 = some r) : Pm.Spec prog 51 [.agg [.imm (.val (.string (tx x0.ISIN))), .imm (.val (.int .i64 x0.Issuer)), .imm (.val (.int .i64 x0.Rating)), .imm (.val (.int .i64 x0.Maturity)), .imm (.val (.string (tx x0.Currency)))], .imm (.val (.string (tx x1)))] (.imm (.val (.int .i64 r))) [none, none] := by
 unfold asset_Book_place_1_v2.f at h; refine Pm.Spec.of_body Try.func51 rfl (by kernel_rfl) (Nat.le_of_ble_eq_true rfl) (Nat.le_of_ble_eq_true rfl) ?_; refine W.ghost (σ' := (mkSt [(0, some (.agg (api_Asset.av x0))), (1, some (.s x1))] [] 1000)) (Gives.entry (.c rfl (.c rfl .n)) .n) ?_; refine W.seq ?_; refine W.pk ?_; refine .t rfl rfl (O.box rfl rfl rfl rfl rfl) ?_; refine .a rfl rfl rfl rfl ?_; refine .nil ?_; refine W.seq ?_; obtain ⟨t1, b2, h⟩ := bnd1 h; refine W.pk ?_; refine .v rfl rfl (O.fld fld29_0 rfl rfl rfl) ?_; refine .v rfl rfl (O.ld (y := .s x0.ISIN) ty9 rfl rfl rfl) ?_; refine .m rfl rfl rfl rfl ?_; refine .call (.i t1) [] 0 (cmp_Compare_string.ok b2) rfl rfl rfl ca52 rfl rfl (cC (.imm _) (cC (.imm _) .nil)) rfl rfl rfl rfl rfl ?_; refine .a rfl rfl rfl rfl ?_; refine .nil ?_; refine W.ret ?_; cases h; exact leaves (.inr rfl) rfl (.imm _) (cN (cN .nil)) rfl rfl

noncomputable def slices_BinarySearchFunc_string__asset_Book_place_1.b0 (x0 : List api_Asset) (x1 : Bs) (v6 : Int) (v7 : Int) : Option ((Int × Int) ⊕ Int) :=
  if (decide (v6 < v7)) = true then
    if (0 : Int) ≤ (IntKind.wrap .i64 (shrI .u64 (IntKind.wrap .u64 (IntKind.wrap .i64 (v6 + v7))) 1)) ∧ (IntKind.wrap .i64 (shrI .u64 (IntKind.wrap .u64 (IntKind.wrap .i64 (v6 + v7))) 1)) < (List.length x0 : Int) then
    (asset_Book_place_1_v2.f (nth x0 (IntKind.wrap .i64 (shrI .u64 (IntKind.wrap .u64 (IntKind.wrap .i64 (v6 + v7))) 1))) x1).bind fun t24 =>
    if (decide (t24 < 0)) = true then
      some (.inl ((IntKind.wrap .i64 ((IntKind.wrap .i64 (shrI .u64 (IntKind.wrap .u64 (IntKind.wrap .i64 (v6 + v7))) 1)) + 1)), v7))
    else
      some (.inl (v6, (IntKind.wrap .i64 (shrI .u64 (IntKind.wrap .u64 (IntKind.wrap .i64 (v6 + v7))) 1))))
    else none
  else
    some (.inr v6)
noncomputable def slices_BinarySearchFunc_string__asset_Book_place_1.r0 (x0 : List api_Asset) (x1 : Bs) (s : Int × Int) : Option ((Int × Int) ⊕ Int) := slices_BinarySearchFunc_string__asset_Book_place_1.b0 x0 x1 s.1 s.2
noncomputable def slices_BinarySearchFunc_string__asset_Book_place_1.f (x0 : List api_Asset) (x1 : Bs) : Option (Int × Bool) :=
  (loop (slices_BinarySearchFunc_string__asset_Book_place_1.r0 x0 x1) (0, (List.length x0 : Int))).bind fun o19 =>
  if ((decide (o19 < (List.length x0 : Int))) = true → (0 : Int) ≤ o19 ∧ o19 < (List.length x0 : Int)) then
  (if (decide (o19 < (List.length x0 : Int))) = true then asset_Book_place_1_v2.f (nth x0 o19) x1 else some default).bind fun t28 =>
  some (o19, ((decide (o19 < (List.length x0 : Int))) && (t28 == 0)))
  else none
set_option maxRecDepth 100000 in
set_option maxHeartbeats 4000000 in
theorem slices_BinarySearchFunc_string__asset_Book_place_1.ok {x0 : List api_Asset} {x1 : Bs} {r : Int × Bool} (h : slices_BinarySearchFunc_string__asset_Book_place_1.f x0 x1 = some r) : Pm.Spec prog 50 [.xown 29 5 (List.map api_Asset.enc x0), .imm (.val (.string (tx x1))), .fn 51 []] (.tup [.imm (.val (.int .i64 r.1)), .imm (.val (.bool r.2))]) [some (.xown 29 5 (List.map api_Asset.enc x0)), none, none] := by
 unfold slices_BinarySearchFunc_string__asset_Book_place_1.f at h; refine Pm.Spec.of_body Try.func50 rfl (by kernel_rfl) (Nat.le_of_ble_eq_true rfl) (Nat.le_of_ble_eq_true rfl) ?_; refine W.ghost (σ' := (mkSt [(0, some (.own 0)), (1, some (.s x1)), (2, some (.fn 51 []))] [(0, some (.rows 29 5 (List.map api_Asset.enc x0) false))] 1000)) (Gives.entry (.c rfl (.c rfl (.c rfl .n))) (.c rfl .n)) ?_; refine W.seq ?_; refine W.pk ?_; (iterate 2 refine .a rfl rfl rfl rfl ?_); refine .nil ?_; refine W.seq ?_; refine W.pk ?_; refine .m rfl rfl rfl rfl ?_; refine .v rfl rfl (O.lenO sl68 rfl rfl rfl) ?_; refine .a rfl rfl rfl rfl ?_; refine .nil ?_; refine W.seq ?_; refine W.pk ?_; refine .m rfl rfl rfl rfl ?_; (iterate 2 refine .a rfl rfl rfl rfl ?_); refine .nil ?_; refine W.seq ?_; obtain ⟨o19, b20, h⟩ := bnd1 h; refine W.fork (mkSt [(0, some (.own 0)), (1, some (.s x1)), (2, some (.fn 51 [])), (8, some (.i (List.length x0 : Int))), (9, some (.i o19))] [(0, some (.rows 29 5 (List.map api_Asset.enc x0) false))] 1000) ?_ ?_
 ·refine W.seq ?_; obtain ⟨c27, h⟩ := chk h; obtain ⟨t28, b29, h⟩ := bnd1 h; refine W.fork (mkSt [(6, some (.i o19)), (7, some (.b ((decide (o19 < (List.length x0 : Int))) && (t28 == 0))))] [(0, some (.rows 29 5 (List.map api_Asset.enc x0) false))] 1000) ?_ ?_
  ·refine W.ret ?_; cases h; exact leaves (.inr rfl) rfl (.tup _ _ _ _ (cC (.imm _) (cC (.imm _) .nil))) (cS (.own _ _ _ _ rfl) (cN (cN .nil))) rfl rfl
  ·clear h; refine W.pk ?_; (iterate 3 refine .m rfl rfl rfl rfl ?_); refine .v rfl rfl (OpL.binI rfl rfl rfl rfl) ?_; refine .m rfl rfl rfl rfl ?_; rcases tf (decide (o19 < (List.length x0 : Int))) with g30 | g30
   ·(iterate 3 refine .m rfl (met rfl rfl rfl g30) rfl rfl ?_); refine .v rfl (met rfl rfl rfl g30) (O.idxO sl68 (c27 (by simp only [g30, BL])) rfl rfl rfl rfl) ?_; refine .v rfl (met rfl rfl rfl g30) (O.ldEN ty29 (c27 (by simp only [g30, BL])) rfl rfl rfl rfl rfl) ?_; refine .m rfl (met rfl rfl rfl g30) rfl rfl ?_; refine .call (.i t28) [] 0 (asset_Book_place_1_v2.ok ((if_pos (by simp only [g30, BL])).symm.trans b29)) rfl (met rfl rfl rfl g30) rfl ca51 rfl rfl (cC (.agg _ _ _ _ (cC (.imm _) (cC (.imm _) (cC (.imm _) (cC (.imm _) (cC (.imm _) .nil)))))) (cC (.imm _) .nil)) rfl rfl rfl rfl rfl ?_; refine .v rfl (met rfl rfl rfl g30) (OpL.binI rfl rfl rfl rfl) ?_; refine .v rfl rfl (O.pickT g30 rfl rfl rfl) ?_; (iterate 2 refine .a rfl rfl rfl rfl ?_); refine .nil ?_; exact toN (Gives.mkR [] (.r rfl rfl (.c rfl (sbb (by simp only [g30, BL])) rfl .n)) (.r rfl rfl rfl .n) rfl rfl rfl)
   ·(iterate 8 refine .x rfl (unmet rfl rfl rfl g30) ?_); refine .v rfl rfl (O.pickF g30 rfl rfl rfl) ?_; (iterate 2 refine .a rfl rfl rfl rfl ?_); refine .nil ?_; exact toN (Gives.mkR [] (.r rfl rfl (.c rfl (sbb (by simp only [g30, BL])) rfl .n)) (.r rfl rfl rfl .n) rfl rfl rfl)
 ·clear h; refine W.block ?_; refine W.loopF (fun (s_ : Int × Int) => mkSt [(0, some (.own 0)), (1, some (.s x1)), (2, some (.fn 51 [])), (8, some (.i (List.length x0 : Int))), (9, some (.i s_.1)), (10, some (.i s_.2))] [(0, some (.rows 29 5 (List.map api_Asset.enc x0) false))] 1000) b20 (Gives.mkR [] (.e rfl rfl) (.r rfl rfl rfl .n) rfl rfl rfl) ?_; rintro ⟨v6, v7⟩ s_ hr; have h : slices_BinarySearchFunc_string__asset_Book_place_1.b0 x0 x1 v6 v7 = some s_ := hr; unfold slices_BinarySearchFunc_string__asset_Book_place_1.b0 at h; (iterate 2 refine W.seq ?_); refine W.pk ?_; (iterate 2 refine .m rfl rfl rfl rfl ?_); refine .v rfl rfl (OpL.binI rfl rfl rfl rfl) ?_; refine .nil ?_; refine W.cond rfl (fun q22 => ?_) (fun q22 => ?_)
  ·have h := ifT q22 h; refine W.skip ?_; refine W.block ?_; refine W.seq ?_; refine W.pk ?_; (iterate 2 refine .m rfl rfl rfl rfl ?_); refine .v rfl rfl (OpL.binI rfl rfl rfl rfl) ?_; refine .v rfl rfl (O.conv h3 u118 rfl rfl) ?_; refine .v rfl rfl (O.shr (by decide) rfl rfl rfl) ?_; refine .v rfl rfl (O.conv h118 u3 rfl rfl) ?_; refine .a rfl rfl rfl rfl ?_; refine .nil ?_; refine W.seq ?_; obtain ⟨c23, h⟩ := chk h; obtain ⟨t24, b25, h⟩ := bnd1 h; refine W.pk ?_; (iterate 3 refine .m rfl rfl rfl rfl ?_); refine .v rfl rfl (O.idxO sl68 c23 rfl rfl rfl rfl) ?_; refine .v rfl rfl (O.ldEN ty29 c23 rfl rfl rfl rfl rfl) ?_; refine .m rfl rfl rfl rfl ?_; refine .call (.i t24) [] 0 (asset_Book_place_1_v2.ok b25) rfl rfl rfl ca51 rfl rfl (cC (.agg _ _ _ _ (cC (.imm _) (cC (.imm _) (cC (.imm _) (cC (.imm _) (cC (.imm _) .nil)))))) (cC (.imm _) .nil)) rfl rfl rfl rfl rfl ?_; refine .v rfl rfl (OpL.binI rfl rfl rfl rfl) ?_; refine .nil ?_; refine W.cond rfl (fun q26 => ?_) (fun q26 => ?_)
   ·have h := ifT q26 h; refine W.pk ?_; refine .m rfl rfl rfl rfl ?_; refine .v rfl rfl (OpL.binI rfl rfl rfl rfl) ?_; refine .a rfl rfl rfl rfl ?_; refine .nil ?_; cases h; exact rdN (Gives.mkR [] (.e rfl rfl) (.r rfl rfl rfl .n) rfl rfl rfl)
   ·have h := ifF q26 h; refine W.pk ?_; refine .m rfl rfl rfl rfl ?_; refine .a rfl rfl rfl rfl ?_; refine .nil ?_; cases h; exact rdN (Gives.mkR [] (.e rfl rfl) (.r rfl rfl rfl .n) rfl rfl rfl)
  ·have h := ifF q22 h; refine W.exit ?_; cases h; refine rdX fun e_ => ?_; subst e_; (repeat with_reducible refine thru ?_); refine hit ?_; exact toN (Gives.mkR [] (.e rfl rfl) (.r rfl rfl rfl .n) rfl rfl rfl)

noncomputable def asset_Book_place.f (x0 : asset_Book) (x1 : Bs) : Option (Int × Bool) :=
  (slices_BinarySearchFunc_string__asset_Book_place_1.f x0.l x1).bind fun t1 =>
  some (t1.1, t1.2)
set_option maxRecDepth 100000 in
set_option maxHeartbeats 4000000 in
theorem asset_Book_place.ok {x0 : asset_Book} {x1 : Bs} {r : Int × Bool} (h : asset_Book_place.f x0 x1 = some r) : Pm.Spec prog 34 [.xbox [.xown 29 5 (List.map api_Asset.enc x0.l), .xown 3 1 (List.map (encI .i64) x0.prices), .imm (.val (.bool x0.made))], .imm (.val (.string (tx x1)))] (.tup [.imm (.val (.int .i64 r.1)), .imm (.val (.bool r.2))]) [some (.xbox [.xown 29 5 (List.map api_Asset.enc x0.l), .xown 3 1 (List.map (encI .i64) x0.prices), .imm (.val (.bool x0.made))]), none] := by
 unfold asset_Book_place.f at h; refine Pm.Spec.of_body Try.func34 rfl (by kernel_rfl) (Nat.le_of_ble_eq_true rfl) (Nat.le_of_ble_eq_true rfl) ?_; refine W.ghost (σ' := (mkSt [(0, some (.ptr 0 0)), (1, some (.s x1))] [(0, some (.box [.own 1, .own 2, .b x0.made])), (1, some (.rows 29 5 (List.map api_Asset.enc x0.l) false)), (2, some (.rows 3 1 (List.map (encI .i64) x0.prices) false))] 1000)) (Gives.entry (.c rfl (.c rfl .n)) (.c rfl (.c rfl (.c rfl .n)))) ?_; refine W.ghost (σ' := (mkSt [(0, some (.ptr 0 0)), (1, some (.s x1))] [(0, some (.box [.own 1000, .own 1001, .b x0.made])), (1000, some (.rows 29 5 (List.map api_Asset.enc x0.l) false)), (1001, some (.rows 3 1 (List.map (encI .i64) x0.prices) false))] 1002)) (Gives.mkR [(1000, 1), (1001, 2)] (.e rfl rfl) (.e rfl rfl) rfl rfl rfl) ?_; refine W.seq ?_; refine W.pk ?_; (iterate 2 refine .a rfl rfl rfl rfl ?_); refine .nil ?_; refine W.seq ?_; obtain ⟨t1, b2, h⟩ := bnd1 h; refine W.pk ?_; refine .m rfl rfl rfl rfl ?_; refine .v rfl rfl (OpL.nilP rfl rfl rfl) ?_; refine .v rfl rfl (O.fld fld71_0 rfl rfl rfl) ?_; refine .v rfl rfl (O.ld (y := .own 1000) ty68 rfl rfl rfl) ?_; refine .m rfl rfl rfl rfl ?_; refine .call (.tup [.i t1.1, .b t1.2]) [(1000, some (.rows 29 5 (List.map api_Asset.enc x0.l) false)), (1000, none)] 0 (slices_BinarySearchFunc_string__asset_Book_place_1.ok b2) rfl rfl rfl ca50 rfl rfl (cC (.own _ _ _ _ rfl) (cC (.imm _) (cC (.fn _ _ _ _ _ .nil) .nil))) rfl rfl rfl rfl rfl ?_; (iterate 2 refine .v rfl rfl (OpL.extract rfl rfl rfl) ?_); (iterate 2 refine .a rfl rfl rfl rfl ?_); refine .nil ?_; refine W.ret ?_; cases h; exact leaves (.inr rfl) rfl (.tup _ _ _ _ (cC (.imm _) (cC (.imm _) .nil))) (cS (.ptr _ _ _ _ _ rfl (cC (.own _ _ _ _ rfl) (cC (.own _ _ _ _ rfl) (cC (.imm _) .nil)))) (cN .nil)) rfl rfl

noncomputable def slices_Insert_api_Asset.f (x0 : List api_Asset) (x1 : Int) (x2 : List api_Asset) : Option (List api_Asset) :=
  insF 56 x0 x1 x2
set_option maxRecDepth 100000 in
set_option maxHeartbeats 4000000 in
theorem slices_Insert_api_Asset.ok {x0 : List api_Asset} {x1 : Int} {x2 : List api_Asset} {r : List api_Asset} (h : slices_Insert_api_Asset.f x0 x1 x2 = some r) : Pm.Spec prog 43 [.xown 29 5 (List.map api_Asset.enc x0), .imm (.val (.int .i64 x1)), .xown 29 5 (List.map api_Asset.enc x2)] (.xown 29 5 (List.map api_Asset.enc r)) [none, none, none] := by
 obtain ⟨i, x, rfl, rfl, c2, c3, c4, rfl⟩ := insF_some (by decide) h
 refine Pm.Spec.of_body Try.func43 rfl (by kernel_rfl) (Nat.le_of_ble_eq_true rfl) (Nat.le_of_ble_eq_true rfl) ?_
 refine W.ghost (σ' := (mkSt [(0, some (.own 0)), (1, some (.i (i : Int))), (2, some (.own 1))] [(0, some (.rows 29 5 (List.map api_Asset.enc x0) false)), (1, some (.rows 29 5 (List.map api_Asset.enc [x]) false))] 1000)) (Gives.entry (.c rfl (.c rfl (.c rfl .n))) (.c rfl (.c rfl .n))) ?_
 refine W.seq ?_
 refine W.pk ?_
 refine .v rfl rfl (OpL.move (.inr rfl) rfl) ?_
 refine .nil ?_
 refine W.seq ?_
 refine W.pk ?_
 refine .m rfl rfl rfl rfl ?_
 refine .m rfl rfl rfl rfl ?_
 refine .v rfl rfl (O.partE (l := i) (N := (List.length x0)) sl68 c2 (List.length_map _).symm rfl rfl rfl rfl) ?_
 refine .nil ?_
 refine W.seq ?_
 refine W.pk ?_
 refine .m rfl rfl rfl rfl ?_
 refine .v rfl rfl (O.lenO sl68 rfl rfl rfl) ?_
 refine .a rfl rfl rfl rfl ?_
 refine .nil ?_
 refine W.seq ?_
 refine W.seq ?_
 refine W.pk ?_
 refine .m rfl rfl rfl rfl ?_
 refine .v rfl rfl (OpL.binI rfl rfl rfl rfl) ?_
 refine .nil ?_
 refine W.cond rfl (fun q => by simp at q) (fun _ => ?_)
 refine W.skip ?_
 refine W.seq ?_
 refine W.pk ?_
 refine .m rfl rfl rfl rfl ?_
 refine .v rfl rfl (O.lenO sl68 rfl rfl rfl) ?_
 refine .a rfl rfl rfl rfl ?_
 refine .nil ?_
 refine W.seq ?_
 refine W.seq ?_
 refine W.pk ?_
 refine .m rfl rfl rfl rfl ?_
 refine .m rfl rfl rfl rfl ?_
 refine .v rfl rfl (OpL.binI rfl rfl rfl rfl) ?_
 refine .nil ?_
 refine W.cond rfl (fun q => ?_) (fun q => ?_)
 · have q' : i = (List.length x0) := by have := eq_of_beq q; omega
   rw [ins0 q']
   refine W.seq ?_
   refine W.pk ?_
   refine .m rfl rfl rfl rfl ?_
   refine .m rfl rfl rfl rfl ?_
   have h2 : ((List.length x0) + List.length [x]) * 56 ≤ 140737488355328 := c3
   refine .t rfl rfl (O.appO (m := [x]) sl68 api_Asset.ok h2 rfl rfl rfl rfl rfl) ?_
   refine .a rfl rfl rfl rfl ?_
   refine .nil ?_
   refine W.ret ?_
   exact leaves (.inr rfl) rfl (.own _ _ _ _ rfl) (cN (cN (cN .nil))) rfl rfl
 · have lt : i < (List.length x0) := by
     have : ¬ ((i : Int) = ((List.length x0) : Int)) := fun e => by simp [e] at q
     omega
   refine W.skip ?_
   refine W.capM 0 rfl rfl (by omega) (fun C b1 b2 => ?_)
   simp only [maxLen] at b2
   refine W.seq ?_
   refine W.seq ?_
   refine W.pk ?_
   refine .m rfl rfl rfl rfl ?_
   refine .m rfl rfl rfl rfl ?_
   refine .v rfl rfl (OpL.binI rfl rfl rfl (addN (a := (List.length x0)) (b := 1) (by omega))) ?_
   refine .m rfl rfl rfl rfl ?_
   refine .v rfl rfl (O.capV sl68 rfl rfl) ?_
   refine .v rfl rfl (OpL.binI rfl rfl rfl rfl) ?_
   refine .nil ?_
   refine W.cond rfl (fun q => ?_) (fun q => ?_)
   · have q' : C < (List.length x0) + 1 := by have := of_decide_eq_true q; omega
     refine W.seq ?_
     refine W.pk ?_
     refine .m rfl rfl rfl rfl ?_
     refine .m rfl rfl rfl rfl ?_
     refine .v rfl rfl (O.sliceF (u := i) sl68 (by omega) rfl rfl rfl) ?_
     refine .m rfl rfl rfl rfl ?_
     refine .m rfl rfl rfl rfl ?_
     refine .v rfl rfl (OpL.binI rfl rfl rfl (addN (a := (List.length x0)) (b := 1) (by omega))) ?_
     refine .m rfl rfl rfl rfl ?_
     refine .v rfl rfl (OpL.binI rfl rfl rfl (subN (a := (List.length x0) + 1) (b := i) (by omega) (by omega))) ?_
     refine .t rfl rfl (OpL.appMake (zr := (List.map T.val [.string (tx []), .int .i64 0, .int .i64 0, .int .i64 0, .string (tx [])])) (q := (List.length x0) + 1 - i) sl68 rfl (TRow.refl _) rfl rfl rfl rfl (by rw [List.length_map]; omega) (by omega) (by omega) (by rw [show i + ((List.length x0) + 1 - i) = (List.length x0) + 1 by omega]; exact c3)) ?_
     refine .a rfl rfl rfl rfl ?_
     refine .nil ?_
     refine W.ghost (Gives.capM (List.length_map _).symm 0 rfl rfl) ?_
     have r1 : ((List.take i (List.map api_Asset.enc x0) ++ List.replicate ((List.length x0) + 1 - i) (List.map T.val [.string (tx []), .int .i64 0, .int .i64 0, .int .i64 0, .string (tx [])]))).length = (List.length x0) + 1 := by rw [List.length_append, List.length_take, List.length_map, List.length_replicate]; omega
     have r2 : ((List.map api_Asset.enc (List.take i x0 ++ [x]) ++ List.replicate ((List.length x0) - i) (List.map T.val [.string (tx []), .int .i64 0, .int .i64 0, .int .i64 0, .string (tx [])]))).length = (List.length x0) + 1 := by rw [List.length_append, List.length_map, List.length_append, List.length_take, List.length_replicate, List.length_singleton]; omega
     refine W.seq ?_
     refine W.pk ?_
     refine .m rfl rfl rfl rfl ?_
     refine .m rfl rfl rfl rfl ?_
     refine .v rfl rfl (O.partE (l := i) (N := (List.length x0) + 1) sl68 (by omega) r1.symm rfl rfl rfl rfl) ?_
     refine .m rfl rfl rfl rfl ?_
     refine .k rfl rfl (O.copyO (c := 1) (l := [x]) (L := (List.map api_Asset.enc (List.take i x0 ++ [x]) ++ List.replicate ((List.length x0) - i) (List.map T.val [.string (tx []), .int .i64 0, .int .i64 0, .int .i64 0, .string (tx [])]))) (enc := api_Asset.enc) sl68 api_Asset.ok (by rw [r1, List.length_map, List.length_singleton]; omega) rfl (ins1 lt) rfl rfl rfl rfl rfl) ?_
     refine .nil ?_
     refine W.seq ?_
     refine W.dk (unm 9 [0, 0, 0, 6, 15, 0, 0, 96, 255]) rfl (by kernel_rfl) ?_
     refine .m rfl rfl rfl rfl ?_
     refine .m rfl rfl rfl rfl ?_
     refine .m rfl rfl rfl rfl ?_
     refine .v rfl rfl (OpL.binI rfl rfl rfl (addN (a := i) (b := 1) (by omega))) ?_
     refine .v rfl rfl (O.partE (l := i + 1) (N := (List.length x0) + 1) sl68 (by omega) r2.symm rfl rfl rfl rfl) ?_
     refine .m rfl rfl rfl rfl ?_
     refine .m rfl rfl rfl rfl ?_
     refine .v rfl rfl (O.partE (l := i) (N := (List.length x0)) sl68 c2 (List.length_map _).symm rfl rfl rfl rfl) ?_
     refine .k rfl rfl (O.copyV (c := (List.length x0) - i) (l := List.drop i x0) (L := (List.map api_Asset.enc (List.take i x0 ++ [x] ++ List.drop i x0))) (enc := api_Asset.enc) sl68 api_Asset.ok (by rw [r2, List.length_map]; omega) (by rw [← List.map_drop, List.take_of_length_le (by rw [List.length_map, List.length_drop]; omega)]) (ins2 lt) rfl rfl rfl rfl rfl) ?_
     refine .nil ?_
     refine ⟨by kernel_rfl, by kernel_rfl, ?_⟩
     refine W.seq ?_
     refine W.pk ?_
     refine .m rfl rfl rfl rfl ?_
     refine .a rfl rfl rfl rfl ?_
     refine .nil ?_
     refine W.ret ?_
     exact leaves (.inr rfl) rfl (.own _ _ _ _ rfl) (cN (cN (cN .nil))) rfl rfl
   · have q' : (List.length x0) + 1 ≤ C := by have := of_decide_eq_false q; omega
     refine W.skip ?_
     refine W.growC 0 rfl rfl (List.length_map _).symm q' (fun jk jl => ?_)
     have r1 : (((List.map api_Asset.enc x0) ++ [jk])).length = (List.length x0) + 1 := by rw [List.length_append, List.length_map, List.length_singleton]
     have r2 : ((List.map api_Asset.enc (List.take (i + 1) x0 ++ List.drop i x0))).length = (List.length x0) + 1 := by rw [List.length_map, List.length_append, List.length_take, List.length_drop]; omega
     refine W.seq ?_
     refine W.pk ?_
     refine .m rfl rfl rfl rfl ?_
     refine .m rfl rfl rfl rfl ?_
     refine .m rfl rfl rfl rfl ?_
     refine .v rfl rfl (OpL.binI rfl rfl rfl (addN (a := (List.length x0)) (b := 1) (by omega))) ?_
     refine .v rfl rfl (O.sliceF (u := (List.length x0) + 1) sl68 (by omega) rfl rfl rfl) ?_
     refine .a rfl rfl rfl rfl ?_
     refine .nil ?_
     refine W.ghost (Gives.capM r1.symm 0 rfl rfl) ?_
     refine W.seq ?_
     refine W.seq ?_
     refine W.pk ?_
     refine .m rfl rfl rfl rfl ?_
     refine .m rfl rfl rfl rfl ?_
     refine .m rfl rfl rfl rfl ?_
     refine .m rfl rfl rfl rfl ?_
     refine .v rfl rfl (OpL.binI rfl rfl rfl (addN (a := i) (b := 1) (by omega))) ?_
     refine .v rfl rfl (O.partE (l := i + 1) (N := (List.length x0) + 1) sl68 (by omega) r1.symm rfl rfl rfl rfl) ?_
     refine .v rfl rfl (OpL.apart (tR := 4) (f := 63) (fn := Try.f63) sl68 rfl (by kernel_rfl) (by kernel_rfl) (by kernel_rfl) (by kernel_rfl) rfl rfl rfl rfl rfl (by decide) (by simp) (by omega)) ?_
     refine .v rfl rfl (OpL.unV rfl rfl rfl) ?_
     refine .nil ?_
     refine W.cond rfl (fun _ => ?_) (fun q => by cases q)
     refine W.seq ?_
     refine W.dk (unm 9 [0, 0, 0, 6, 15, 0, 0, 96, 255]) rfl (by kernel_rfl) ?_
     refine .m rfl rfl rfl rfl ?_
     refine .m rfl rfl rfl rfl ?_
     refine .m rfl rfl rfl rfl ?_
     refine .v rfl rfl (OpL.binI rfl rfl rfl (addN (a := i) (b := 1) (by omega))) ?_
     refine .v rfl rfl (O.partE (l := i + 1) (N := (List.length x0) + 1) sl68 (by omega) r1.symm rfl rfl rfl rfl) ?_
     refine .m rfl rfl rfl rfl ?_
     refine .m rfl rfl rfl rfl ?_
     refine .v rfl rfl (O.partE (l := i) (N := (List.length x0) + 1) sl68 (by omega) r1.symm rfl rfl rfl rfl) ?_
     refine .k rfl rfl (O.copyV (c := (List.length x0) - i) (l := List.drop i x0) (L := (List.map api_Asset.enc (List.take (i + 1) x0 ++ List.drop i x0))) (enc := api_Asset.enc) sl68 api_Asset.ok (by rw [r1]; omega) (ins5 lt) (ins3 lt) rfl rfl rfl rfl rfl) ?_
     refine .nil ?_
     refine ⟨by kernel_rfl, by kernel_rfl, ?_⟩
     refine W.seq ?_
     refine W.pk ?_
     refine .m rfl rfl rfl rfl ?_
     refine .m rfl rfl rfl rfl ?_
     refine .v rfl rfl (O.partE (l := i) (N := (List.length x0) + 1) sl68 (by omega) r2.symm rfl rfl rfl rfl) ?_
     refine .m rfl rfl rfl rfl ?_
     refine .k rfl rfl (O.copyO (c := 1) (l := [x]) (L := (List.map api_Asset.enc (List.take i x0 ++ [x] ++ List.drop i x0))) (enc := api_Asset.enc) sl68 api_Asset.ok (by rw [r2, List.length_map, List.length_singleton]; omega) rfl (ins4 lt) rfl rfl rfl rfl rfl) ?_
     refine .nil ?_
     refine W.seq ?_
     refine W.pk ?_
     refine .m rfl rfl rfl rfl ?_
     refine .a rfl rfl rfl rfl ?_
     refine .nil ?_
     refine W.ret ?_
     exact leaves (.inr rfl) rfl (.own _ _ _ _ rfl) (cN (cN (cN .nil))) rfl rfl

noncomputable def slices_Insert_int.f (x0 : List Int) (x1 : Int) (x2 : List Int) : Option (List Int) :=
  insF 8 x0 x1 x2
set_option maxRecDepth 100000 in
set_option maxHeartbeats 4000000 in
theorem slices_Insert_int.ok {x0 : List Int} {x1 : Int} {x2 : List Int} {r : List Int} (h : slices_Insert_int.f x0 x1 x2 = some r) : Pm.Spec prog 44 [.xown 3 1 (List.map (encI .i64) x0), .imm (.val (.int .i64 x1)), .xown 3 1 (List.map (encI .i64) x2)] (.xown 3 1 (List.map (encI .i64) r)) [none, none, none] := by
 obtain ⟨i, x, rfl, rfl, c2, c3, c4, rfl⟩ := insF_some (by decide) h
 refine Pm.Spec.of_body Try.func44 rfl (by kernel_rfl) (Nat.le_of_ble_eq_true rfl) (Nat.le_of_ble_eq_true rfl) ?_
 refine W.ghost (σ' := (mkSt [(0, some (.own 0)), (1, some (.i (i : Int))), (2, some (.own 1))] [(0, some (.rows 3 1 (List.map (encI .i64) x0) false)), (1, some (.rows 3 1 (List.map (encI .i64) [x]) false))] 1000)) (Gives.entry (.c rfl (.c rfl (.c rfl .n))) (.c rfl (.c rfl .n))) ?_
 refine W.seq ?_
 refine W.pk ?_
 refine .v rfl rfl (OpL.move (.inr rfl) rfl) ?_
 refine .nil ?_
 refine W.seq ?_
 refine W.pk ?_
 refine .m rfl rfl rfl rfl ?_
 refine .m rfl rfl rfl rfl ?_
 refine .v rfl rfl (O.partE (l := i) (N := (List.length x0)) sl69 c2 (List.length_map _).symm rfl rfl rfl rfl) ?_
 refine .nil ?_
 refine W.seq ?_
 refine W.pk ?_
 refine .m rfl rfl rfl rfl ?_
 refine .v rfl rfl (O.lenO sl69 rfl rfl rfl) ?_
 refine .a rfl rfl rfl rfl ?_
 refine .nil ?_
 refine W.seq ?_
 refine W.seq ?_
 refine W.pk ?_
 refine .m rfl rfl rfl rfl ?_
 refine .v rfl rfl (OpL.binI rfl rfl rfl rfl) ?_
 refine .nil ?_
 refine W.cond rfl (fun q => by simp at q) (fun _ => ?_)
 refine W.skip ?_
 refine W.seq ?_
 refine W.pk ?_
 refine .m rfl rfl rfl rfl ?_
 refine .v rfl rfl (O.lenO sl69 rfl rfl rfl) ?_
 refine .a rfl rfl rfl rfl ?_
 refine .nil ?_
 refine W.seq ?_
 refine W.seq ?_
 refine W.pk ?_
 refine .m rfl rfl rfl rfl ?_
 refine .m rfl rfl rfl rfl ?_
 refine .v rfl rfl (OpL.binI rfl rfl rfl rfl) ?_
 refine .nil ?_
 refine W.cond rfl (fun q => ?_) (fun q => ?_)
 · have q' : i = (List.length x0) := by have := eq_of_beq q; omega
   rw [ins0 q']
   refine W.seq ?_
   refine W.pk ?_
   refine .m rfl rfl rfl rfl ?_
   refine .m rfl rfl rfl rfl ?_
   have h2 : ((List.length x0) + List.length [x]) * 8 ≤ 140737488355328 := c3
   refine .t rfl rfl (O.appO (m := [x]) sl69 (EncOk.int .i64) h2 rfl rfl rfl rfl rfl) ?_
   refine .a rfl rfl rfl rfl ?_
   refine .nil ?_
   refine W.ret ?_
   exact leaves (.inr rfl) rfl (.own _ _ _ _ rfl) (cN (cN (cN .nil))) rfl rfl
 · have lt : i < (List.length x0) := by
     have : ¬ ((i : Int) = ((List.length x0) : Int)) := fun e => by simp [e] at q
     omega
   refine W.skip ?_
   refine W.capM 0 rfl rfl (by omega) (fun C b1 b2 => ?_)
   simp only [maxLen] at b2
   refine W.seq ?_
   refine W.seq ?_
   refine W.pk ?_
   refine .m rfl rfl rfl rfl ?_
   refine .m rfl rfl rfl rfl ?_
   refine .v rfl rfl (OpL.binI rfl rfl rfl (addN (a := (List.length x0)) (b := 1) (by omega))) ?_
   refine .m rfl rfl rfl rfl ?_
   refine .v rfl rfl (O.capV sl69 rfl rfl) ?_
   refine .v rfl rfl (OpL.binI rfl rfl rfl rfl) ?_
   refine .nil ?_
   refine W.cond rfl (fun q => ?_) (fun q => ?_)
   · have q' : C < (List.length x0) + 1 := by have := of_decide_eq_true q; omega
     refine W.seq ?_
     refine W.pk ?_
     refine .m rfl rfl rfl rfl ?_
     refine .m rfl rfl rfl rfl ?_
     refine .v rfl rfl (O.sliceF (u := i) sl69 (by omega) rfl rfl rfl) ?_
     refine .m rfl rfl rfl rfl ?_
     refine .m rfl rfl rfl rfl ?_
     refine .v rfl rfl (OpL.binI rfl rfl rfl (addN (a := (List.length x0)) (b := 1) (by omega))) ?_
     refine .m rfl rfl rfl rfl ?_
     refine .v rfl rfl (OpL.binI rfl rfl rfl (subN (a := (List.length x0) + 1) (b := i) (by omega) (by omega))) ?_
     refine .t rfl rfl (OpL.appMake (zr := (List.map T.val [.int .i64 0])) (q := (List.length x0) + 1 - i) sl69 rfl (TRow.refl _) rfl rfl rfl rfl (by rw [List.length_map]; omega) (by omega) (by omega) (by rw [show i + ((List.length x0) + 1 - i) = (List.length x0) + 1 by omega]; exact c3)) ?_
     refine .a rfl rfl rfl rfl ?_
     refine .nil ?_
     refine W.ghost (Gives.capM (List.length_map _).symm 0 rfl rfl) ?_
     have r1 : ((List.take i (List.map (encI .i64) x0) ++ List.replicate ((List.length x0) + 1 - i) (List.map T.val [.int .i64 0]))).length = (List.length x0) + 1 := by rw [List.length_append, List.length_take, List.length_map, List.length_replicate]; omega
     have r2 : ((List.map (encI .i64) (List.take i x0 ++ [x]) ++ List.replicate ((List.length x0) - i) (List.map T.val [.int .i64 0]))).length = (List.length x0) + 1 := by rw [List.length_append, List.length_map, List.length_append, List.length_take, List.length_replicate, List.length_singleton]; omega
     refine W.seq ?_
     refine W.pk ?_
     refine .m rfl rfl rfl rfl ?_
     refine .m rfl rfl rfl rfl ?_
     refine .v rfl rfl (O.partE (l := i) (N := (List.length x0) + 1) sl69 (by omega) r1.symm rfl rfl rfl rfl) ?_
     refine .m rfl rfl rfl rfl ?_
     refine .k rfl rfl (O.copyO (c := 1) (l := [x]) (L := (List.map (encI .i64) (List.take i x0 ++ [x]) ++ List.replicate ((List.length x0) - i) (List.map T.val [.int .i64 0]))) (enc := (encI .i64)) sl69 (EncOk.int .i64) (by rw [r1, List.length_map, List.length_singleton]; omega) rfl (ins1 lt) rfl rfl rfl rfl rfl) ?_
     refine .nil ?_
     refine W.seq ?_
     refine W.dk (unm 9 [0, 0, 0, 6, 15, 0, 0, 96, 255]) rfl (by kernel_rfl) ?_
     refine .m rfl rfl rfl rfl ?_
     refine .m rfl rfl rfl rfl ?_
     refine .m rfl rfl rfl rfl ?_
     refine .v rfl rfl (OpL.binI rfl rfl rfl (addN (a := i) (b := 1) (by omega))) ?_
     refine .v rfl rfl (O.partE (l := i + 1) (N := (List.length x0) + 1) sl69 (by omega) r2.symm rfl rfl rfl rfl) ?_
     refine .m rfl rfl rfl rfl ?_
     refine .m rfl rfl rfl rfl ?_
     refine .v rfl rfl (O.partE (l := i) (N := (List.length x0)) sl69 c2 (List.length_map _).symm rfl rfl rfl rfl) ?_
     refine .k rfl rfl (O.copyV (c := (List.length x0) - i) (l := List.drop i x0) (L := (List.map (encI .i64) (List.take i x0 ++ [x] ++ List.drop i x0))) (enc := (encI .i64)) sl69 (EncOk.int .i64) (by rw [r2, List.length_map]; omega) (by rw [← List.map_drop, List.take_of_length_le (by rw [List.length_map, List.length_drop]; omega)]) (ins2 lt) rfl rfl rfl rfl rfl) ?_
     refine .nil ?_
     refine ⟨by kernel_rfl, by kernel_rfl, ?_⟩
     refine W.seq ?_
     refine W.pk ?_
     refine .m rfl rfl rfl rfl ?_
     refine .a rfl rfl rfl rfl ?_
     refine .nil ?_
     refine W.ret ?_
     exact leaves (.inr rfl) rfl (.own _ _ _ _ rfl) (cN (cN (cN .nil))) rfl rfl
   · have q' : (List.length x0) + 1 ≤ C := by have := of_decide_eq_false q; omega
     refine W.skip ?_
     refine W.growC 0 rfl rfl (List.length_map _).symm q' (fun jk jl => ?_)
     have r1 : (((List.map (encI .i64) x0) ++ [jk])).length = (List.length x0) + 1 := by rw [List.length_append, List.length_map, List.length_singleton]
     have r2 : ((List.map (encI .i64) (List.take (i + 1) x0 ++ List.drop i x0))).length = (List.length x0) + 1 := by rw [List.length_map, List.length_append, List.length_take, List.length_drop]; omega
     refine W.seq ?_
     refine W.pk ?_
     refine .m rfl rfl rfl rfl ?_
     refine .m rfl rfl rfl rfl ?_
     refine .m rfl rfl rfl rfl ?_
     refine .v rfl rfl (OpL.binI rfl rfl rfl (addN (a := (List.length x0)) (b := 1) (by omega))) ?_
     refine .v rfl rfl (O.sliceF (u := (List.length x0) + 1) sl69 (by omega) rfl rfl rfl) ?_
     refine .a rfl rfl rfl rfl ?_
     refine .nil ?_
     refine W.ghost (Gives.capM r1.symm 0 rfl rfl) ?_
     refine W.seq ?_
     refine W.seq ?_
     refine W.pk ?_
     refine .m rfl rfl rfl rfl ?_
     refine .m rfl rfl rfl rfl ?_
     refine .m rfl rfl rfl rfl ?_
     refine .m rfl rfl rfl rfl ?_
     refine .v rfl rfl (OpL.binI rfl rfl rfl (addN (a := i) (b := 1) (by omega))) ?_
     refine .v rfl rfl (O.partE (l := i + 1) (N := (List.length x0) + 1) sl69 (by omega) r1.symm rfl rfl rfl rfl) ?_
     refine .v rfl rfl (OpL.apart (tR := 4) (f := 65) (fn := Try.f65) sl69 rfl (by kernel_rfl) (by kernel_rfl) (by kernel_rfl) (by kernel_rfl) rfl rfl rfl rfl rfl (by decide) (by simp) (by omega)) ?_
     refine .v rfl rfl (OpL.unV rfl rfl rfl) ?_
     refine .nil ?_
     refine W.cond rfl (fun _ => ?_) (fun q => by cases q)
     refine W.seq ?_
     refine W.dk (unm 9 [0, 0, 0, 6, 15, 0, 0, 96, 255]) rfl (by kernel_rfl) ?_
     refine .m rfl rfl rfl rfl ?_
     refine .m rfl rfl rfl rfl ?_
     refine .m rfl rfl rfl rfl ?_
     refine .v rfl rfl (OpL.binI rfl rfl rfl (addN (a := i) (b := 1) (by omega))) ?_
     refine .v rfl rfl (O.partE (l := i + 1) (N := (List.length x0) + 1) sl69 (by omega) r1.symm rfl rfl rfl rfl) ?_
     refine .m rfl rfl rfl rfl ?_
     refine .m rfl rfl rfl rfl ?_
     refine .v rfl rfl (O.partE (l := i) (N := (List.length x0) + 1) sl69 (by omega) r1.symm rfl rfl rfl rfl) ?_
     refine .k rfl rfl (O.copyV (c := (List.length x0) - i) (l := List.drop i x0) (L := (List.map (encI .i64) (List.take (i + 1) x0 ++ List.drop i x0))) (enc := (encI .i64)) sl69 (EncOk.int .i64) (by rw [r1]; omega) (ins5 lt) (ins3 lt) rfl rfl rfl rfl rfl) ?_
     refine .nil ?_
     refine ⟨by kernel_rfl, by kernel_rfl, ?_⟩
     refine W.seq ?_
     refine W.pk ?_
     refine .m rfl rfl rfl rfl ?_
     refine .m rfl rfl rfl rfl ?_
     refine .v rfl rfl (O.partE (l := i) (N := (List.length x0) + 1) sl69 (by omega) r2.symm rfl rfl rfl rfl) ?_
     refine .m rfl rfl rfl rfl ?_
     refine .k rfl rfl (O.copyO (c := 1) (l := [x]) (L := (List.map (encI .i64) (List.take i x0 ++ [x] ++ List.drop i x0))) (enc := (encI .i64)) sl69 (EncOk.int .i64) (by rw [r2, List.length_map, List.length_singleton]; omega) rfl (ins4 lt) rfl rfl rfl rfl rfl) ?_
     refine .nil ?_
     refine W.seq ?_
     refine W.pk ?_
     refine .m rfl rfl rfl rfl ?_
     refine .a rfl rfl rfl rfl ?_
     refine .nil ?_
     refine W.ret ?_
     exact leaves (.inr rfl) rfl (.own _ _ _ _ rfl) (cN (cN (cN .nil))) rfl rfl

noncomputable def asset_Book_Add.f (x0 : asset_Book) (x1 : api_Asset) : Option (Int × asset_Book) :=
  if (!x0.made) = true then
    some (3, x0)
  else
    (isin_Asset.f x1).bind fun t2 =>
    if (t2 != 0) = true then
      some (t2, x0)
    else
      (asset_Book_place.f x0 x1.ISIN).bind fun t5 =>
      if t5.2 = true then
        some (7, x0)
      else
        if (decide ((List.length x0.l : Int) ≥ 64)) = true then
          some (18, x0)
        else
          (slices_Insert_api_Asset.f x0.l t5.1 [x1]).bind fun t9 =>
          (slices_Insert_int.f x0.prices t5.1 [0]).bind fun t11 =>
          some (0, (⟨t9, t11, x0.made⟩ : asset_Book))
set_option maxRecDepth 100000 in
set_option maxHeartbeats 4000000 in
theorem asset_Book_Add.ok {x0 : asset_Book} {x1 : api_Asset} {r : Int × asset_Book} (h : asset_Book_Add.f x0 x1 = some r) : Pm.Spec prog 29 [.xbox [.xown 29 5 (List.map api_Asset.enc x0.l), .xown 3 1 (List.map (encI .i64) x0.prices), .imm (.val (.bool x0.made))], .agg [.imm (.val (.string (tx x1.ISIN))), .imm (.val (.int .i64 x1.Issuer)), .imm (.val (.int .i64 x1.Rating)), .imm (.val (.int .i64 x1.Maturity)), .imm (.val (.string (tx x1.Currency)))]] (.imm (.val (.int .i64 r.1))) [some (.xbox [.xown 29 5 (List.map api_Asset.enc r.2.l), .xown 3 1 (List.map (encI .i64) r.2.prices), .imm (.val (.bool r.2.made))]), none] := by
 unfold asset_Book_Add.f at h; refine Pm.Spec.of_body Try.func29 rfl (by kernel_rfl) (Nat.le_of_ble_eq_true rfl) (Nat.le_of_ble_eq_true rfl) ?_; refine W.ghost (σ' := (mkSt [(0, some (.ptr 0 0)), (1, some (.agg (api_Asset.av x1)))] [(0, some (.box [.own 1, .own 2, .b x0.made])), (1, some (.rows 29 5 (List.map api_Asset.enc x0.l) false)), (2, some (.rows 3 1 (List.map (encI .i64) x0.prices) false))] 1000)) (Gives.entry (.c rfl (.c rfl .n)) (.c rfl (.c rfl (.c rfl .n)))) ?_; refine W.ghost (σ' := (mkSt [(0, some (.ptr 0 0)), (1, some (.agg (api_Asset.av x1)))] [(0, some (.box [.own 1000, .own 1001, .b x0.made])), (1000, some (.rows 29 5 (List.map api_Asset.enc x0.l) false)), (1001, some (.rows 3 1 (List.map (encI .i64) x0.prices) false))] 1002)) (Gives.mkR [(1000, 1), (1001, 2)] (.e rfl rfl) (.e rfl rfl) rfl rfl rfl) ?_; refine W.seq ?_; refine W.pk ?_; refine .t rfl rfl (O.box rfl rfl rfl rfl rfl) ?_; refine .a rfl rfl rfl rfl ?_; refine .nil ?_; (iterate 2 refine W.seq ?_); refine W.pk ?_; refine .m rfl rfl rfl rfl ?_; refine .v rfl rfl (OpL.eqP rfl u30 rfl rfl rfl) ?_; refine .m rfl rfl rfl rfl ?_; refine .m rfl (met rfl rfl rfl rfl) rfl rfl ?_; refine .v rfl (met rfl rfl rfl rfl) (OpL.nilP rfl rfl rfl) ?_; refine .v rfl (met rfl rfl rfl rfl) (O.fld fld71_2 rfl rfl rfl) ?_; refine .v rfl (met rfl rfl rfl rfl) (O.ld (y := .b x0.made) ty4 rfl rfl rfl) ?_; refine .v rfl (met rfl rfl rfl rfl) (OpL.unV rfl rfl rfl) ?_; refine .v rfl rfl (O.pickF rfl rfl rfl rfl) ?_; refine .nil ?_; refine W.cond rfl (fun q1 => ?_) (fun q1 => ?_)
 ·have h := ifT q1 h; refine W.seq ?_; refine W.pk ?_; refine .a rfl rfl rfl rfl ?_; refine .nil ?_; refine W.ret ?_; cases h; exact leaves (.inr rfl) rfl (.imm _) (cS (.ptr _ _ _ _ _ rfl (cC (.own _ _ _ _ rfl) (cC (.own _ _ _ _ rfl) (cC (.imm _) .nil)))) (cN .nil)) rfl rfl
 ·have h := ifF q1 h; refine W.skip ?_; (iterate 2 refine W.seq ?_); obtain ⟨t2, b3, h⟩ := bnd1 h; refine W.pk ?_; refine .v rfl rfl (O.ldN ty29 rfl rfl rfl) ?_; refine .call (.i t2) [] 0 (isin_Asset.ok b3) rfl rfl rfl ca42 rfl rfl (cC (.agg _ _ _ _ (cC (.imm _) (cC (.imm _) (cC (.imm _) (cC (.imm _) (cC (.imm _) .nil)))))) .nil) rfl rfl rfl rfl rfl ?_; refine .a rfl rfl rfl rfl ?_; refine .nil ?_; refine W.seq ?_; refine W.pk ?_; refine .m rfl rfl rfl rfl ?_; refine .v rfl rfl (OpL.binI rfl rfl rfl rfl) ?_; refine .nil ?_; refine W.cond rfl (fun q4 => ?_) (fun q4 => ?_)
  ·have h := ifT q4 h; refine W.seq ?_; refine W.pk ?_; refine .m rfl rfl rfl rfl ?_; refine .a rfl rfl rfl rfl ?_; refine .nil ?_; refine W.ret ?_; cases h; exact leaves (.inr rfl) rfl (.imm _) (cS (.ptr _ _ _ _ _ rfl (cC (.own _ _ _ _ rfl) (cC (.own _ _ _ _ rfl) (cC (.imm _) .nil)))) (cN .nil)) rfl rfl
  ·have h := ifF q4 h; refine W.skip ?_; refine W.seq ?_; obtain ⟨t5, b6, h⟩ := bnd1 h; refine W.pk ?_; refine .m rfl rfl rfl rfl ?_; refine .v rfl rfl (O.fld fld29_0 rfl rfl rfl) ?_; refine .v rfl rfl (O.ld (y := .s x1.ISIN) ty9 rfl rfl rfl) ?_; refine .call (.tup [.i t5.1, .b t5.2]) [(0, some (.box [.own 1003, .own 1004, .b x0.made])), (1003, some (.rows 29 5 (List.map api_Asset.enc x0.l) false)), (1004, some (.rows 3 1 (List.map (encI .i64) x0.prices) false)), (0, none), (1000, none), (1001, none)] 2 (asset_Book_place.ok b6) rfl rfl rfl ca34 rfl rfl (cC (.ptr _ _ _ _ _ rfl (cC (.own _ _ _ _ rfl) (cC (.own _ _ _ _ rfl) (cC (.imm _) .nil)))) (cC (.imm _) .nil)) rfl rfl rfl rfl rfl ?_; refine .m rfl rfl rfl rfl ?_; (iterate 2 refine .v rfl rfl (OpL.extract rfl rfl rfl) ?_); (iterate 2 refine .a rfl rfl rfl rfl ?_); refine .nil ?_; refine W.seq ?_; refine W.block ?_; refine W.seq ?_; refine W.pk ?_; refine .m rfl rfl rfl rfl ?_; refine .a rfl rfl rfl rfl ?_; refine .nil ?_; refine W.cond rfl (fun q7 => ?_) (fun q7 => ?_)
   ·have h := ifT q7 h; refine W.seq ?_; refine W.pk ?_; refine .a rfl rfl rfl rfl ?_; refine .nil ?_; refine W.ret ?_; cases h; exact leaves (.inr rfl) rfl (.imm _) (cS (.ptr _ _ _ _ _ rfl (cC (.own _ _ _ _ rfl) (cC (.own _ _ _ _ rfl) (cC (.imm _) .nil)))) (cN .nil)) rfl rfl
   ·have h := ifF q7 h; refine W.seq ?_; refine W.pk ?_; refine .m rfl rfl rfl rfl ?_; refine .v rfl rfl (OpL.nilP rfl rfl rfl) ?_; refine .v rfl rfl (O.fld fld71_0 rfl rfl rfl) ?_; refine .v rfl rfl (O.ld (y := .own 1003) ty68 rfl rfl rfl) ?_; refine .v rfl rfl (O.lenO sl68 rfl rfl rfl) ?_; refine .v rfl rfl (OpL.binI rfl rfl rfl rfl) ?_; refine .a rfl rfl rfl rfl ?_; refine .nil ?_; refine W.cond rfl (fun q8 => ?_) (fun q8 => ?_)
    ·have h := ifT q8 h; refine W.seq ?_; refine W.pk ?_; refine .a rfl rfl rfl rfl ?_; refine .nil ?_; refine W.ret ?_; cases h; exact leaves (.inr rfl) rfl (.imm _) (cS (.ptr _ _ _ _ _ rfl (cC (.own _ _ _ _ rfl) (cC (.own _ _ _ _ rfl) (cC (.imm _) .nil)))) (cN .nil)) rfl rfl
    ·have h := ifF q8 h; refine W.skip ?_; refine W.seq ?_; obtain ⟨t9, b10, h⟩ := bnd1 h; refine W.dk (unm 12 [0, 0, 2, 6, 14, 0, 0, 64, 254, 511, 1023, 2047]) rfl (by kernel_rfl) ?_; (iterate 2 refine .m rfl rfl rfl rfl ?_); refine .v rfl rfl (OpL.nilP rfl rfl rfl) ?_; refine .v rfl rfl (O.fld fld71_0 rfl rfl rfl) ?_; refine .v rfl rfl (O.ld (y := .own 1003) ty68 rfl rfl rfl) ?_; refine .m rfl rfl rfl rfl ?_; refine .v rfl rfl (O.ldN ty29 rfl rfl rfl) ?_; refine .t rfl rfl (O.lit (enc := api_Asset.enc) (l := [x1]) sl68 rfl rfl rfl rfl rfl rfl rfl rfl rfl) ?_; refine .call (.own 1006) [(1006, some (.rows 29 5 (List.map api_Asset.enc t9) false)), (1003, none), (1005, none)] 1 (slices_Insert_api_Asset.ok b10) rfl rfl rfl ca43 rfl rfl (cC (.own _ _ _ _ rfl) (cC (.imm _) (cC (.own _ _ _ _ rfl) .nil))) rfl rfl rfl rfl rfl ?_; refine .v rfl rfl (OpL.nilP rfl rfl rfl) ?_; refine .v rfl rfl (O.fld fld71_0 rfl rfl rfl) ?_; refine .s rfl rfl (O.st ty68 rfl rfl rfl rfl rfl rfl rfl rfl rfl rfl (all' := [.own 1006, .own 1004, .b x0.made]) rfl) ?_; refine .nil ?_; refine ⟨by kernel_rfl, by kernel_rfl, ?_⟩; refine W.seq ?_; obtain ⟨t11, b12, h⟩ := bnd1 h; refine W.pk ?_; (iterate 2 refine .m rfl rfl rfl rfl ?_); refine .v rfl rfl (OpL.nilP rfl rfl rfl) ?_; refine .v rfl rfl (O.fld fld71_1 rfl rfl rfl) ?_; refine .v rfl rfl (O.ld (y := .own 1004) ty69 rfl rfl rfl) ?_; refine .m rfl rfl rfl rfl ?_; refine .t rfl rfl (O.lit (enc := (encI .i64)) (l := [0]) sl69 rfl rfl rfl rfl rfl rfl rfl rfl rfl) ?_; refine .call (.own 1008) [(1008, some (.rows 3 1 (List.map (encI .i64) t11) false)), (1004, none), (1007, none)] 1 (slices_Insert_int.ok b12) rfl rfl rfl ca44 rfl rfl (cC (.own _ _ _ _ rfl) (cC (.imm _) (cC (.own _ _ _ _ rfl) .nil))) rfl rfl rfl rfl rfl ?_; refine .v rfl rfl (OpL.nilP rfl rfl rfl) ?_; refine .v rfl rfl (O.fld fld71_1 rfl rfl rfl) ?_; refine .s rfl rfl (O.st ty69 rfl rfl rfl rfl rfl rfl rfl rfl rfl rfl (all' := [.own 1006, .own 1008, .b x0.made]) rfl) ?_; refine .nil ?_; refine W.seq ?_; refine W.pk ?_; refine .a rfl rfl rfl rfl ?_; refine .nil ?_; refine W.ret ?_; cases h; exact leaves (.inr rfl) rfl (.imm _) (cS (.ptr _ _ _ _ _ rfl (cC (.own _ _ _ _ rfl) (cC (.own _ _ _ _ rfl) (cC (.imm _) .nil)))) (cN .nil)) rfl rfl

noncomputable def lombardref13_Set.b0 (x0 : List lombardref13_Known) (x1 : List api_Price) (v13 : Int) (v14 : List lombardref13_Known) : Option ((Int × (List lombardref13_Known)) ⊕ (((List lombardref13_Known) × Int × Int) ⊕ (List lombardref13_Known))) :=
  if (decide (v13 < (List.length x1 : Int))) = true then
    if (0 : Int) ≤ v13 ∧ v13 < (List.length x1 : Int) then
    (lombardref13_Find.f x0 ((nth x1 v13).ISIN)).bind fun t43 =>
    if (decide (t43 < 0)) = true then
      some (.inr (.inl (x0, v13, 21)))
    else
      if (0 : Int) ≤ v13 ∧ v13 < (List.length x1 : Int) then
      if ((decide (((nth x1 v13).Price) < 1)) = false → (0 : Int) ≤ v13 ∧ v13 < (List.length x1 : Int)) then
      if ((decide (((nth x1 v13).Price) < 1)) || (decide (((nth x1 v13).Price) > 4294967296))) = true then
        some (.inr (.inl (x0, v13, 31)))
      else
        if (0 : Int) ≤ v13 ∧ v13 < (List.length x1 : Int) then
        if (0 : Int) ≤ t43 ∧ t43 < (List.length v14 : Int) then
        some (.inl ((IntKind.wrap .i64 (v13 + 1)), (List.set v14 (Int.toNat t43) (⟨((nth v14 t43).A), (nth x1 v13).Price⟩ : lombardref13_Known))))
        else none
        else none
      else none
      else none
    else none
  else
    some (.inr (.inr v14))
noncomputable def lombardref13_Set.r0 (x0 : List lombardref13_Known) (x1 : List api_Price) (s : Int × (List lombardref13_Known)) : Option ((Int × (List lombardref13_Known)) ⊕ (((List lombardref13_Known) × Int × Int) ⊕ (List lombardref13_Known))) := lombardref13_Set.b0 x0 x1 s.1 s.2
noncomputable def lombardref13_Set.f (x0 : List lombardref13_Known) (x1 : List api_Price) : Option ((List lombardref13_Known) × Int × Int) :=
  if (List.length ([] : List lombardref13_Known) + List.length x0) * 64 ≤ 140737488355328 then
  (loop (lombardref13_Set.r0 x0 x1) (0, (([] : List lombardref13_Known) ++ x0))).bind fun o38 =>
  match o38 with
  | .inl r52 => some r52
  | .inr w37 =>
    some (w37, (List.length x1 : Int), 0)
  else none
set_option maxRecDepth 100000 in
set_option maxHeartbeats 4000000 in
theorem lombardref13_Set.ok {x0 : List lombardref13_Known} {x1 : List api_Price} {r : (List lombardref13_Known) × Int × Int} (h : lombardref13_Set.f x0 x1 = some r) : Pm.Spec prog 36 [.xown 46 6 (List.map lombardref13_Known.enc x0), .imm (.row 2 (List.map api_Price.enc x1))] (.tup [.xown 46 6 (List.map lombardref13_Known.enc r.1), .imm (.val (.int .i64 r.2.1)), .imm (.val (.int .i64 r.2.2))]) [none, none] := by
 unfold lombardref13_Set.f at h; refine Pm.Spec.of_body Try.func36 rfl (by kernel_rfl) (Nat.le_of_ble_eq_true rfl) (Nat.le_of_ble_eq_true rfl) ?_; refine W.ghost (σ' := (mkSt [(0, some (.own 0)), (1, some (.imm (.row 2 (List.map api_Price.enc x1))))] [(0, some (.rows 46 6 (List.map lombardref13_Known.enc x0) false))] 1000)) (Gives.entry (.c rfl (.c rfl .n)) (.c rfl .n)) ?_; refine W.seq ?_; refine W.pk ?_; (iterate 3 refine .a rfl rfl rfl rfl ?_); refine .nil ?_; refine W.seq ?_; obtain ⟨c1, h⟩ := chk h; refine W.pk ?_; refine .t rfl rfl (O.lit (enc := lombardref13_Known.enc) (l := ([] : List lombardref13_Known)) sl31 rfl rfl rfl rfl rfl rfl rfl rfl rfl) ?_; refine .m rfl rfl rfl rfl ?_; refine .t rfl rfl (O.appO sl31 lombardref13_Known.ok c1 rfl rfl rfl rfl rfl) ?_; refine .a rfl rfl rfl rfl ?_; refine .nil ?_; (iterate 2 refine W.seq ?_); refine W.pk ?_; refine .a rfl rfl rfl rfl ?_; refine .nil ?_; obtain ⟨o38, b39, z40⟩ := bnd1 h; refine W.fork2 (out := o38) (fun (w37 : List lombardref13_Known) => mkSt [(1, some (.imm (.row 2 (List.map api_Price.enc x1)))), (7, some (.own 1001))] [(0, some (.rows 46 6 (List.map lombardref13_Known.enc x0) false)), (1001, some (.rows 46 6 (List.map lombardref13_Known.enc w37) false))] 1002) ?_ ?_
 ·clear h; refine W.block ?_; refine W.loopF (fun (s_ : Int × (List lombardref13_Known)) => mkSt [(0, some (.own 0)), (1, some (.imm (.row 2 (List.map api_Price.enc x1)))), (7, some (.own 1001)), (8, some (.i s_.1))] [(0, some (.rows 46 6 (List.map lombardref13_Known.enc x0) false)), (1001, some (.rows 46 6 (List.map lombardref13_Known.enc s_.2) false))] 1002) b39 (Gives.mkR [] (.e rfl rfl) (.e rfl rfl) rfl rfl rfl) ?_; rintro ⟨v13, v14⟩ s_ hr; have h : lombardref13_Set.b0 x0 x1 v13 v14 = some s_ := hr; unfold lombardref13_Set.b0 at h; (iterate 2 refine W.seq ?_); refine W.pk ?_; (iterate 2 refine .m rfl rfl rfl rfl ?_); refine .v rfl rfl (O.lenR sl49 rfl rfl) ?_; refine .v rfl rfl (OpL.binI rfl rfl rfl rfl) ?_; refine .nil ?_; refine W.cond rfl (fun q41 => ?_) (fun q41 => ?_)
  ·have h := ifT q41 h; refine W.skip ?_; refine W.seq ?_; refine W.block ?_; refine W.seq ?_; obtain ⟨c42, h⟩ := chk h; obtain ⟨t43, b44, h⟩ := bnd1 h; refine W.pk ?_; (iterate 3 refine .m rfl rfl rfl rfl ?_); refine .v rfl rfl (O.idx sl49 c42 rfl rfl rfl) ?_; refine .v rfl rfl (O.fld fld82_0 rfl rfl rfl) ?_; refine .v rfl rfl (O.ld (y := .s ((nth x1 v13).ISIN)) ty9 rfl rfl rfl) ?_; refine .call (.i t43) [(0, some (.rows 46 6 (List.map lombardref13_Known.enc x0) false)), (0, none)] 0 (lombardref13_Find.ok b44) rfl rfl rfl ca17 rfl rfl (cC (.own _ _ _ _ rfl) (cC (.imm _) .nil)) rfl rfl rfl rfl rfl ?_; refine .a rfl rfl rfl rfl ?_; refine .nil ?_; (iterate 2 refine W.seq ?_); refine W.pk ?_; refine .m rfl rfl rfl rfl ?_; refine .v rfl rfl (OpL.binI rfl rfl rfl rfl) ?_; refine .nil ?_; refine W.cond rfl (fun q45 => ?_) (fun q45 => ?_)
   ·have h := ifT q45 h; refine W.seq ?_; refine W.pk ?_; (iterate 2 refine .m rfl rfl rfl rfl ?_); (iterate 3 refine .a rfl rfl rfl rfl ?_); refine .nil ?_; refine W.ret ?_; cases h; refine rdR fun e_ => ?_; subst e_; have h := z40; dsimp only at h; refine fkR ?_; cases h; exact leaves (.inr rfl) rfl (.tup _ _ _ _ (cC (.own _ _ _ _ rfl) (cC (.imm _) (cC (.imm _) .nil)))) (cN (cN .nil)) rfl rfl
   ·have h := ifF q45 h; refine W.skip ?_; (iterate 2 refine W.seq ?_); obtain ⟨c46, h⟩ := chk h; obtain ⟨c47, h⟩ := chk h; refine W.fork (mkSt [(0, some (.own 0)), (1, some (.imm (.row 2 (List.map api_Price.enc x1)))), (7, some (.own 1001)), (8, some (.i v13)), (9, some (.i t43)), (43, some (.b ((decide (((nth x1 v13).Price) < 1)) || (decide (((nth x1 v13).Price) > 4294967296)))))] [(0, some (.rows 46 6 (List.map lombardref13_Known.enc x0) false)), (1001, some (.rows 46 6 (List.map lombardref13_Known.enc v14) false))] 1002) ?_ ?_
    ·refine W.cond rfl (fun q49 => ?_) (fun q49 => ?_)
     ·have h := ifT q49 h; refine W.seq ?_; refine W.pk ?_; (iterate 2 refine .m rfl rfl rfl rfl ?_); (iterate 3 refine .a rfl rfl rfl rfl ?_); refine .nil ?_; refine W.ret ?_; cases h; refine rdR fun e_ => ?_; subst e_; have h := z40; dsimp only at h; refine fkR ?_; cases h; exact leaves (.inr rfl) rfl (.tup _ _ _ _ (cC (.own _ _ _ _ rfl) (cC (.imm _) (cC (.imm _) .nil)))) (cN (cN .nil)) rfl rfl
     ·have h := ifF q49 h; refine W.skip ?_; obtain ⟨c50, h⟩ := chk h; obtain ⟨c51, h⟩ := chk h; refine W.pk ?_; (iterate 4 refine .m rfl rfl rfl rfl ?_); refine .v rfl rfl (O.idx sl49 c50 rfl rfl rfl) ?_; refine .v rfl rfl (O.fld fld82_1 rfl rfl rfl) ?_; refine .v rfl rfl (O.ld (y := .i ((nth x1 v13).Price)) ty3 rfl rfl rfl) ?_; refine .v rfl rfl (O.idxO sl31 c51 rfl rfl rfl rfl) ?_; refine .v rfl rfl (O.fld fld46_1 rfl rfl rfl) ?_; refine .s rfl rfl (O.stE (x' := (⟨((nth v14 t43).A), (nth x1 v13).Price⟩ : lombardref13_Known)) ty3 c51 rfl rfl rfl rfl rfl rfl rfl rfl rfl rfl rfl) ?_; refine .nil ?_; refine W.pk ?_; refine .m rfl rfl rfl rfl ?_; refine .v rfl rfl (OpL.binI rfl rfl rfl rfl) ?_; refine .a rfl rfl rfl rfl ?_; refine .nil ?_; cases h; exact rdN (Gives.mkR [] (.e rfl rfl) (.e rfl rfl) rfl rfl rfl)
    ·clear h; refine W.pk ?_; (iterate 2 refine .m rfl rfl rfl rfl ?_); refine .v rfl rfl (O.idx sl49 c46 rfl rfl rfl) ?_; refine .v rfl rfl (O.fld fld82_1 rfl rfl rfl) ?_; refine .v rfl rfl (O.ld (y := .i ((nth x1 v13).Price)) ty3 rfl rfl rfl) ?_; refine .v rfl rfl (OpL.binI rfl rfl rfl rfl) ?_; refine .m rfl rfl rfl rfl ?_; rcases tf (decide (((nth x1 v13).Price) < 1)) with g48 | g48
     ·(iterate 6 refine .x rfl (unmet rfl rfl rfl g48) ?_); refine .v rfl rfl (O.pickT g48 rfl rfl rfl) ?_; refine .nil ?_; exact toN (Gives.mkR [] (.r rfl rfl (.r rfl rfl (.r rfl rfl (.r rfl rfl (.r rfl rfl (.c rfl (sbb (by simp only [g48, BL])) rfl .n)))))) (.e rfl rfl) rfl rfl rfl)
     ·(iterate 2 refine .m rfl (met rfl rfl rfl g48) rfl rfl ?_); refine .v rfl (met rfl rfl rfl g48) (O.idx sl49 (c47 (by simp only [g48, BL])) rfl rfl rfl) ?_; refine .v rfl (met rfl rfl rfl g48) (O.fld fld82_1 rfl rfl rfl) ?_; refine .v rfl (met rfl rfl rfl g48) (O.ld (y := .i ((nth x1 v13).Price)) ty3 rfl rfl rfl) ?_; refine .v rfl (met rfl rfl rfl g48) (OpL.binI rfl rfl rfl rfl) ?_; refine .v rfl rfl (O.pickF g48 rfl rfl rfl) ?_; refine .nil ?_; exact toN (Gives.mkR [] (.r rfl rfl (.r rfl rfl (.r rfl rfl (.r rfl rfl (.r rfl rfl (.c rfl (sbb (by simp only [g48, BL])) rfl .n)))))) (.e rfl rfl) rfl rfl rfl)
  ·have h := ifF q41 h; refine W.exit ?_; cases h; refine rdX fun e_ => ?_; subst e_; (repeat with_reducible refine thru ?_); refine hit ?_; exact fkN (Gives.mkR [] (.e rfl rfl) (.e rfl rfl) rfl rfl rfl)
 ·intro w37 e_; subst e_; clear h; have h := z40; dsimp only at h; refine W.seq ?_; refine W.pk ?_; (iterate 2 refine .m rfl rfl rfl rfl ?_); refine .v rfl rfl (O.lenR sl49 rfl rfl) ?_; (iterate 3 refine .a rfl rfl rfl rfl ?_); refine .nil ?_; refine W.ret ?_; cases h; exact leaves (.inr rfl) rfl (.tup _ _ _ _ (cC (.own _ _ _ _ rfl) (cC (.imm _) (cC (.imm _) .nil)))) (cN (cN .nil)) rfl rfl

noncomputable def asset_Book_Set.b0 (x0 : asset_Book) (x1 : List api_Price) (v9 : Int) : Option (Int ⊕ ((Int × Int × asset_Book) ⊕ Unit)) :=
  if (decide (v9 < (List.length x1 : Int))) = true then
    if (0 : Int) ≤ v9 ∧ v9 < (List.length x1 : Int) then
    (asset_Book_place.f x0 ((nth x1 v9).ISIN)).bind fun t30 =>
    if (!t30.2) = true then
      some (.inr (.inl (v9, 21, x0)))
    else
      if ((decide (((nth x1 v9).Price) < 1)) || (decide (((nth x1 v9).Price) > 4294967296))) = true then
        some (.inr (.inl (v9, 31, x0)))
      else
        some (.inl (IntKind.wrap .i64 (v9 + 1)))
    else none
  else
    some (.inr (.inr ()))
noncomputable def asset_Book_Set.r0 (x0 : asset_Book) (x1 : List api_Price) (s : Int) : Option (Int ⊕ ((Int × Int × asset_Book) ⊕ Unit)) := asset_Book_Set.b0 x0 x1 s
noncomputable def asset_Book_Set.b1 (x1 : List api_Price) (v48 : Int) (v49 : Bool) (v50 : List api_Asset) (v51 : List Int) : Option ((Int × Bool × (List api_Asset) × (List Int)) ⊕ (Bool × (List api_Asset) × (List Int))) :=
  if (decide (v48 < (List.length x1 : Int))) = true then
    if (0 : Int) ≤ v48 ∧ v48 < (List.length x1 : Int) then
    (asset_Book_place.f (⟨v50, v51, v49⟩ : asset_Book) ((nth x1 v48).ISIN)).bind fun t68 =>
    if (0 : Int) ≤ t68.1 ∧ t68.1 < (List.length ((⟨v50, v51, v49⟩ : asset_Book).prices) : Int) then
    some (.inl ((IntKind.wrap .i64 (v48 + 1)), (⟨v50, v51, v49⟩ : asset_Book).made, (⟨v50, v51, v49⟩ : asset_Book).l, (List.set ((⟨v50, v51, v49⟩ : asset_Book).prices) (Int.toNat t68.1) ((nth x1 v48).Price))))
    else none
    else none
  else
    some (.inr (v49, v50, v51))
noncomputable def asset_Book_Set.r1 (x1 : List api_Price) (s : Int × Bool × (List api_Asset) × (List Int)) : Option ((Int × Bool × (List api_Asset) × (List Int)) ⊕ (Bool × (List api_Asset) × (List Int))) := asset_Book_Set.b1 x1 s.1 s.2.1 s.2.2.1 s.2.2.2
noncomputable def asset_Book_Set.f (x0 : asset_Book) (x1 : List api_Price) : Option (Int × Int × asset_Book) :=
  if (!x0.made) = true then
    some (0, 3, x0)
  else
    (loop (asset_Book_Set.r0 x0 x1) 0).bind fun o25 =>
    match o25 with
    | .inl r35 => some r35
    | .inr w24 =>
      (loop (asset_Book_Set.r1 x1) (0, x0.made, x0.l, x0.prices)).bind fun o63 =>
      some ((List.length x1 : Int), 0, (⟨o63.2.1, o63.2.2, o63.1⟩ : asset_Book))
set_option maxRecDepth 100000 in
set_option maxHeartbeats 4000000 in
theorem asset_Book_Set.ok {x0 : asset_Book} {x1 : List api_Price} {r : Int × Int × asset_Book} (h : asset_Book_Set.f x0 x1 = some r) : Pm.Spec prog 30 [.xbox [.xown 29 5 (List.map api_Asset.enc x0.l), .xown 3 1 (List.map (encI .i64) x0.prices), .imm (.val (.bool x0.made))], .imm (.row 2 (List.map api_Price.enc x1))] (.tup [.imm (.val (.int .i64 r.1)), .imm (.val (.int .i64 r.2.1))]) [some (.xbox [.xown 29 5 (List.map api_Asset.enc r.2.2.l), .xown 3 1 (List.map (encI .i64) r.2.2.prices), .imm (.val (.bool r.2.2.made))]), none] := by
 unfold asset_Book_Set.f at h; refine Pm.Spec.of_body Try.func30 rfl (by kernel_rfl) (Nat.le_of_ble_eq_true rfl) (Nat.le_of_ble_eq_true rfl) ?_; refine W.ghost (σ' := (mkSt [(0, some (.ptr 0 0)), (1, some (.imm (.row 2 (List.map api_Price.enc x1))))] [(0, some (.box [.own 1, .own 2, .b x0.made])), (1, some (.rows 29 5 (List.map api_Asset.enc x0.l) false)), (2, some (.rows 3 1 (List.map (encI .i64) x0.prices) false))] 1000)) (Gives.entry (.c rfl (.c rfl .n)) (.c rfl (.c rfl (.c rfl .n)))) ?_; refine W.ghost (σ' := (mkSt [(0, some (.ptr 0 0)), (1, some (.imm (.row 2 (List.map api_Price.enc x1))))] [(0, some (.box [.own 1000, .own 1001, .b x0.made])), (1000, some (.rows 29 5 (List.map api_Asset.enc x0.l) false)), (1001, some (.rows 3 1 (List.map (encI .i64) x0.prices) false))] 1002)) (Gives.mkR [(1000, 1), (1001, 2)] (.e rfl rfl) (.e rfl rfl) rfl rfl rfl) ?_; refine W.seq ?_; refine W.pk ?_; (iterate 2 refine .a rfl rfl rfl rfl ?_); refine .nil ?_; (iterate 2 refine W.seq ?_); refine W.pk ?_; refine .m rfl rfl rfl rfl ?_; refine .v rfl rfl (OpL.eqP rfl u30 rfl rfl rfl) ?_; refine .m rfl rfl rfl rfl ?_; refine .m rfl (met rfl rfl rfl rfl) rfl rfl ?_; refine .v rfl (met rfl rfl rfl rfl) (OpL.nilP rfl rfl rfl) ?_; refine .v rfl (met rfl rfl rfl rfl) (O.fld fld71_2 rfl rfl rfl) ?_; refine .v rfl (met rfl rfl rfl rfl) (O.ld (y := .b x0.made) ty4 rfl rfl rfl) ?_; refine .v rfl (met rfl rfl rfl rfl) (OpL.unV rfl rfl rfl) ?_; refine .v rfl rfl (O.pickF rfl rfl rfl rfl) ?_; refine .nil ?_; refine W.cond rfl (fun q1 => ?_) (fun q1 => ?_)
 ·have h := ifT q1 h; refine W.seq ?_; refine W.pk ?_; (iterate 2 refine .a rfl rfl rfl rfl ?_); refine .nil ?_; refine W.ret ?_; cases h; exact leaves (.inr rfl) rfl (.tup _ _ _ _ (cC (.imm _) (cC (.imm _) .nil))) (cS (.ptr _ _ _ _ _ rfl (cC (.own _ _ _ _ rfl) (cC (.own _ _ _ _ rfl) (cC (.imm _) .nil)))) (cN .nil)) rfl rfl
 ·have h := ifF q1 h; refine W.skip ?_; (iterate 2 refine W.seq ?_); refine W.pk ?_; refine .m rfl rfl rfl rfl ?_; refine .v rfl rfl (O.lenR sl49 rfl rfl) ?_; refine .m rfl rfl rfl rfl ?_; refine .nil ?_; obtain ⟨o25, b26, z27⟩ := bnd1 h; refine W.fork2 (out := o25) (fun (w24 : Unit) => mkSt [(0, some (.ptr 0 0)), (1, some (.imm (.row 2 (List.map api_Price.enc x1))))] [(0, some (.box [.own 1000, .own 1001, .b x0.made])), (1000, some (.rows 29 5 (List.map api_Asset.enc x0.l) false)), (1001, some (.rows 3 1 (List.map (encI .i64) x0.prices) false))] 1002) ?_ ?_
  ·clear h; refine W.block ?_; refine W.loopF (fun (s_ : Int) => mkSt [(0, some (.ptr 0 0)), (1, some (.imm (.row 2 (List.map api_Price.enc x1)))), (23, some (.imm (.row 2 (List.map api_Price.enc x1)))), (24, some (.i (List.length x1 : Int))), (25, some (.i s_))] [(0, some (.box [.own 1000, .own 1001, .b x0.made])), (1000, some (.rows 29 5 (List.map api_Asset.enc x0.l) false)), (1001, some (.rows 3 1 (List.map (encI .i64) x0.prices) false))] 1002) b26 (Gives.mkR [] (.e rfl rfl) (.e rfl rfl) rfl rfl rfl) ?_; rintro v9 s_ hr; have h : asset_Book_Set.b0 x0 x1 v9 = some s_ := hr; unfold asset_Book_Set.b0 at h; refine W.seq ?_; refine W.pk ?_; refine .v rfl rfl (OpL.binI rfl rfl rfl rfl) ?_; refine .nil ?_; refine W.seq ?_; refine W.cond rfl (fun q28 => ?_) (fun q28 => ?_)
   ·have h := ifT q28 h; refine W.skip ?_; refine W.seq ?_; refine W.block ?_; refine W.seq ?_; obtain ⟨c29, h⟩ := chk h; refine W.pk ?_; refine .m rfl rfl rfl rfl ?_; refine .v rfl rfl (O.idx sl49 c29 rfl rfl rfl) ?_; refine .v rfl rfl (O.ldN ty82 rfl rfl rfl) ?_; refine .t rfl rfl (O.alloc z82 rfl) ?_; refine .a rfl rfl rfl rfl ?_; refine .s rfl rfl (O.st ty82 rfl rfl rfl rfl rfl rfl rfl rfl rfl rfl (all' := [.s ((nth x1 v9).ISIN), .i ((nth x1 v9).Price)]) rfl) ?_; refine .nil ?_; (iterate 2 refine W.seq ?_); obtain ⟨t30, b31, h⟩ := bnd1 h; refine W.pk ?_; refine .m rfl rfl rfl rfl ?_; refine .v rfl rfl (O.fld fld82_0 rfl rfl rfl) ?_; refine .v rfl rfl (O.ld (y := .s ((nth x1 v9).ISIN)) ty9 rfl rfl rfl) ?_; refine .call (.tup [.i t30.1, .b t30.2]) [(0, some (.box [.own 1003, .own 1004, .b x0.made])), (1003, some (.rows 29 5 (List.map api_Asset.enc x0.l) false)), (1004, some (.rows 3 1 (List.map (encI .i64) x0.prices) false)), (0, none), (1000, none), (1001, none)] 2 (asset_Book_place.ok b31) rfl rfl rfl ca34 rfl rfl (cC (.ptr _ _ _ _ _ rfl (cC (.own _ _ _ _ rfl) (cC (.own _ _ _ _ rfl) (cC (.imm _) .nil)))) (cC (.imm _) .nil)) rfl rfl rfl rfl rfl ?_; refine .m rfl rfl rfl rfl ?_; (iterate 2 refine .v rfl rfl (OpL.extract rfl rfl rfl) ?_); (iterate 2 refine .a rfl rfl rfl rfl ?_); refine .nil ?_; refine W.seq ?_; refine W.pk ?_; refine .m rfl rfl rfl rfl ?_; refine .v rfl rfl (OpL.unV rfl rfl rfl) ?_; refine .nil ?_; refine W.cond rfl (fun q32 => ?_) (fun q32 => ?_)
    ·have h := ifT q32 h; refine W.seq ?_; refine W.pk ?_; refine .m rfl rfl rfl rfl ?_; (iterate 2 refine .a rfl rfl rfl rfl ?_); refine .nil ?_; refine W.ret ?_; cases h; refine rdR fun e_ => ?_; subst e_; have h := z27; dsimp only at h; refine fkR ?_; cases h; exact leaves (.inr rfl) rfl (.tup _ _ _ _ (cC (.imm _) (cC (.imm _) .nil))) (cS (.ptr _ _ _ _ _ rfl (cC (.own _ _ _ _ rfl) (cC (.own _ _ _ _ rfl) (cC (.imm _) .nil)))) (cN .nil)) rfl rfl
    ·have h := ifF q32 h; refine W.skip ?_; refine W.seq ?_; refine W.fork (mkSt [(0, some (.ptr 0 0)), (1, some (.imm (.row 2 (List.map api_Price.enc x1)))), (6, some (.i v9)), (23, some (.imm (.row 2 (List.map api_Price.enc x1)))), (24, some (.i (List.length x1 : Int))), (25, some (.i v9)), (47, some (.b ((decide (((nth x1 v9).Price) < 1)) || (decide (((nth x1 v9).Price) > 4294967296)))))] [(0, some (.box [.own 1003, .own 1004, .b x0.made])), (1003, some (.rows 29 5 (List.map api_Asset.enc x0.l) false)), (1004, some (.rows 3 1 (List.map (encI .i64) x0.prices) false))] 1005) ?_ ?_
     ·refine W.cond rfl (fun q34 => ?_) (fun q34 => ?_)
      ·have h := ifT q34 h; refine W.seq ?_; refine W.pk ?_; refine .m rfl rfl rfl rfl ?_; (iterate 2 refine .a rfl rfl rfl rfl ?_); refine .nil ?_; refine W.ret ?_; cases h; refine rdR fun e_ => ?_; subst e_; have h := z27; dsimp only at h; refine fkR ?_; cases h; exact leaves (.inr rfl) rfl (.tup _ _ _ _ (cC (.imm _) (cC (.imm _) .nil))) (cS (.ptr _ _ _ _ _ rfl (cC (.own _ _ _ _ rfl) (cC (.own _ _ _ _ rfl) (cC (.imm _) .nil)))) (cN .nil)) rfl rfl
      ·have h := ifF q34 h; refine W.skip ?_; refine W.pk ?_; refine .v rfl rfl (OpL.binI rfl rfl rfl rfl) ?_; refine .m rfl rfl rfl rfl ?_; refine .nil ?_; cases h; exact rdN (Gives.mkR [(1000, 1003), (1001, 1004)] (.e rfl rfl) (.e rfl rfl) rfl rfl rfl)
     ·clear h; refine W.pk ?_; refine .v rfl rfl (O.fld fld82_1 rfl rfl rfl) ?_; refine .v rfl rfl (O.ld (y := .i ((nth x1 v9).Price)) ty3 rfl rfl rfl) ?_; refine .v rfl rfl (OpL.binI rfl rfl rfl rfl) ?_; refine .m rfl rfl rfl rfl ?_; rcases tf (decide (((nth x1 v9).Price) < 1)) with g33 | g33
      ·(iterate 3 refine .x rfl (unmet rfl rfl rfl g33) ?_); refine .v rfl rfl (O.pickT g33 rfl rfl rfl) ?_; refine .nil ?_; exact toN (Gives.mkR [] (.r rfl rfl (.r rfl rfl (.r rfl rfl (.r rfl rfl (.r rfl rfl (.r rfl rfl (.c rfl (sbb (by simp only [g33, BL])) rfl .n))))))) (.e rfl rfl) rfl rfl rfl)
      ·refine .v rfl (met rfl rfl rfl g33) (O.fld fld82_1 rfl rfl rfl) ?_; refine .v rfl (met rfl rfl rfl g33) (O.ld (y := .i ((nth x1 v9).Price)) ty3 rfl rfl rfl) ?_; refine .v rfl (met rfl rfl rfl g33) (OpL.binI rfl rfl rfl rfl) ?_; refine .v rfl rfl (O.pickF g33 rfl rfl rfl) ?_; refine .nil ?_; exact toN (Gives.mkR [] (.r rfl rfl (.r rfl rfl (.r rfl rfl (.r rfl rfl (.r rfl rfl (.r rfl rfl (.c rfl (sbb (by simp only [g33, BL])) rfl .n))))))) (.e rfl rfl) rfl rfl rfl)
   ·have h := ifF q28 h; refine W.exit ?_; cases h; refine rdX fun e_ => ?_; subst e_; (repeat with_reducible refine thru ?_); refine hit ?_; exact fkN (Gives.mkR [] (.e rfl rfl) (.e rfl rfl) rfl rfl rfl)
  ·intro w24 e_; subst e_; clear h; have h := z27; dsimp only at h; (iterate 2 refine W.seq ?_); refine W.pk ?_; refine .m rfl rfl rfl rfl ?_; refine .v rfl rfl (O.lenR sl49 rfl rfl) ?_; refine .m rfl rfl rfl rfl ?_; refine .nil ?_; obtain ⟨o63, b64, h⟩ := bnd1 h; refine W.fork (mkSt [(1, some (.imm (.row 2 (List.map api_Price.enc x1))))] [(0, some (.box [.own 1000, .own 1001, .b o63.1])), (1000, some (.rows 29 5 (List.map api_Asset.enc o63.2.1) false)), (1001, some (.rows 3 1 (List.map (encI .i64) o63.2.2) false))] 1002) ?_ ?_
   ·refine W.seq ?_; refine W.pk ?_; refine .m rfl rfl rfl rfl ?_; refine .v rfl rfl (O.lenR sl49 rfl rfl) ?_; (iterate 2 refine .a rfl rfl rfl rfl ?_); refine .nil ?_; refine W.ret ?_; cases h; exact leaves (.inr rfl) rfl (.tup _ _ _ _ (cC (.imm _) (cC (.imm _) .nil))) (cS (.ptr _ _ _ _ _ rfl (cC (.own _ _ _ _ rfl) (cC (.own _ _ _ _ rfl) (cC (.imm _) .nil)))) (cN .nil)) rfl rfl
   ·clear h; refine W.block ?_; refine W.loopF (fun (s_ : Int × Bool × (List api_Asset) × (List Int)) => mkSt [(0, some (.ptr 0 0)), (1, some (.imm (.row 2 (List.map api_Price.enc x1)))), (50, some (.imm (.row 2 (List.map api_Price.enc x1)))), (51, some (.i (List.length x1 : Int))), (52, some (.i s_.1))] [(0, some (.box [.own 1000, .own 1001, .b s_.2.1])), (1000, some (.rows 29 5 (List.map api_Asset.enc s_.2.2.1) false)), (1001, some (.rows 3 1 (List.map (encI .i64) s_.2.2.2) false))] 1002) b64 (Gives.mkR [] (.e rfl rfl) (.e rfl rfl) rfl rfl rfl) ?_; rintro ⟨v48, v49, v50, v51⟩ s_ hr; have h : asset_Book_Set.b1 x1 v48 v49 v50 v51 = some s_ := hr; unfold asset_Book_Set.b1 at h; refine W.seq ?_; refine W.pk ?_; refine .v rfl rfl (OpL.binI rfl rfl rfl rfl) ?_; refine .nil ?_; refine W.seq ?_; refine W.cond rfl (fun q66 => ?_) (fun q66 => ?_)
    ·have h := ifT q66 h; refine W.skip ?_; refine W.seq ?_; refine W.block ?_; refine W.seq ?_; obtain ⟨c67, h⟩ := chk h; refine W.pk ?_; refine .v rfl rfl (O.idx sl49 c67 rfl rfl rfl) ?_; refine .v rfl rfl (O.ldN ty82 rfl rfl rfl) ?_; refine .t rfl rfl (O.alloc z82 rfl) ?_; refine .s rfl rfl (O.st ty82 rfl rfl rfl rfl rfl rfl rfl rfl rfl rfl (all' := [.s ((nth x1 v48).ISIN), .i ((nth x1 v48).Price)]) rfl) ?_; refine .nil ?_; refine W.seq ?_; obtain ⟨t68, b69, h⟩ := bnd1 h; refine W.pk ?_; refine .m rfl rfl rfl rfl ?_; refine .v rfl rfl (O.fld fld82_0 rfl rfl rfl) ?_; refine .v rfl rfl (O.ld (y := .s ((nth x1 v48).ISIN)) ty9 rfl rfl rfl) ?_; refine .call (.tup [.i t68.1, .b t68.2]) [(0, some (.box [.own 1003, .own 1004, .b ((⟨v50, v51, v49⟩ : asset_Book).made)])), (1003, some (.rows 29 5 (List.map api_Asset.enc ((⟨v50, v51, v49⟩ : asset_Book).l)) false)), (1004, some (.rows 3 1 (List.map (encI .i64) ((⟨v50, v51, v49⟩ : asset_Book).prices)) false)), (0, none), (1000, none), (1001, none)] 2 (asset_Book_place.ok b69) rfl rfl rfl ca34 rfl rfl (cC (.ptr _ _ _ _ _ rfl (cC (.own _ _ _ _ rfl) (cC (.own _ _ _ _ rfl) (cC (.imm _) .nil)))) (cC (.imm _) .nil)) rfl rfl rfl rfl rfl ?_; refine .m rfl rfl rfl rfl ?_; (iterate 2 refine .v rfl rfl (OpL.extract rfl rfl rfl) ?_); (iterate 2 refine .a rfl rfl rfl rfl ?_); refine .nil ?_; obtain ⟨c70, h⟩ := chk h; refine W.dk (unm 9 [0, 1, 3, 7, 0, 0, 32, 127, 255]) rfl (by kernel_rfl) ?_; refine .m rfl rfl rfl rfl ?_; refine .v rfl rfl (OpL.nilP rfl rfl rfl) ?_; refine .v rfl rfl (O.fld fld71_1 rfl rfl rfl) ?_; refine .v rfl rfl (O.ld (y := .own 1004) ty69 rfl rfl rfl) ?_; refine .m rfl rfl rfl rfl ?_; refine .v rfl rfl (O.fld fld82_1 rfl rfl rfl) ?_; refine .v rfl rfl (O.ld (y := .i ((nth x1 v48).Price)) ty3 rfl rfl rfl) ?_; refine .v rfl rfl (O.idxO sl69 c70 rfl rfl rfl rfl) ?_; refine .s rfl rfl (O.stE (x' := (nth x1 v48).Price) ty3 c70 rfl rfl rfl rfl rfl rfl rfl rfl rfl rfl rfl) ?_; refine .nil ?_; refine ⟨by kernel_rfl, by kernel_rfl, ?_⟩; refine W.pk ?_; refine .v rfl rfl (OpL.binI rfl rfl rfl rfl) ?_; refine .m rfl rfl rfl rfl ?_; refine .nil ?_; cases h; exact rdN (Gives.mkR [(1000, 1003), (1001, 1004)] (.e rfl rfl) (.e rfl rfl) rfl rfl rfl)
    ·have h := ifF q66 h; refine W.exit ?_; cases h; refine rdX fun e_ => ?_; subst e_; (repeat with_reducible refine thru ?_); refine hit ?_; exact toN (Gives.mkR [] (.r rfl rfl .n) (.e rfl rfl) rfl rfl rfl)

noncomputable def lombardlaw13_does.f (x0 : asset_Book) (x1 : List lombardref13_Known) (x2 : lombardlaw13_Act) : Option (Bool × asset_Book × (List lombardref13_Known)) :=
  if (x2.Kind == 0) = true then
    (lombardref13_Add.f x1 x2.Asset).bind fun t2 =>
    (asset_Book_Add.f x0 x2.Asset).bind fun t4 =>
    some ((t4.1 == t2.2), t4.2, t2.1)
  else
    (lombardref13_Set.f x1 x2.Prices).bind fun t6 =>
    (asset_Book_Set.f x0 x2.Prices).bind fun t8 =>
    some (((t6.2.1 == t8.1) && (t8.2.1 == t6.2.2)), t8.2.2, t6.1)
set_option maxRecDepth 100000 in
set_option maxHeartbeats 4000000 in
theorem lombardlaw13_does.ok {x0 : asset_Book} {x1 : List lombardref13_Known} {x2 : lombardlaw13_Act} {r : Bool × asset_Book × (List lombardref13_Known)} (h : lombardlaw13_does.f x0 x1 x2 = some r) : Pm.Spec prog 21 [.xbox [.xown 29 5 (List.map api_Asset.enc x0.l), .xown 3 1 (List.map (encI .i64) x0.prices), .imm (.val (.bool x0.made))], .xbox [.xown 46 6 (List.map lombardref13_Known.enc x1)], .agg [.imm (.val (.int .i64 x2.Kind)), .imm (.val (.string (tx x2.Asset.ISIN))), .imm (.val (.int .i64 x2.Asset.Issuer)), .imm (.val (.int .i64 x2.Asset.Rating)), .imm (.val (.int .i64 x2.Asset.Maturity)), .imm (.val (.string (tx x2.Asset.Currency))), .imm (.row 2 (List.map api_Price.enc x2.Prices))]] (.imm (.val (.bool r.1))) [some (.xbox [.xown 29 5 (List.map api_Asset.enc r.2.1.l), .xown 3 1 (List.map (encI .i64) r.2.1.prices), .imm (.val (.bool r.2.1.made))]), some (.xbox [.xown 46 6 (List.map lombardref13_Known.enc r.2.2)]), none] := by
 unfold lombardlaw13_does.f at h; refine Pm.Spec.of_body Try.func21 rfl (by kernel_rfl) (Nat.le_of_ble_eq_true rfl) (Nat.le_of_ble_eq_true rfl) ?_; refine W.ghost (σ' := (mkSt [(0, some (.ptr 0 0)), (1, some (.ptr 3 0)), (2, some (.agg (lombardlaw13_Act.av x2)))] [(0, some (.box [.own 1, .own 2, .b x0.made])), (1, some (.rows 29 5 (List.map api_Asset.enc x0.l) false)), (2, some (.rows 3 1 (List.map (encI .i64) x0.prices) false)), (3, some (.box [.own 4])), (4, some (.rows 46 6 (List.map lombardref13_Known.enc x1) false))] 1000)) (Gives.entry (.c rfl (.c rfl (.c rfl .n))) (.c rfl (.c rfl (.c rfl (.c rfl (.c rfl .n)))))) ?_; refine W.ghost (σ' := (mkSt [(0, some (.ptr 0 0)), (1, some (.ptr 3 0)), (2, some (.agg (lombardlaw13_Act.av x2)))] [(0, some (.box [.own 1000, .own 1001, .b x0.made])), (3, some (.box [.own 1002])), (1000, some (.rows 29 5 (List.map api_Asset.enc x0.l) false)), (1001, some (.rows 3 1 (List.map (encI .i64) x0.prices) false)), (1002, some (.rows 46 6 (List.map lombardref13_Known.enc x1) false))] 1003)) (Gives.mkR [(1000, 1), (1001, 2), (1002, 4)] (.e rfl rfl) (.e rfl rfl) rfl rfl rfl) ?_; refine W.seq ?_; refine W.pk ?_; refine .t rfl rfl (O.box rfl rfl rfl rfl rfl) ?_; refine .a rfl rfl rfl rfl ?_; refine .nil ?_; (iterate 2 refine W.seq ?_); refine W.pk ?_; refine .v rfl rfl (O.fld fld51_0 rfl rfl rfl) ?_; refine .v rfl rfl (O.ld (y := .i x2.Kind) ty3 rfl rfl rfl) ?_; refine .v rfl rfl (OpL.binI rfl rfl rfl rfl) ?_; refine .nil ?_; refine W.cond rfl (fun q1 => ?_) (fun q1 => ?_)
 ·have h := ifT q1 h; refine W.seq ?_; obtain ⟨t2, b3, h⟩ := bnd1 h; refine W.dk (unm 11 [0, 1, 3, 0, 8, 31, 63, 127, 127, 255, 1023]) rfl (by kernel_rfl) ?_; refine .m rfl rfl rfl rfl ?_; refine .v rfl rfl (OpL.nilP rfl rfl rfl) ?_; refine .v rfl rfl (O.ld (y := .own 1002) ty31 rfl rfl rfl) ?_; refine .v rfl rfl (O.fld fld51_1 rfl rfl rfl) ?_; refine .v rfl rfl (O.ldN ty29 rfl rfl rfl) ?_; refine .call (.tup [.own 1004, .i t2.2]) [(1004, some (.rows 46 6 (List.map lombardref13_Known.enc t2.1) false)), (1002, none)] 1 (lombardref13_Add.ok b3) rfl rfl rfl ca35 rfl rfl (cC (.own _ _ _ _ rfl) (cC (.agg _ _ _ _ (cC (.imm _) (cC (.imm _) (cC (.imm _) (cC (.imm _) (cC (.imm _) .nil)))))) .nil)) rfl rfl rfl rfl rfl ?_; refine .m rfl rfl rfl rfl ?_; (iterate 2 refine .v rfl rfl (OpL.extract rfl rfl rfl) ?_); (iterate 2 refine .a rfl rfl rfl rfl ?_); refine .nil ?_; refine ⟨by kernel_rfl, by kernel_rfl, ?_⟩; refine W.seq ?_; refine W.pk ?_; (iterate 2 refine .m rfl rfl rfl rfl ?_); refine .v rfl rfl (OpL.nilP rfl rfl rfl) ?_; refine .s rfl rfl (O.st ty31 rfl rfl rfl rfl rfl rfl rfl rfl rfl rfl (all' := [.own 1004]) rfl) ?_; refine .nil ?_; refine W.seq ?_; obtain ⟨t4, b5, h⟩ := bnd1 h; refine W.pk ?_; refine .m rfl rfl rfl rfl ?_; refine .v rfl rfl (O.fld fld51_1 rfl rfl rfl) ?_; refine .v rfl rfl (O.ldN ty29 rfl rfl rfl) ?_; refine .call (.i t4.1) [(0, some (.box [.own 1005, .own 1006, .b t4.2.made])), (1005, some (.rows 29 5 (List.map api_Asset.enc t4.2.l) false)), (1006, some (.rows 3 1 (List.map (encI .i64) t4.2.prices) false)), (0, none), (1000, none), (1001, none)] 2 (asset_Book_Add.ok b5) rfl rfl rfl ca29 rfl rfl (cC (.ptr _ _ _ _ _ rfl (cC (.own _ _ _ _ rfl) (cC (.own _ _ _ _ rfl) (cC (.imm _) .nil)))) (cC (.agg _ _ _ _ (cC (.imm _) (cC (.imm _) (cC (.imm _) (cC (.imm _) (cC (.imm _) .nil)))))) .nil)) rfl rfl rfl rfl rfl ?_; refine .m rfl rfl rfl rfl ?_; refine .v rfl rfl (OpL.binI rfl rfl rfl rfl) ?_; refine .a rfl rfl rfl rfl ?_; refine .nil ?_; refine W.ret ?_; cases h; exact leaves (.inr rfl) rfl (.imm _) (cS (.ptr _ _ _ _ _ rfl (cC (.own _ _ _ _ rfl) (cC (.own _ _ _ _ rfl) (cC (.imm _) .nil)))) (cS (.ptr _ _ _ _ _ rfl (cC (.own _ _ _ _ rfl) .nil)) (cN .nil))) rfl rfl
 ·have h := ifF q1 h; refine W.skip ?_; refine W.seq ?_; obtain ⟨t6, b7, h⟩ := bnd1 h; refine W.dk (unm 13 [0, 1, 3, 0, 8, 31, 63, 127, 127, 127, 255, 1535, 4095]) rfl (by kernel_rfl) ?_; refine .m rfl rfl rfl rfl ?_; refine .v rfl rfl (OpL.nilP rfl rfl rfl) ?_; refine .v rfl rfl (O.ld (y := .own 1002) ty31 rfl rfl rfl) ?_; refine .v rfl rfl (O.fld fld51_2 rfl rfl rfl) ?_; refine .v rfl rfl (O.ld (y := .imm (.row 2 (List.map api_Price.enc x2.Prices))) ty49 rfl rfl rfl) ?_; refine .call (.tup [.own 1004, .i t6.2.1, .i t6.2.2]) [(1004, some (.rows 46 6 (List.map lombardref13_Known.enc t6.1) false)), (1002, none)] 1 (lombardref13_Set.ok b7) rfl rfl rfl ca36 rfl rfl (cC (.own _ _ _ _ rfl) (cC (.imm _) .nil)) rfl rfl rfl rfl rfl ?_; refine .m rfl rfl rfl rfl ?_; (iterate 3 refine .v rfl rfl (OpL.extract rfl rfl rfl) ?_); (iterate 3 refine .a rfl rfl rfl rfl ?_); refine .nil ?_; refine ⟨by kernel_rfl, by kernel_rfl, ?_⟩; refine W.seq ?_; obtain ⟨t8, b9, h⟩ := bnd1 h; refine W.pk ?_; refine .m rfl rfl rfl rfl ?_; refine .v rfl rfl (O.fld fld51_2 rfl rfl rfl) ?_; refine .v rfl rfl (O.ld (y := .imm (.row 2 (List.map api_Price.enc x2.Prices))) ty49 rfl rfl rfl) ?_; refine .call (.tup [.i t8.1, .i t8.2.1]) [(0, some (.box [.own 1005, .own 1006, .b t8.2.2.made])), (1005, some (.rows 29 5 (List.map api_Asset.enc t8.2.2.l) false)), (1006, some (.rows 3 1 (List.map (encI .i64) t8.2.2.prices) false)), (0, none), (1000, none), (1001, none)] 2 (asset_Book_Set.ok b9) rfl rfl rfl ca30 rfl rfl (cC (.ptr _ _ _ _ _ rfl (cC (.own _ _ _ _ rfl) (cC (.own _ _ _ _ rfl) (cC (.imm _) .nil)))) (cC (.imm _) .nil)) rfl rfl rfl rfl rfl ?_; refine .m rfl rfl rfl rfl ?_; (iterate 2 refine .v rfl rfl (OpL.extract rfl rfl rfl) ?_); (iterate 2 refine .a rfl rfl rfl rfl ?_); refine .nil ?_; refine W.seq ?_; refine W.pk ?_; (iterate 2 refine .m rfl rfl rfl rfl ?_); refine .v rfl rfl (OpL.nilP rfl rfl rfl) ?_; refine .s rfl rfl (O.st ty31 rfl rfl rfl rfl rfl rfl rfl rfl rfl rfl (all' := [.own 1004]) rfl) ?_; refine .nil ?_; refine W.seq ?_; refine W.fork (mkSt [(6, some (.b ((t6.2.1 == t8.1) && (t8.2.1 == t6.2.2))))] [(0, some (.box [.own 1005, .own 1006, .b t8.2.2.made])), (3, some (.box [.own 1004])), (1004, some (.rows 46 6 (List.map lombardref13_Known.enc t6.1) false)), (1005, some (.rows 29 5 (List.map api_Asset.enc t8.2.2.l) false)), (1006, some (.rows 3 1 (List.map (encI .i64) t8.2.2.prices) false))] 1007) ?_ ?_
  ·refine W.ret ?_; cases h; exact leaves (.inr rfl) rfl (.imm _) (cS (.ptr _ _ _ _ _ rfl (cC (.own _ _ _ _ rfl) (cC (.own _ _ _ _ rfl) (cC (.imm _) .nil)))) (cS (.ptr _ _ _ _ _ rfl (cC (.own _ _ _ _ rfl) .nil)) (cN .nil))) rfl rfl
  ·clear h; refine W.pk ?_; (iterate 2 refine .m rfl rfl rfl rfl ?_); refine .v rfl rfl (OpL.binI rfl rfl rfl rfl) ?_; refine .m rfl rfl rfl rfl ?_; rcases tf (t6.2.1 == t8.1) with g10 | g10
   ·(iterate 2 refine .m rfl (met rfl rfl rfl g10) rfl rfl ?_); refine .v rfl (met rfl rfl rfl g10) (OpL.binI rfl rfl rfl rfl) ?_; refine .v rfl rfl (O.pickT g10 rfl rfl rfl) ?_; refine .a rfl rfl rfl rfl ?_; refine .nil ?_; exact toN (Gives.mkR [] (.c rfl (sbb (by simp only [g10, BL])) rfl .n) (.e rfl rfl) rfl rfl rfl)
   ·(iterate 3 refine .x rfl (unmet rfl rfl rfl g10) ?_); refine .v rfl rfl (O.pickF g10 rfl rfl rfl) ?_; refine .a rfl rfl rfl rfl ?_; refine .nil ?_; exact toN (Gives.mkR [] (.c rfl (sbb (by simp only [g10, BL])) rfl .n) (.e rfl rfl) rfl rfl rfl)
end Go.Proofs.Ytkcjlpiaaklnkaa
