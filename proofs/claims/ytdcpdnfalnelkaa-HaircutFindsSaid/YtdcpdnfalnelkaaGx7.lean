/- Shows what functions of the program come to, each as a plain function: written by a program of the author's for this claim. -/
import Derived.Test.YtdcpdnfalnelkaaGx6
namespace Go.Proofs.Ytdcpdnfalnelkaa
open Go Go.Pm
set_option linter.unusedVariables false
set_option linter.unusedSimpArgs false
noncomputable def lombardref13_Set.b0 (x0 : List lombardref13_Known) (x1 : List api_Price) (v13 : Int) (v14 : List lombardref13_Known) : Option ((Int × (List lombardref13_Known)) ⊕ (((List lombardref13_Known) × Int × Int) ⊕ (List lombardref13_Known))) :=
  if (decide (v13 < (List.length x1 : Int))) = true then
    if (0 : Int) ≤ v13 ∧ v13 < (List.length x1 : Int) then
    (lombardref13_Find.f x0 ((nth x1 v13).ISIN)).bind fun t43 =>
    if (decide (t43 < 0)) = true then
      some (.inr (.inl (x0, v13, 21)))
    else
      if (0 : Int) ≤ v13 ∧ v13 < (List.length x1 : Int) then
      if ((decide (((nth x1 v13).Price) < 1)) = false → (0 : Int) ≤ v13 ∧ v13 < (List.length x1 : Int)) then
      if ((decide (((nth x1 v13).Price) < 1)) || (decide (((nth x1 v13).Price) > 4294967296))) = true then
        some (.inr (.inl (x0, v13, 31)))
      else
        if (0 : Int) ≤ v13 ∧ v13 < (List.length x1 : Int) then
        if (0 : Int) ≤ t43 ∧ t43 < (List.length v14 : Int) then
        some (.inl ((IntKind.wrap .i64 (v13 + 1)), (List.set v14 (Int.toNat t43) (⟨((nth v14 t43).A), (nth x1 v13).Price⟩ : lombardref13_Known))))
        else none
        else none
      else none
      else none
    else none
  else
    some (.inr (.inr v14))
noncomputable def lombardref13_Set.r0 (x0 : List lombardref13_Known) (x1 : List api_Price) (s : Int × (List lombardref13_Known)) : Option ((Int × (List lombardref13_Known)) ⊕ (((List lombardref13_Known) × Int × Int) ⊕ (List lombardref13_Known))) := lombardref13_Set.b0 x0 x1 s.1 s.2
noncomputable def lombardref13_Set.f (x0 : List lombardref13_Known) (x1 : List api_Price) : Option ((List lombardref13_Known) × Int × Int) :=
  if (List.length ([] : List lombardref13_Known) + List.length x0) * 64 ≤ 140737488355328 then
  (loop (lombardref13_Set.r0 x0 x1) (0, (([] : List lombardref13_Known) ++ x0))).bind fun o38 =>
  match o38 with
  | .inl r52 => some r52
  | .inr w37 =>
    some (w37, (List.length x1 : Int), 0)
  else none
set_option maxRecDepth 100000 in
set_option maxHeartbeats 4000000 in
theorem lombardref13_Set.ok {x0 : List lombardref13_Known} {x1 : List api_Price} {r : (List lombardref13_Known) × Int × Int} (h : lombardref13_Set.f x0 x1 = some r) : Pm.Spec prog 30 [.imm (.row 6 (List.map lombardref13_Known.enc x0)), .imm (.row 2 (List.map api_Price.enc x1))] (.tup [.imm (.row 6 (List.map lombardref13_Known.enc r.1)), .imm (.val (.int .i64 r.2.1)), .imm (.val (.int .i64 r.2.2))]) [none, none] := by
 unfold lombardref13_Set.f at h
 refine Pm.Spec.of_body Try.func30 rfl (by kernel_rfl) (Nat.le_of_ble_eq_true rfl) (Nat.le_of_ble_eq_true rfl) ?_
 refine W.ghost (σ' := (mkSt [(0, some (.imm (.row 6 (List.map lombardref13_Known.enc x0)))), (1, some (.imm (.row 2 (List.map api_Price.enc x1))))] [] 1000)) (Gives.entry (.c rfl (.c rfl .n)) .n) ?_
 refine W.seq ?_
 refine W.pk ?_
 refine .a rfl rfl rfl rfl ?_
 refine .a rfl rfl rfl rfl ?_
 refine .a rfl rfl rfl rfl ?_
 refine .nil ?_
 refine W.seq ?_
 obtain ⟨c1, h⟩ := chk h
 refine W.pk ?_
 refine .t rfl rfl (O.lit (enc := lombardref13_Known.enc) (l := ([] : List lombardref13_Known)) sl60 rfl rfl rfl rfl rfl rfl rfl rfl rfl) ?_
 refine .m rfl rfl rfl rfl ?_
 refine .t rfl rfl (O.app sl60 lombardref13_Known.ok c1 rfl rfl rfl rfl) ?_
 refine .a rfl rfl rfl rfl ?_
 refine .nil ?_
 refine W.seq ?_
 refine W.seq ?_
 refine W.pk ?_
 refine .a rfl rfl rfl rfl ?_
 refine .nil ?_
 obtain ⟨o38, b39, z40⟩ := bnd1 h
 refine W.fork2 (out := o38) (fun (w37 : List lombardref13_Known) => mkSt [(1, some (.imm (.row 2 (List.map api_Price.enc x1)))), (7, some (.own 1001))] [(1001, some (.rows 90 6 (List.map lombardref13_Known.enc w37) false))] 1002) ?_ ?_
 ·clear h
  refine W.block ?_
  refine W.loopF (fun (s_ : Int × (List lombardref13_Known)) => mkSt [(0, some (.imm (.row 6 (List.map lombardref13_Known.enc x0)))), (1, some (.imm (.row 2 (List.map api_Price.enc x1)))), (7, some (.own 1001)), (8, some (.i s_.1))] [(1001, some (.rows 90 6 (List.map lombardref13_Known.enc s_.2) false))] 1002) b39 (Gives.mkR [] (.r rfl rfl (.r rfl rfl (.r rfl rfl (.r rfl rfl .n)))) (.r rfl rfl rfl .n) rfl rfl rfl) ?_
  rintro ⟨v13, v14⟩ s_ hr
  have h : lombardref13_Set.b0 x0 x1 v13 v14 = some s_ := hr
  unfold lombardref13_Set.b0 at h
  refine W.seq ?_
  refine W.seq ?_
  refine W.pk ?_
  refine .m rfl rfl rfl rfl ?_
  refine .m rfl rfl rfl rfl ?_
  refine .v rfl rfl (O.lenR sl57 rfl rfl) ?_
  refine .v rfl rfl (OpL.binI rfl rfl rfl rfl) ?_
  refine .nil ?_
  refine W.cond rfl (fun q41 => ?_) (fun q41 => ?_)
  ·have h := ifT q41 h
   refine W.skip ?_
   refine W.seq ?_
   refine W.block ?_
   refine W.seq ?_
   obtain ⟨c42, h⟩ := chk h
   obtain ⟨t43, b44, h⟩ := bnd1 h
   refine W.pk ?_
   refine .m rfl rfl rfl rfl ?_
   refine .m rfl rfl rfl rfl ?_
   refine .m rfl rfl rfl rfl ?_
   refine .v rfl rfl (O.idx sl57 c42 rfl rfl rfl) ?_
   refine .v rfl rfl (O.fld fld92_0 rfl rfl rfl) ?_
   refine .v rfl rfl (O.ld (y := .s ((nth x1 v13).ISIN)) ty9 rfl rfl rfl) ?_
   refine .call (.i t43) [] 0 (lombardref13_Find.ok b44) rfl rfl rfl ca52 rfl rfl (cC (.imm _) (cC (.imm _) .nil)) rfl rfl rfl rfl rfl ?_
   refine .a rfl rfl rfl rfl ?_
   refine .nil ?_
   refine W.seq ?_
   refine W.seq ?_
   refine W.pk ?_
   refine .m rfl rfl rfl rfl ?_
   refine .v rfl rfl (OpL.binI rfl rfl rfl rfl) ?_
   refine .nil ?_
   refine W.cond rfl (fun q45 => ?_) (fun q45 => ?_)
   ·have h := ifT q45 h
    refine W.seq ?_
    refine W.pk ?_
    refine .m rfl rfl rfl rfl ?_
    refine .m rfl rfl rfl rfl ?_
    refine .a rfl rfl rfl rfl ?_
    refine .a rfl rfl rfl rfl ?_
    refine .a rfl rfl rfl rfl ?_
    refine .nil ?_
    refine W.ret ?_
    cases h
    refine rdR fun e_ => ?_
    subst e_
    have h := z40
    dsimp only at h
    refine fkR ?_
    cases h
    exact leaves (.inr rfl) rfl (.tup _ _ _ _ (cC (.imm _) (cC (.imm _) (cC (.imm _) .nil)))) (cN (cN .nil)) rfl rfl
   ·have h := ifF q45 h
    refine W.skip ?_
    refine W.seq ?_
    refine W.seq ?_
    obtain ⟨c46, h⟩ := chk h
    obtain ⟨c47, h⟩ := chk h
    refine W.fork (mkSt [(0, some (.imm (.row 6 (List.map lombardref13_Known.enc x0)))), (1, some (.imm (.row 2 (List.map api_Price.enc x1)))), (7, some (.own 1001)), (8, some (.i v13)), (9, some (.i t43)), (43, some (.b ((decide (((nth x1 v13).Price) < 1)) || (decide (((nth x1 v13).Price) > 4294967296)))))] [(1001, some (.rows 90 6 (List.map lombardref13_Known.enc v14) false))] 1002) ?_ ?_
    ·refine W.cond rfl (fun q49 => ?_) (fun q49 => ?_)
     ·have h := ifT q49 h
      refine W.seq ?_
      refine W.pk ?_
      refine .m rfl rfl rfl rfl ?_
      refine .m rfl rfl rfl rfl ?_
      refine .a rfl rfl rfl rfl ?_
      refine .a rfl rfl rfl rfl ?_
      refine .a rfl rfl rfl rfl ?_
      refine .nil ?_
      refine W.ret ?_
      cases h
      refine rdR fun e_ => ?_
      subst e_
      have h := z40
      dsimp only at h
      refine fkR ?_
      cases h
      exact leaves (.inr rfl) rfl (.tup _ _ _ _ (cC (.imm _) (cC (.imm _) (cC (.imm _) .nil)))) (cN (cN .nil)) rfl rfl
     ·have h := ifF q49 h
      refine W.skip ?_
      obtain ⟨c50, h⟩ := chk h
      obtain ⟨c51, h⟩ := chk h
      refine W.pk ?_
      refine .m rfl rfl rfl rfl ?_
      refine .m rfl rfl rfl rfl ?_
      refine .m rfl rfl rfl rfl ?_
      refine .m rfl rfl rfl rfl ?_
      refine .v rfl rfl (O.idx sl57 c50 rfl rfl rfl) ?_
      refine .v rfl rfl (O.fld fld92_1 rfl rfl rfl) ?_
      refine .v rfl rfl (O.ld (y := .i ((nth x1 v13).Price)) ty3 rfl rfl rfl) ?_
      refine .v rfl rfl (O.idxO sl60 c51 rfl rfl rfl rfl) ?_
      refine .v rfl rfl (O.fld fld90_1 rfl rfl rfl) ?_
      refine .s rfl rfl (O.stE (x' := (⟨((nth v14 t43).A), (nth x1 v13).Price⟩ : lombardref13_Known)) ty3 c51 rfl rfl rfl rfl rfl rfl rfl rfl rfl rfl rfl) ?_
      refine .nil ?_
      refine W.pk ?_
      refine .m rfl rfl rfl rfl ?_
      refine .v rfl rfl (OpL.binI rfl rfl rfl rfl) ?_
      refine .a rfl rfl rfl rfl ?_
      refine .nil ?_
      cases h
      exact rdN (Gives.mkR [] (.r rfl rfl (.r rfl rfl (.r rfl rfl (.r rfl rfl .n)))) (.r rfl rfl rfl .n) rfl rfl rfl)
    ·clear h
     rcases tf (decide (((nth x1 v13).Price) < 1)) with g48 | g48
     ·refine W.pk ?_
      refine .m rfl rfl rfl rfl ?_
      refine .m rfl rfl rfl rfl ?_
      refine .v rfl rfl (O.idx sl57 c46 rfl rfl rfl) ?_
      refine .v rfl rfl (O.fld fld92_1 rfl rfl rfl) ?_
      refine .v rfl rfl (O.ld (y := .i ((nth x1 v13).Price)) ty3 rfl rfl rfl) ?_
      refine .v rfl rfl (OpL.binI rfl rfl rfl rfl) ?_
      refine .m rfl rfl rfl rfl ?_
      refine .x rfl (unmet rfl rfl rfl g48) ?_
      refine .x rfl (unmet rfl rfl rfl g48) ?_
      refine .x rfl (unmet rfl rfl rfl g48) ?_
      refine .x rfl (unmet rfl rfl rfl g48) ?_
      refine .x rfl (unmet rfl rfl rfl g48) ?_
      refine .x rfl (unmet rfl rfl rfl g48) ?_
      refine .v rfl rfl (O.pickT g48 rfl rfl rfl) ?_
      refine .nil ?_
      exact toN (Gives.mkR [] (.r rfl rfl (.r rfl rfl (.r rfl rfl (.r rfl rfl (.r rfl rfl (.c rfl (sbb (by simp only [g48, Bool.true_or, Bool.or_true, Bool.false_or, Bool.or_false, Bool.true_and, Bool.and_true, Bool.false_and, Bool.and_false, Bool.not_true, Bool.not_false, cond_true, cond_false])) rfl .n)))))) (.r rfl rfl rfl .n) rfl rfl rfl)
     ·refine W.pk ?_
      refine .m rfl rfl rfl rfl ?_
      refine .m rfl rfl rfl rfl ?_
      refine .v rfl rfl (O.idx sl57 c46 rfl rfl rfl) ?_
      refine .v rfl rfl (O.fld fld92_1 rfl rfl rfl) ?_
      refine .v rfl rfl (O.ld (y := .i ((nth x1 v13).Price)) ty3 rfl rfl rfl) ?_
      refine .v rfl rfl (OpL.binI rfl rfl rfl rfl) ?_
      refine .m rfl rfl rfl rfl ?_
      refine .m rfl (met rfl rfl rfl g48) rfl rfl ?_
      refine .m rfl (met rfl rfl rfl g48) rfl rfl ?_
      refine .v rfl (met rfl rfl rfl g48) (O.idx sl57 (c47 (by simp only [g48, Bool.true_or, Bool.or_true, Bool.false_or, Bool.or_false, Bool.true_and, Bool.and_true, Bool.false_and, Bool.and_false, Bool.not_true, Bool.not_false, cond_true, cond_false])) rfl rfl rfl) ?_
      refine .v rfl (met rfl rfl rfl g48) (O.fld fld92_1 rfl rfl rfl) ?_
      refine .v rfl (met rfl rfl rfl g48) (O.ld (y := .i ((nth x1 v13).Price)) ty3 rfl rfl rfl) ?_
      refine .v rfl (met rfl rfl rfl g48) (OpL.binI rfl rfl rfl rfl) ?_
      refine .v rfl rfl (O.pickF g48 rfl rfl rfl) ?_
      refine .nil ?_
      exact toN (Gives.mkR [] (.r rfl rfl (.r rfl rfl (.r rfl rfl (.r rfl rfl (.r rfl rfl (.c rfl (sbb (by simp only [g48, Bool.true_or, Bool.or_true, Bool.false_or, Bool.or_false, Bool.true_and, Bool.and_true, Bool.false_and, Bool.and_false, Bool.not_true, Bool.not_false, cond_true, cond_false])) rfl .n)))))) (.r rfl rfl rfl .n) rfl rfl rfl)
  ·have h := ifF q41 h
   refine W.exit ?_
   cases h
   refine rdX fun e_ => ?_
   subst e_
   repeat with_reducible refine thru ?_
   refine hit ?_
   exact fkN (Gives.mkR [] (.r rfl rfl (.r rfl rfl .n)) (.r rfl rfl rfl .n) rfl rfl rfl)
 ·intro w37 e_
  subst e_
  clear h
  have h := z40
  dsimp only at h
  refine W.seq ?_
  refine W.pk ?_
  refine .m rfl rfl rfl rfl ?_
  refine .m rfl rfl rfl rfl ?_
  refine .v rfl rfl (O.lenR sl57 rfl rfl) ?_
  refine .a rfl rfl rfl rfl ?_
  refine .a rfl rfl rfl rfl ?_
  refine .a rfl rfl rfl rfl ?_
  refine .nil ?_
  refine W.ret ?_
  cases h
  exact leaves (.inr rfl) rfl (.tup _ _ _ _ (cC (.lend _ _ _ _ _ rfl) (cC (.imm _) (cC (.imm _) .nil)))) (cN (cN .nil)) rfl rfl

noncomputable def asset_Book_Get.f (x0 : asset_Book) (x1 : Bs) : Option (api_Asset × Bool) :=
  (asset_Book_place.f x0 x1).bind fun t1 =>
  if (!t1.2) = true then
    some ((⟨[], 0, 0, 0, []⟩ : api_Asset), false)
  else
    if (0 : Int) ≤ t1.1 ∧ t1.1 < (List.length x0.l : Int) then
    some ((nth x0.l t1.1), true)
    else none
set_option maxRecDepth 100000 in
set_option maxHeartbeats 4000000 in
theorem asset_Book_Get.ok {x0 : asset_Book} {x1 : Bs} {r : api_Asset × Bool} (h : asset_Book_Get.f x0 x1 = some r) : Pm.Spec prog 53 [.xbox [.xown 38 5 (List.map api_Asset.enc x0.l), .xown 3 1 (List.map (encI .i64) x0.prices), .imm (.val (.bool x0.made))], .imm (.val (.string (tx x1)))] (.tup [.agg [.imm (.val (.string (tx r.1.ISIN))), .imm (.val (.int .i64 r.1.Issuer)), .imm (.val (.int .i64 r.1.Rating)), .imm (.val (.int .i64 r.1.Maturity)), .imm (.val (.string (tx r.1.Currency)))], .imm (.val (.bool r.2))]) [some (.xbox [.xown 38 5 (List.map api_Asset.enc x0.l), .xown 3 1 (List.map (encI .i64) x0.prices), .imm (.val (.bool x0.made))]), none] := by
 unfold asset_Book_Get.f at h
 refine Pm.Spec.of_body Try.func53 rfl (by kernel_rfl) (Nat.le_of_ble_eq_true rfl) (Nat.le_of_ble_eq_true rfl) ?_
 refine W.ghost (σ' := (mkSt [(0, some (.ptr 0 0)), (1, some (.s x1))] [(0, some (.box [.own 1, .own 2, .b x0.made])), (1, some (.rows 38 5 (List.map api_Asset.enc x0.l) false)), (2, some (.rows 3 1 (List.map (encI .i64) x0.prices) false))] 1000)) (Gives.entry (.c rfl (.c rfl .n)) (.c rfl (.c rfl (.c rfl .n)))) ?_
 refine W.ghost (σ' := (mkSt [(0, some (.ptr 0 0)), (1, some (.s x1))] [(0, some (.box [.own 1000, .own 1001, .b x0.made])), (1000, some (.rows 38 5 (List.map api_Asset.enc x0.l) false)), (1001, some (.rows 3 1 (List.map (encI .i64) x0.prices) false))] 1002)) (Gives.mkR [(1000, 1), (1001, 2)] (.r rfl rfl (.r rfl rfl .n)) (.r rfl rfl rfl (.r rfl rfl rfl (.r rfl rfl rfl .n))) rfl rfl rfl) ?_
 refine W.seq ?_
 refine W.pk ?_
 refine .t rfl rfl (O.alloc z38 rfl) ?_
 refine .a rfl rfl rfl rfl ?_
 refine .nil ?_
 refine W.seq ?_
 refine W.seq ?_
 refine W.pk ?_
 refine .m rfl rfl rfl rfl ?_
 refine .v rfl rfl (OpL.eqP rfl u58 rfl rfl rfl) ?_
 refine .nil ?_
 refine W.cond rfl (fun q => by cases q) (fun _ => ?_)
 refine W.skip ?_
 refine W.seq ?_
 obtain ⟨t1, b2, h⟩ := bnd1 h
 refine W.pk ?_
 refine .m rfl rfl rfl rfl ?_
 refine .m rfl rfl rfl rfl ?_
 refine .call (.tup [.i t1.1, .b t1.2]) [(0, some (.box [.own 1003, .own 1004, .b x0.made])), (1003, some (.rows 38 5 (List.map api_Asset.enc x0.l) false)), (1004, some (.rows 3 1 (List.map (encI .i64) x0.prices) false)), (0, none), (1000, none), (1001, none)] 2 (asset_Book_place.ok b2) rfl rfl rfl ca48 rfl rfl (cC (.ptr _ _ _ _ _ rfl (cC (.own _ _ _ _ rfl) (cC (.own _ _ _ _ rfl) (cC (.imm _) .nil)))) (cC (.imm _) .nil)) rfl rfl rfl rfl rfl ?_
 refine .m rfl rfl rfl rfl ?_
 refine .v rfl rfl (OpL.extract rfl rfl rfl) ?_
 refine .v rfl rfl (OpL.extract rfl rfl rfl) ?_
 refine .a rfl rfl rfl rfl ?_
 refine .a rfl rfl rfl rfl ?_
 refine .nil ?_
 refine W.seq ?_
 refine W.seq ?_
 refine W.pk ?_
 refine .m rfl rfl rfl rfl ?_
 refine .v rfl rfl (OpL.unV rfl rfl rfl) ?_
 refine .nil ?_
 refine W.cond rfl (fun q3 => ?_) (fun q3 => ?_)
 ·have h := ifT q3 h
  refine W.seq ?_
  refine W.pk ?_
  refine .v rfl rfl (O.build (out := [.s [], .i 0, .i 0, .i 0, .s []]) bl38 rfl rfl rfl rfl (by kernel_rfl)) ?_
  refine .s rfl rfl (O.st ty38 rfl rfl rfl rfl rfl rfl rfl rfl rfl rfl (all' := [.s [], .i 0, .i 0, .i 0, .s []]) rfl) ?_
  refine .a rfl rfl rfl rfl ?_
  refine .nil ?_
  refine W.ret ?_
  cases h
  exact leaves (.inr rfl) rfl (.tup _ _ _ _ (cC (.agg _ _ _ _ (cC (.imm _) (cC (.imm _) (cC (.imm _) (cC (.imm _) (cC (.imm _) .nil)))))) (cC (.imm _) .nil))) (cS (.ptr _ _ _ _ _ rfl (cC (.own _ _ _ _ rfl) (cC (.own _ _ _ _ rfl) (cC (.imm _) .nil)))) (cN .nil)) rfl rfl
 ·have h := ifF q3 h
  refine W.skip ?_
  refine W.seq ?_
  obtain ⟨c4, h⟩ := chk h
  refine W.pk ?_
  refine .m rfl rfl rfl rfl ?_
  refine .v rfl rfl (OpL.nilP rfl rfl rfl) ?_
  refine .v rfl rfl (O.fld fld83_0 rfl rfl rfl) ?_
  refine .v rfl rfl (O.ld (y := .own 1003) ty56 rfl rfl rfl) ?_
  refine .m rfl rfl rfl rfl ?_
  refine .v rfl rfl (O.idxO sl56 c4 rfl rfl rfl rfl) ?_
  refine .v rfl rfl (O.ldEN ty38 c4 rfl rfl rfl rfl rfl) ?_
  refine .s rfl rfl (O.st ty38 rfl rfl rfl rfl rfl rfl rfl rfl rfl rfl (all' := [.s ((nth x0.l t1.1).ISIN), .i ((nth x0.l t1.1).Issuer), .i ((nth x0.l t1.1).Rating), .i ((nth x0.l t1.1).Maturity), .s ((nth x0.l t1.1).Currency)]) rfl) ?_
  refine .a rfl rfl rfl rfl ?_
  refine .nil ?_
  refine W.ret ?_
  cases h
  exact leaves (.inr rfl) rfl (.tup _ _ _ _ (cC (.agg _ _ _ _ (cC (.imm _) (cC (.imm _) (cC (.imm _) (cC (.imm _) (cC (.imm _) .nil)))))) (cC (.imm _) .nil))) (cS (.ptr _ _ _ _ _ rfl (cC (.own _ _ _ _ rfl) (cC (.own _ _ _ _ rfl) (cC (.imm _) .nil)))) (cN .nil)) rfl rfl

noncomputable def asset_Book_Price.f (x0 : asset_Book) (x1 : Bs) : Option (Int × Bool) :=
  (asset_Book_place.f x0 x1).bind fun t1 =>
  if ((!t1.2) = false → (0 : Int) ≤ t1.1 ∧ t1.1 < (List.length x0.prices : Int)) then
  if ((!t1.2) || ((nth x0.prices t1.1) == 0)) = true then
    some (0, false)
  else
    if (0 : Int) ≤ t1.1 ∧ t1.1 < (List.length x0.prices : Int) then
    some ((nth x0.prices t1.1), true)
    else none
  else none
set_option maxRecDepth 100000 in
set_option maxHeartbeats 4000000 in
theorem asset_Book_Price.ok {x0 : asset_Book} {x1 : Bs} {r : Int × Bool} (h : asset_Book_Price.f x0 x1 = some r) : Pm.Spec prog 54 [.xbox [.xown 38 5 (List.map api_Asset.enc x0.l), .xown 3 1 (List.map (encI .i64) x0.prices), .imm (.val (.bool x0.made))], .imm (.val (.string (tx x1)))] (.tup [.imm (.val (.int .i64 r.1)), .imm (.val (.bool r.2))]) [some (.xbox [.xown 38 5 (List.map api_Asset.enc x0.l), .xown 3 1 (List.map (encI .i64) x0.prices), .imm (.val (.bool x0.made))]), none] := by
 unfold asset_Book_Price.f at h
 refine Pm.Spec.of_body Try.func54 rfl (by kernel_rfl) (Nat.le_of_ble_eq_true rfl) (Nat.le_of_ble_eq_true rfl) ?_
 refine W.ghost (σ' := (mkSt [(0, some (.ptr 0 0)), (1, some (.s x1))] [(0, some (.box [.own 1, .own 2, .b x0.made])), (1, some (.rows 38 5 (List.map api_Asset.enc x0.l) false)), (2, some (.rows 3 1 (List.map (encI .i64) x0.prices) false))] 1000)) (Gives.entry (.c rfl (.c rfl .n)) (.c rfl (.c rfl (.c rfl .n)))) ?_
 refine W.ghost (σ' := (mkSt [(0, some (.ptr 0 0)), (1, some (.s x1))] [(0, some (.box [.own 1000, .own 1001, .b x0.made])), (1000, some (.rows 38 5 (List.map api_Asset.enc x0.l) false)), (1001, some (.rows 3 1 (List.map (encI .i64) x0.prices) false))] 1002)) (Gives.mkR [(1000, 1), (1001, 2)] (.r rfl rfl (.r rfl rfl .n)) (.r rfl rfl rfl (.r rfl rfl rfl (.r rfl rfl rfl .n))) rfl rfl rfl) ?_
 refine W.seq ?_
 refine W.pk ?_
 refine .a rfl rfl rfl rfl ?_
 refine .a rfl rfl rfl rfl ?_
 refine .nil ?_
 refine W.seq ?_
 refine W.seq ?_
 refine W.pk ?_
 refine .m rfl rfl rfl rfl ?_
 refine .v rfl rfl (OpL.eqP rfl u58 rfl rfl rfl) ?_
 refine .nil ?_
 refine W.cond rfl (fun q => by cases q) (fun _ => ?_)
 refine W.skip ?_
 refine W.seq ?_
 obtain ⟨t1, b2, h⟩ := bnd1 h
 refine W.pk ?_
 refine .m rfl rfl rfl rfl ?_
 refine .m rfl rfl rfl rfl ?_
 refine .call (.tup [.i t1.1, .b t1.2]) [(0, some (.box [.own 1002, .own 1003, .b x0.made])), (1002, some (.rows 38 5 (List.map api_Asset.enc x0.l) false)), (1003, some (.rows 3 1 (List.map (encI .i64) x0.prices) false)), (0, none), (1000, none), (1001, none)] 2 (asset_Book_place.ok b2) rfl rfl rfl ca48 rfl rfl (cC (.ptr _ _ _ _ _ rfl (cC (.own _ _ _ _ rfl) (cC (.own _ _ _ _ rfl) (cC (.imm _) .nil)))) (cC (.imm _) .nil)) rfl rfl rfl rfl rfl ?_
 refine .m rfl rfl rfl rfl ?_
 refine .v rfl rfl (OpL.extract rfl rfl rfl) ?_
 refine .v rfl rfl (OpL.extract rfl rfl rfl) ?_
 refine .a rfl rfl rfl rfl ?_
 refine .a rfl rfl rfl rfl ?_
 refine .nil ?_
 refine W.seq ?_
 refine W.seq ?_
 obtain ⟨c3, h⟩ := chk h
 refine W.fork (mkSt [(0, some (.ptr 0 0)), (6, some (.i t1.1)), (27, some (.b ((!t1.2) || ((nth x0.prices t1.1) == 0))))] [(0, some (.box [.own 1002, .own 1003, .b x0.made])), (1002, some (.rows 38 5 (List.map api_Asset.enc x0.l) false)), (1003, some (.rows 3 1 (List.map (encI .i64) x0.prices) false))] 1004) ?_ ?_
 ·refine W.cond rfl (fun q5 => ?_) (fun q5 => ?_)
  ·have h := ifT q5 h
   refine W.seq ?_
   refine W.pk ?_
   refine .a rfl rfl rfl rfl ?_
   refine .a rfl rfl rfl rfl ?_
   refine .nil ?_
   refine W.ret ?_
   cases h
   exact leaves (.inr rfl) rfl (.tup _ _ _ _ (cC (.imm _) (cC (.imm _) .nil))) (cS (.ptr _ _ _ _ _ rfl (cC (.own _ _ _ _ rfl) (cC (.own _ _ _ _ rfl) (cC (.imm _) .nil)))) (cN .nil)) rfl rfl
  ·have h := ifF q5 h
   refine W.skip ?_
   refine W.seq ?_
   obtain ⟨c6, h⟩ := chk h
   refine W.pk ?_
   refine .m rfl rfl rfl rfl ?_
   refine .v rfl rfl (OpL.nilP rfl rfl rfl) ?_
   refine .v rfl rfl (O.fld fld83_1 rfl rfl rfl) ?_
   refine .v rfl rfl (O.ld (y := .own 1003) ty34 rfl rfl rfl) ?_
   refine .m rfl rfl rfl rfl ?_
   refine .v rfl rfl (O.idxO sl34 c6 rfl rfl rfl rfl) ?_
   refine .v rfl rfl (O.ldE (c := (.val (.int .i64 (nth x0.prices t1.1)))) ty3 c6 rfl rfl rfl rfl rfl) ?_
   refine .a rfl rfl rfl rfl ?_
   refine .a rfl rfl rfl rfl ?_
   refine .nil ?_
   refine W.ret ?_
   cases h
   exact leaves (.inr rfl) rfl (.tup _ _ _ _ (cC (.imm _) (cC (.imm _) .nil))) (cS (.ptr _ _ _ _ _ rfl (cC (.own _ _ _ _ rfl) (cC (.own _ _ _ _ rfl) (cC (.imm _) .nil)))) (cN .nil)) rfl rfl
 ·clear h
  rcases tf t1.2 with g4 | g4
  ·refine W.pk ?_
   refine .m rfl rfl rfl rfl ?_
   refine .v rfl rfl (OpL.unV rfl rfl rfl) ?_
   refine .m rfl rfl rfl rfl ?_
   refine .m rfl (met rfl rfl rfl (notT g4)) rfl rfl ?_
   refine .v rfl (met rfl rfl rfl (notT g4)) (OpL.nilP rfl rfl rfl) ?_
   refine .v rfl (met rfl rfl rfl (notT g4)) (O.fld fld83_1 rfl rfl rfl) ?_
   refine .v rfl (met rfl rfl rfl (notT g4)) (O.ld (y := .own 1003) ty34 rfl rfl rfl) ?_
   refine .m rfl (met rfl rfl rfl (notT g4)) rfl rfl ?_
   refine .v rfl (met rfl rfl rfl (notT g4)) (O.idxO sl34 (c3 (by simp only [g4, Bool.true_or, Bool.or_true, Bool.false_or, Bool.or_false, Bool.true_and, Bool.and_true, Bool.false_and, Bool.and_false, Bool.not_true, Bool.not_false, cond_true, cond_false])) rfl rfl rfl rfl) ?_
   refine .v rfl (met rfl rfl rfl (notT g4)) (O.ldE (c := (.val (.int .i64 (nth x0.prices t1.1)))) ty3 (c3 (by simp only [g4, Bool.true_or, Bool.or_true, Bool.false_or, Bool.or_false, Bool.true_and, Bool.and_true, Bool.false_and, Bool.and_false, Bool.not_true, Bool.not_false, cond_true, cond_false])) rfl rfl rfl rfl rfl) ?_
   refine .v rfl (met rfl rfl rfl (notT g4)) (OpL.binI rfl rfl rfl rfl) ?_
   refine .v rfl rfl (O.pickF (notT g4) rfl rfl rfl) ?_
   refine .nil ?_
   exact toN (Gives.mkR [] (.r rfl rfl (.r rfl rfl (.c rfl (sbb (by simp only [g4, Bool.true_or, Bool.or_true, Bool.false_or, Bool.or_false, Bool.true_and, Bool.and_true, Bool.false_and, Bool.and_false, Bool.not_true, Bool.not_false, cond_true, cond_false])) rfl .n))) (.r rfl rfl rfl (.r rfl rfl rfl (.r rfl rfl rfl .n))) rfl rfl rfl)
  ·refine W.pk ?_
   refine .m rfl rfl rfl rfl ?_
   refine .v rfl rfl (OpL.unV rfl rfl rfl) ?_
   refine .m rfl rfl rfl rfl ?_
   refine .x rfl (unmet rfl rfl rfl (notF g4)) ?_
   refine .x rfl (unmet rfl rfl rfl (notF g4)) ?_
   refine .x rfl (unmet rfl rfl rfl (notF g4)) ?_
   refine .x rfl (unmet rfl rfl rfl (notF g4)) ?_
   refine .x rfl (unmet rfl rfl rfl (notF g4)) ?_
   refine .x rfl (unmet rfl rfl rfl (notF g4)) ?_
   refine .x rfl (unmet rfl rfl rfl (notF g4)) ?_
   refine .x rfl (unmet rfl rfl rfl (notF g4)) ?_
   refine .v rfl rfl (O.pickT (notF g4) rfl rfl rfl) ?_
   refine .nil ?_
   exact toN (Gives.mkR [] (.r rfl rfl (.r rfl rfl (.c rfl (sbb (by simp only [g4, Bool.true_or, Bool.or_true, Bool.false_or, Bool.or_false, Bool.true_and, Bool.and_true, Bool.false_and, Bool.and_false, Bool.not_true, Bool.not_false, cond_true, cond_false])) rfl .n))) (.r rfl rfl rfl (.r rfl rfl rfl (.r rfl rfl rfl .n))) rfl rfl rfl)

noncomputable def asset_Left.f (x0 : api_Asset) (x1 : Int) : Option (Int) :=
  if ((decide (x1 < 0)) || (decide (x1 > 200000))) = true then
    some (-1)
  else
    some (IntKind.wrap .i64 (x0.Maturity - x1))
set_option maxRecDepth 100000 in
set_option maxHeartbeats 4000000 in
theorem asset_Left.ok {x0 : api_Asset} {x1 : Int} {r : Int} (h : asset_Left.f x0 x1 = some r) : Pm.Spec prog 42 [.agg [.imm (.val (.string (tx x0.ISIN))), .imm (.val (.int .i64 x0.Issuer)), .imm (.val (.int .i64 x0.Rating)), .imm (.val (.int .i64 x0.Maturity)), .imm (.val (.string (tx x0.Currency)))], .imm (.val (.int .i64 x1))] (.imm (.val (.int .i64 r))) [none, none] := by
 unfold asset_Left.f at h
 refine Pm.Spec.of_body Try.func42 rfl (by kernel_rfl) (Nat.le_of_ble_eq_true rfl) (Nat.le_of_ble_eq_true rfl) ?_
 refine W.ghost (σ' := (mkSt [(0, some (.agg (api_Asset.av x0))), (1, some (.i x1))] [] 1000)) (Gives.entry (.c rfl (.c rfl .n)) .n) ?_
 refine W.seq ?_
 refine W.pk ?_
 refine .t rfl rfl (O.box rfl rfl rfl rfl rfl) ?_
 refine .a rfl rfl rfl rfl ?_
 refine .nil ?_
 refine W.seq ?_
 refine W.seq ?_
 refine W.fork (mkSt [(1, some (.i x1)), (2, some (.ptr 1000 0)), (10, some (.b ((decide (x1 < 0)) || (decide (x1 > 200000)))))] [(1000, some (.box [.s x0.ISIN, .i x0.Issuer, .i x0.Rating, .i x0.Maturity, .s x0.Currency]))] 1001) ?_ ?_
 ·refine W.cond rfl (fun q2 => ?_) (fun q2 => ?_)
  ·have h := ifT q2 h
   refine W.seq ?_
   refine W.pk ?_
   refine .a rfl rfl rfl rfl ?_
   refine .nil ?_
   refine W.ret ?_
   cases h
   exact leaves (.inr rfl) rfl (.imm _) (cN (cN .nil)) rfl rfl
  ·have h := ifF q2 h
   refine W.skip ?_
   refine W.seq ?_
   refine W.pk ?_
   refine .v rfl rfl (O.fld fld38_3 rfl rfl rfl) ?_
   refine .v rfl rfl (O.ld (y := .i x0.Maturity) ty3 rfl rfl rfl) ?_
   refine .m rfl rfl rfl rfl ?_
   refine .v rfl rfl (OpL.binI rfl rfl rfl rfl) ?_
   refine .a rfl rfl rfl rfl ?_
   refine .nil ?_
   refine W.ret ?_
   cases h
   exact leaves (.inr rfl) rfl (.imm _) (cN (cN .nil)) rfl rfl
 ·clear h
  rcases tf (decide (x1 < 0)) with g1 | g1
  ·refine W.pk ?_
   refine .m rfl rfl rfl rfl ?_
   refine .v rfl rfl (OpL.binI rfl rfl rfl rfl) ?_
   refine .m rfl rfl rfl rfl ?_
   refine .x rfl (unmet rfl rfl rfl g1) ?_
   refine .x rfl (unmet rfl rfl rfl g1) ?_
   refine .v rfl rfl (O.pickT g1 rfl rfl rfl) ?_
   refine .nil ?_
   exact toN (Gives.mkR [] (.r rfl rfl (.r rfl rfl (.c rfl (sbb (by simp only [g1, Bool.true_or, Bool.or_true, Bool.false_or, Bool.or_false, Bool.true_and, Bool.and_true, Bool.false_and, Bool.and_false, Bool.not_true, Bool.not_false, cond_true, cond_false])) rfl .n))) (.r rfl rfl rfl .n) rfl rfl rfl)
  ·refine W.pk ?_
   refine .m rfl rfl rfl rfl ?_
   refine .v rfl rfl (OpL.binI rfl rfl rfl rfl) ?_
   refine .m rfl rfl rfl rfl ?_
   refine .m rfl (met rfl rfl rfl g1) rfl rfl ?_
   refine .v rfl (met rfl rfl rfl g1) (OpL.binI rfl rfl rfl rfl) ?_
   refine .v rfl rfl (O.pickF g1 rfl rfl rfl) ?_
   refine .nil ?_
   exact toN (Gives.mkR [] (.r rfl rfl (.r rfl rfl (.c rfl (sbb (by simp only [g1, Bool.true_or, Bool.or_true, Bool.false_or, Bool.or_false, Bool.true_and, Bool.and_true, Bool.false_and, Bool.and_false, Bool.not_true, Bool.not_false, cond_true, cond_false])) rfl .n))) (.r rfl rfl rfl .n) rfl rfl rfl)

noncomputable def haircut_Of.b0 (x0 : api_Basket) (x1 : api_Asset) (t1 : Int) (v8 : Int) : Option (Int ⊕ ((Int × Bool) ⊕ Unit)) :=
  if (decide (v8 < (List.length x0.Cuts : Int))) = true then
    if (0 : Int) ≤ v8 ∧ v8 < (List.length x0.Cuts : Int) then
    if ((decide (t1 ≤ ((nth x0.Cuts v8).Days))) && (decide (x1.Rating ≤ ((nth x0.Cuts v8).Rating)))) = true then
      some (.inr (.inl ((nth x0.Cuts v8).Cut, true)))
    else
      some (.inl (IntKind.wrap .i64 (v8 + 1)))
    else none
  else
    some (.inr (.inr ()))
noncomputable def haircut_Of.r0 (x0 : api_Basket) (x1 : api_Asset) (t1 : Int) (s : Int) : Option (Int ⊕ ((Int × Bool) ⊕ Unit)) := haircut_Of.b0 x0 x1 t1 s
noncomputable def haircut_Of.f (x0 : api_Basket) (x1 : api_Asset) (x2 : Int) : Option (Int × Bool) :=
  (asset_Left.f x1 x2).bind fun t1 =>
  if (decide (t1 < 0)) = true then
    some (0, false)
  else
    (loop (haircut_Of.r0 x0 x1 t1) 0).bind fun o18 =>
    match o18 with
    | .inl r25 => some r25
    | .inr w17 =>
      some (0, false)
set_option maxRecDepth 100000 in
set_option maxHeartbeats 4000000 in
theorem haircut_Of.ok {x0 : api_Basket} {x1 : api_Asset} {x2 : Int} {r : Int × Bool} (h : haircut_Of.f x0 x1 x2 = some r) : Pm.Spec prog 17 [.agg [.imm (.val (.int .i64 x0.ID)), .imm (.val (.int .i64 x0.Version)), .imm (.val (.string (tx x0.Currency))), .imm (.val (.int .i64 x0.Rating)), .imm (.val (.int .i64 x0.Least)), .imm (.val (.int .i64 x0.Most)), .imm (.row 3 (List.map api_Cut.enc x0.Cuts)), .imm (.val (.int .i64 x0.Issuer)), .imm (.val (.int .i64 x0.Asset)), .imm (.row 1 (List.map (encI .i64) x0.Barred))], .agg [.imm (.val (.string (tx x1.ISIN))), .imm (.val (.int .i64 x1.Issuer)), .imm (.val (.int .i64 x1.Rating)), .imm (.val (.int .i64 x1.Maturity)), .imm (.val (.string (tx x1.Currency)))], .imm (.val (.int .i64 x2))] (.tup [.imm (.val (.int .i64 r.1)), .imm (.val (.bool r.2))]) [none, none, none] := by
 unfold haircut_Of.f at h
 refine Pm.Spec.of_body Try.func17 rfl (by kernel_rfl) (Nat.le_of_ble_eq_true rfl) (Nat.le_of_ble_eq_true rfl) ?_
 refine W.ghost (σ' := (mkSt [(0, some (.agg (api_Basket.av x0))), (1, some (.agg (api_Asset.av x1))), (2, some (.i x2))] [] 1000)) (Gives.entry (.c rfl (.c rfl (.c rfl .n))) .n) ?_
 refine W.seq ?_
 refine W.pk ?_
 refine .t rfl rfl (O.box rfl rfl rfl rfl rfl) ?_
 refine .t rfl rfl (O.box rfl rfl rfl rfl rfl) ?_
 refine .a rfl rfl rfl rfl ?_
 refine .a rfl rfl rfl rfl ?_
 refine .nil ?_
 refine W.seq ?_
 obtain ⟨t1, b2, h⟩ := bnd1 h
 refine W.pk ?_
 refine .v rfl rfl (O.ldN ty38 rfl rfl rfl) ?_
 refine .m rfl rfl rfl rfl ?_
 refine .call (.i t1) [] 0 (asset_Left.ok b2) rfl rfl rfl ca42 rfl rfl (cC (.agg _ _ _ _ (cC (.imm _) (cC (.imm _) (cC (.imm _) (cC (.imm _) (cC (.imm _) .nil)))))) (cC (.imm _) .nil)) rfl rfl rfl rfl rfl ?_
 refine .a rfl rfl rfl rfl ?_
 refine .nil ?_
 refine W.seq ?_
 refine W.seq ?_
 refine W.pk ?_
 refine .m rfl rfl rfl rfl ?_
 refine .v rfl rfl (OpL.binI rfl rfl rfl rfl) ?_
 refine .nil ?_
 refine W.cond rfl (fun q3 => ?_) (fun q3 => ?_)
 ·have h := ifT q3 h
  refine W.seq ?_
  refine W.pk ?_
  refine .a rfl rfl rfl rfl ?_
  refine .a rfl rfl rfl rfl ?_
  refine .nil ?_
  refine W.ret ?_
  cases h
  exact leaves (.inr rfl) rfl (.tup _ _ _ _ (cC (.imm _) (cC (.imm _) .nil))) (cN (cN (cN .nil))) rfl rfl
 ·have h := ifF q3 h
  refine W.skip ?_
  refine W.seq ?_
  refine W.seq ?_
  refine W.pk ?_
  refine .v rfl rfl (O.fld fld36_6 rfl rfl rfl) ?_
  refine .v rfl rfl (O.ld (y := .imm (.row 3 (List.map api_Cut.enc x0.Cuts))) ty33 rfl rfl rfl) ?_
  refine .v rfl rfl (O.lenR sl33 rfl rfl) ?_
  refine .m rfl rfl rfl rfl ?_
  refine .nil ?_
  obtain ⟨o18, b19, z20⟩ := bnd1 h
  refine W.fork2 (out := o18) (fun (w17 : Unit) => mkSt [] [] 1002) ?_ ?_
  ·clear h
   refine W.block ?_
   refine W.loopF (fun (s_ : Int) => mkSt [(4, some (.ptr 1001 0)), (8, some (.i t1)), (17, some (.imm (.row 3 (List.map api_Cut.enc x0.Cuts)))), (18, some (.i (List.length x0.Cuts : Int))), (19, some (.i s_))] [(1001, some (.box [.s x1.ISIN, .i x1.Issuer, .i x1.Rating, .i x1.Maturity, .s x1.Currency]))] 1002) b19 (Gives.mkR [] (.r rfl rfl (.r rfl rfl (.r rfl rfl (.r rfl rfl (.r rfl rfl .n))))) (.r rfl rfl rfl .n) rfl rfl rfl) ?_
   rintro v8 s_ hr
   have h : haircut_Of.b0 x0 x1 t1 v8 = some s_ := hr
   unfold haircut_Of.b0 at h
   refine W.seq ?_
   refine W.pk ?_
   refine .v rfl rfl (OpL.binI rfl rfl rfl rfl) ?_
   refine .nil ?_
   refine W.seq ?_
   refine W.cond rfl (fun q21 => ?_) (fun q21 => ?_)
   ·have h := ifT q21 h
    refine W.skip ?_
    refine W.seq ?_
    refine W.block ?_
    refine W.seq ?_
    obtain ⟨c22, h⟩ := chk h
    refine W.pk ?_
    refine .v rfl rfl (O.idx sl33 c22 rfl rfl rfl) ?_
    refine .v rfl rfl (O.ldN ty80 rfl rfl rfl) ?_
    refine .t rfl rfl (O.alloc z80 rfl) ?_
    refine .s rfl rfl (O.st ty80 rfl rfl rfl rfl rfl rfl rfl rfl rfl rfl (all' := [.i ((nth x0.Cuts v8).Days), .i ((nth x0.Cuts v8).Rating), .i ((nth x0.Cuts v8).Cut)]) rfl) ?_
    refine .nil ?_
    refine W.seq ?_
    refine W.fork (mkSt [(4, some (.ptr 1001 0)), (8, some (.i t1)), (10, some (.ptr 1002 0)), (17, some (.imm (.row 3 (List.map api_Cut.enc x0.Cuts)))), (18, some (.i (List.length x0.Cuts : Int))), (19, some (.i v8)), (33, some (.b ((decide (t1 ≤ ((nth x0.Cuts v8).Days))) && (decide (x1.Rating ≤ ((nth x0.Cuts v8).Rating))))))] [(1001, some (.box [.s x1.ISIN, .i x1.Issuer, .i x1.Rating, .i x1.Maturity, .s x1.Currency])), (1002, some (.box [.i ((nth x0.Cuts v8).Days), .i ((nth x0.Cuts v8).Rating), .i ((nth x0.Cuts v8).Cut)]))] 1003) ?_ ?_
    ·refine W.cond rfl (fun q24 => ?_) (fun q24 => ?_)
     ·have h := ifT q24 h
      refine W.seq ?_
      refine W.pk ?_
      refine .v rfl rfl (O.fld fld80_2 rfl rfl rfl) ?_
      refine .v rfl rfl (O.ld (y := .i ((nth x0.Cuts v8).Cut)) ty3 rfl rfl rfl) ?_
      refine .a rfl rfl rfl rfl ?_
      refine .a rfl rfl rfl rfl ?_
      refine .nil ?_
      refine W.ret ?_
      cases h
      refine rdR fun e_ => ?_
      subst e_
      have h := z20
      dsimp only at h
      refine fkR ?_
      cases h
      exact leaves (.inr rfl) rfl (.tup _ _ _ _ (cC (.imm _) (cC (.imm _) .nil))) (cN (cN (cN .nil))) rfl rfl
     ·have h := ifF q24 h
      refine W.skip ?_
      refine W.pk ?_
      refine .v rfl rfl (OpL.binI rfl rfl rfl rfl) ?_
      refine .m rfl rfl rfl rfl ?_
      refine .nil ?_
      cases h
      exact rdN (Gives.mkR [] (.r rfl rfl (.r rfl rfl (.r rfl rfl (.r rfl rfl (.r rfl rfl .n))))) (.r rfl rfl rfl .n) rfl rfl rfl)
    ·clear h
     rcases tf (decide (t1 ≤ ((nth x0.Cuts v8).Days))) with g23 | g23
     ·refine W.pk ?_
      refine .m rfl rfl rfl rfl ?_
      refine .v rfl rfl (O.fld fld80_0 rfl rfl rfl) ?_
      refine .v rfl rfl (O.ld (y := .i ((nth x0.Cuts v8).Days)) ty3 rfl rfl rfl) ?_
      refine .v rfl rfl (OpL.binI rfl rfl rfl rfl) ?_
      refine .m rfl rfl rfl rfl ?_
      refine .v rfl (met rfl rfl rfl g23) (O.fld fld38_2 rfl rfl rfl) ?_
      refine .v rfl (met rfl rfl rfl g23) (O.ld (y := .i x1.Rating) ty3 rfl rfl rfl) ?_
      refine .v rfl (met rfl rfl rfl g23) (O.fld fld80_1 rfl rfl rfl) ?_
      refine .v rfl (met rfl rfl rfl g23) (O.ld (y := .i ((nth x0.Cuts v8).Rating)) ty3 rfl rfl rfl) ?_
      refine .v rfl (met rfl rfl rfl g23) (OpL.binI rfl rfl rfl rfl) ?_
      refine .v rfl rfl (O.pickT g23 rfl rfl rfl) ?_
      refine .nil ?_
      exact toN (Gives.mkR [] (.r rfl rfl (.r rfl rfl (.r rfl rfl (.r rfl rfl (.r rfl rfl (.r rfl rfl (.c rfl (sbb (by simp only [g23, Bool.true_or, Bool.or_true, Bool.false_or, Bool.or_false, Bool.true_and, Bool.and_true, Bool.false_and, Bool.and_false, Bool.not_true, Bool.not_false, cond_true, cond_false])) rfl .n))))))) (.r rfl rfl rfl (.r rfl rfl rfl .n)) rfl rfl rfl)
     ·refine W.pk ?_
      refine .m rfl rfl rfl rfl ?_
      refine .v rfl rfl (O.fld fld80_0 rfl rfl rfl) ?_
      refine .v rfl rfl (O.ld (y := .i ((nth x0.Cuts v8).Days)) ty3 rfl rfl rfl) ?_
      refine .v rfl rfl (OpL.binI rfl rfl rfl rfl) ?_
      refine .m rfl rfl rfl rfl ?_
      refine .x rfl (unmet rfl rfl rfl g23) ?_
      refine .x rfl (unmet rfl rfl rfl g23) ?_
      refine .x rfl (unmet rfl rfl rfl g23) ?_
      refine .x rfl (unmet rfl rfl rfl g23) ?_
      refine .x rfl (unmet rfl rfl rfl g23) ?_
      refine .v rfl rfl (O.pickF g23 rfl rfl rfl) ?_
      refine .nil ?_
      exact toN (Gives.mkR [] (.r rfl rfl (.r rfl rfl (.r rfl rfl (.r rfl rfl (.r rfl rfl (.r rfl rfl (.c rfl (sbb (by simp only [g23, Bool.true_or, Bool.or_true, Bool.false_or, Bool.or_false, Bool.true_and, Bool.and_true, Bool.false_and, Bool.and_false, Bool.not_true, Bool.not_false, cond_true, cond_false])) rfl .n))))))) (.r rfl rfl rfl (.r rfl rfl rfl .n)) rfl rfl rfl)
   ·have h := ifF q21 h
    refine W.exit ?_
    cases h
    refine rdX fun e_ => ?_
    subst e_
    repeat with_reducible refine thru ?_
    refine hit ?_
    exact fkN (Gives.mkR [] .n .n rfl rfl rfl)
  ·intro w17 e_
   subst e_
   clear h
   have h := z20
   dsimp only at h
   refine W.seq ?_
   refine W.pk ?_
   refine .a rfl rfl rfl rfl ?_
   refine .a rfl rfl rfl rfl ?_
   refine .nil ?_
   refine W.ret ?_
   cases h
   exact leaves (.inr rfl) rfl (.tup _ _ _ _ (cC (.imm _) (cC (.imm _) .nil))) (cN (cN (cN .nil))) rfl rfl

noncomputable def haircut_Find.f (x0 : asset_Book) (x1 : api_Basket) (x2 : api_Lot) (x3 : Int) : Option (haircut_Item × Int) :=
  (asset_Book_Get.f x0 x2.ISIN).bind fun t1 =>
  if (!t1.2) = true then
    some ((⟨(⟨[], 0⟩ : api_Lot), (⟨[], 0, 0, 0, []⟩ : api_Asset), 0, 0⟩ : haircut_Item), 21)
  else
    (asset_Book_Price.f x0 x2.ISIN).bind fun t4 =>
    if (!t4.2) = true then
      some ((⟨(⟨[], 0⟩ : api_Lot), (⟨[], 0, 0, 0, []⟩ : api_Asset), 0, 0⟩ : haircut_Item), 31)
    else
      (haircut_Of.f x1 t1.1 x3).bind fun t7 =>
      if (!t7.2) = true then
        some ((⟨(⟨[], 0⟩ : api_Lot), (⟨[], 0, 0, 0, []⟩ : api_Asset), 0, 0⟩ : haircut_Item), 23)
      else
        if ((decide (x2.Qty < 0)) || (decide (x2.Qty > 1125899906842624))) = true then
          some ((⟨(⟨[], 0⟩ : api_Lot), (⟨[], 0, 0, 0, []⟩ : api_Asset), 0, 0⟩ : haircut_Item), 1)
        else
          some ((⟨x2, t1.1, t4.1, t7.1⟩ : haircut_Item), 0)
set_option maxRecDepth 100000 in
set_option maxHeartbeats 4000000 in
theorem haircut_Find.ok {x0 : asset_Book} {x1 : api_Basket} {x2 : api_Lot} {x3 : Int} {r : haircut_Item × Int} (h : haircut_Find.f x0 x1 x2 x3 = some r) : Pm.Spec prog 31 [.xbox [.xown 38 5 (List.map api_Asset.enc x0.l), .xown 3 1 (List.map (encI .i64) x0.prices), .imm (.val (.bool x0.made))], .agg [.imm (.val (.int .i64 x1.ID)), .imm (.val (.int .i64 x1.Version)), .imm (.val (.string (tx x1.Currency))), .imm (.val (.int .i64 x1.Rating)), .imm (.val (.int .i64 x1.Least)), .imm (.val (.int .i64 x1.Most)), .imm (.row 3 (List.map api_Cut.enc x1.Cuts)), .imm (.val (.int .i64 x1.Issuer)), .imm (.val (.int .i64 x1.Asset)), .imm (.row 1 (List.map (encI .i64) x1.Barred))], .agg [.imm (.val (.string (tx x2.ISIN))), .imm (.val (.int .i64 x2.Qty))], .imm (.val (.int .i64 x3))] (.tup [.agg [.imm (.val (.string (tx r.1.Lot.ISIN))), .imm (.val (.int .i64 r.1.Lot.Qty)), .imm (.val (.string (tx r.1.Asset.ISIN))), .imm (.val (.int .i64 r.1.Asset.Issuer)), .imm (.val (.int .i64 r.1.Asset.Rating)), .imm (.val (.int .i64 r.1.Asset.Maturity)), .imm (.val (.string (tx r.1.Asset.Currency))), .imm (.val (.int .i64 r.1.Price)), .imm (.val (.int .i64 r.1.Cut))], .imm (.val (.int .i64 r.2))]) [some (.xbox [.xown 38 5 (List.map api_Asset.enc x0.l), .xown 3 1 (List.map (encI .i64) x0.prices), .imm (.val (.bool x0.made))]), none, none, none] := by
 unfold haircut_Find.f at h
 refine Pm.Spec.of_body Try.func31 rfl (by kernel_rfl) (Nat.le_of_ble_eq_true rfl) (Nat.le_of_ble_eq_true rfl) ?_
 refine W.ghost (σ' := (mkSt [(0, some (.ptr 0 0)), (1, some (.agg (api_Basket.av x1))), (2, some (.agg [.s x2.ISIN, .i x2.Qty])), (3, some (.i x3))] [(0, some (.box [.own 1, .own 2, .b x0.made])), (1, some (.rows 38 5 (List.map api_Asset.enc x0.l) false)), (2, some (.rows 3 1 (List.map (encI .i64) x0.prices) false))] 1000)) (Gives.entry (.c rfl (.c rfl (.c rfl (.c rfl .n)))) (.c rfl (.c rfl (.c rfl .n)))) ?_
 refine W.ghost (σ' := (mkSt [(0, some (.ptr 0 0)), (1, some (.agg (api_Basket.av x1))), (2, some (.agg [.s x2.ISIN, .i x2.Qty])), (3, some (.i x3))] [(0, some (.box [.own 1000, .own 1001, .b x0.made])), (1000, some (.rows 38 5 (List.map api_Asset.enc x0.l) false)), (1001, some (.rows 3 1 (List.map (encI .i64) x0.prices) false))] 1002)) (Gives.mkR [(1000, 1), (1001, 2)] (.r rfl rfl (.r rfl rfl (.r rfl rfl (.r rfl rfl .n)))) (.r rfl rfl rfl (.r rfl rfl rfl (.r rfl rfl rfl .n))) rfl rfl rfl) ?_
 refine W.seq ?_
 refine W.pk ?_
 refine .t rfl rfl (O.box rfl rfl rfl rfl rfl) ?_
 refine .t rfl rfl (O.box rfl rfl rfl rfl rfl) ?_
 refine .t rfl rfl (O.alloc z48 rfl) ?_
 refine .a rfl rfl rfl rfl ?_
 refine .nil ?_
 refine W.seq ?_
 obtain ⟨t1, b2, h⟩ := bnd1 h
 refine W.pk ?_
 refine .m rfl rfl rfl rfl ?_
 refine .v rfl rfl (O.fld fld46_0 rfl rfl rfl) ?_
 refine .v rfl rfl (O.ld (y := .s x2.ISIN) ty9 rfl rfl rfl) ?_
 refine .call (.tup [.agg (api_Asset.av t1.1), .b t1.2]) [(0, some (.box [.own 1005, .own 1006, .b x0.made])), (1005, some (.rows 38 5 (List.map api_Asset.enc x0.l) false)), (1006, some (.rows 3 1 (List.map (encI .i64) x0.prices) false)), (0, none), (1000, none), (1001, none)] 2 (asset_Book_Get.ok b2) rfl rfl rfl ca53 rfl rfl (cC (.ptr _ _ _ _ _ rfl (cC (.own _ _ _ _ rfl) (cC (.own _ _ _ _ rfl) (cC (.imm _) .nil)))) (cC (.imm _) .nil)) rfl rfl rfl rfl rfl ?_
 refine .m rfl rfl rfl rfl ?_
 refine .v rfl rfl (OpL.extract rfl rfl rfl) ?_
 refine .v rfl rfl (OpL.extract rfl rfl rfl) ?_
 refine .t rfl rfl (O.alloc z38 rfl) ?_
 refine .s rfl rfl (O.st ty38 rfl rfl rfl rfl rfl rfl rfl rfl rfl rfl (all' := [.s t1.1.ISIN, .i t1.1.Issuer, .i t1.1.Rating, .i t1.1.Maturity, .s t1.1.Currency]) rfl) ?_
 refine .a rfl rfl rfl rfl ?_
 refine .nil ?_
 refine W.seq ?_
 refine W.seq ?_
 refine W.pk ?_
 refine .m rfl rfl rfl rfl ?_
 refine .v rfl rfl (OpL.unV rfl rfl rfl) ?_
 refine .nil ?_
 refine W.cond rfl (fun q3 => ?_) (fun q3 => ?_)
 ·have h := ifT q3 h
  refine W.seq ?_
  refine W.pk ?_
  refine .v rfl rfl (O.build (out := [.s [], .i 0, .s [], .i 0, .i 0, .i 0, .s [], .i 0, .i 0]) bl48 rfl rfl rfl rfl (by kernel_rfl)) ?_
  refine .s rfl rfl (O.st ty48 rfl rfl rfl rfl rfl rfl rfl rfl rfl rfl (all' := [.s [], .i 0, .s [], .i 0, .i 0, .i 0, .s [], .i 0, .i 0]) rfl) ?_
  refine .a rfl rfl rfl rfl ?_
  refine .nil ?_
  refine W.ret ?_
  cases h
  exact leaves (.inr rfl) rfl (.tup _ _ _ _ (cC (.agg _ _ _ _ (cC (.imm _) (cC (.imm _) (cC (.imm _) (cC (.imm _) (cC (.imm _) (cC (.imm _) (cC (.imm _) (cC (.imm _) (cC (.imm _) .nil)))))))))) (cC (.imm _) .nil))) (cS (.ptr _ _ _ _ _ rfl (cC (.own _ _ _ _ rfl) (cC (.own _ _ _ _ rfl) (cC (.imm _) .nil)))) (cN (cN (cN .nil)))) rfl rfl
 ·have h := ifF q3 h
  refine W.skip ?_
  refine W.seq ?_
  obtain ⟨t4, b5, h⟩ := bnd1 h
  refine W.pk ?_
  refine .m rfl rfl rfl rfl ?_
  refine .v rfl rfl (O.fld fld46_0 rfl rfl rfl) ?_
  refine .v rfl rfl (O.ld (y := .s x2.ISIN) ty9 rfl rfl rfl) ?_
  refine .call (.tup [.i t4.1, .b t4.2]) [(0, some (.box [.own 1008, .own 1009, .b x0.made])), (1008, some (.rows 38 5 (List.map api_Asset.enc x0.l) false)), (1009, some (.rows 3 1 (List.map (encI .i64) x0.prices) false)), (0, none), (1005, none), (1006, none)] 2 (asset_Book_Price.ok b5) rfl rfl rfl ca54 rfl rfl (cC (.ptr _ _ _ _ _ rfl (cC (.own _ _ _ _ rfl) (cC (.own _ _ _ _ rfl) (cC (.imm _) .nil)))) (cC (.imm _) .nil)) rfl rfl rfl rfl rfl ?_
  refine .m rfl rfl rfl rfl ?_
  refine .v rfl rfl (OpL.extract rfl rfl rfl) ?_
  refine .v rfl rfl (OpL.extract rfl rfl rfl) ?_
  refine .a rfl rfl rfl rfl ?_
  refine .a rfl rfl rfl rfl ?_
  refine .nil ?_
  refine W.seq ?_
  refine W.seq ?_
  refine W.pk ?_
  refine .m rfl rfl rfl rfl ?_
  refine .v rfl rfl (OpL.unV rfl rfl rfl) ?_
  refine .nil ?_
  refine W.cond rfl (fun q6 => ?_) (fun q6 => ?_)
  ·have h := ifT q6 h
   refine W.seq ?_
   refine W.pk ?_
   refine .v rfl rfl (O.build (out := [.s [], .i 0, .s [], .i 0, .i 0, .i 0, .s [], .i 0, .i 0]) bl48 rfl rfl rfl rfl (by kernel_rfl)) ?_
   refine .s rfl rfl (O.st ty48 rfl rfl rfl rfl rfl rfl rfl rfl rfl rfl (all' := [.s [], .i 0, .s [], .i 0, .i 0, .i 0, .s [], .i 0, .i 0]) rfl) ?_
   refine .a rfl rfl rfl rfl ?_
   refine .nil ?_
   refine W.ret ?_
   cases h
   exact leaves (.inr rfl) rfl (.tup _ _ _ _ (cC (.agg _ _ _ _ (cC (.imm _) (cC (.imm _) (cC (.imm _) (cC (.imm _) (cC (.imm _) (cC (.imm _) (cC (.imm _) (cC (.imm _) (cC (.imm _) .nil)))))))))) (cC (.imm _) .nil))) (cS (.ptr _ _ _ _ _ rfl (cC (.own _ _ _ _ rfl) (cC (.own _ _ _ _ rfl) (cC (.imm _) .nil)))) (cN (cN (cN .nil)))) rfl rfl
  ·have h := ifF q6 h
   refine W.skip ?_
   refine W.seq ?_
   obtain ⟨t7, b8, h⟩ := bnd1 h
   refine W.pk ?_
   refine .v rfl rfl (O.ldN ty36 rfl rfl rfl) ?_
   refine .v rfl rfl (O.ldN ty38 rfl rfl rfl) ?_
   refine .m rfl rfl rfl rfl ?_
   refine .call (.tup [.i t7.1, .b t7.2]) [] 0 (haircut_Of.ok b8) rfl rfl rfl ca17 rfl rfl (cC (.agg _ _ _ _ (cC (.imm _) (cC (.imm _) (cC (.imm _) (cC (.imm _) (cC (.imm _) (cC (.imm _) (cC (.imm _) (cC (.imm _) (cC (.imm _) (cC (.imm _) .nil))))))))))) (cC (.agg _ _ _ _ (cC (.imm _) (cC (.imm _) (cC (.imm _) (cC (.imm _) (cC (.imm _) .nil)))))) (cC (.imm _) .nil))) rfl rfl rfl rfl rfl ?_
   refine .m rfl rfl rfl rfl ?_
   refine .v rfl rfl (OpL.extract rfl rfl rfl) ?_
   refine .v rfl rfl (OpL.extract rfl rfl rfl) ?_
   refine .a rfl rfl rfl rfl ?_
   refine .a rfl rfl rfl rfl ?_
   refine .nil ?_
   refine W.seq ?_
   refine W.seq ?_
   refine W.pk ?_
   refine .m rfl rfl rfl rfl ?_
   refine .v rfl rfl (OpL.unV rfl rfl rfl) ?_
   refine .nil ?_
   refine W.cond rfl (fun q9 => ?_) (fun q9 => ?_)
   ·have h := ifT q9 h
    refine W.seq ?_
    refine W.pk ?_
    refine .v rfl rfl (O.build (out := [.s [], .i 0, .s [], .i 0, .i 0, .i 0, .s [], .i 0, .i 0]) bl48 rfl rfl rfl rfl (by kernel_rfl)) ?_
    refine .s rfl rfl (O.st ty48 rfl rfl rfl rfl rfl rfl rfl rfl rfl rfl (all' := [.s [], .i 0, .s [], .i 0, .i 0, .i 0, .s [], .i 0, .i 0]) rfl) ?_
    refine .a rfl rfl rfl rfl ?_
    refine .nil ?_
    refine W.ret ?_
    cases h
    exact leaves (.inr rfl) rfl (.tup _ _ _ _ (cC (.agg _ _ _ _ (cC (.imm _) (cC (.imm _) (cC (.imm _) (cC (.imm _) (cC (.imm _) (cC (.imm _) (cC (.imm _) (cC (.imm _) (cC (.imm _) .nil)))))))))) (cC (.imm _) .nil))) (cS (.ptr _ _ _ _ _ rfl (cC (.own _ _ _ _ rfl) (cC (.own _ _ _ _ rfl) (cC (.imm _) .nil)))) (cN (cN (cN .nil)))) rfl rfl
   ·have h := ifF q9 h
    refine W.skip ?_
    refine W.seq ?_
    refine W.seq ?_
    refine W.fork (mkSt [(6, some (.ptr 1003 0)), (8, some (.ptr 1004 0)), (10, some (.ptr 1007 0)), (12, some (.i t4.1)), (13, some (.i t7.1)), (51, some (.b ((decide (x2.Qty < 0)) || (decide (x2.Qty > 1125899906842624)))))] [(0, some (.box [.own 1008, .own 1009, .b x0.made])), (1003, some (.box [.s x2.ISIN, .i x2.Qty])), (1004, some (.box [.s [], .i 0, .s [], .i 0, .i 0, .i 0, .s [], .i 0, .i 0])), (1007, some (.box [.s t1.1.ISIN, .i t1.1.Issuer, .i t1.1.Rating, .i t1.1.Maturity, .s t1.1.Currency])), (1008, some (.rows 38 5 (List.map api_Asset.enc x0.l) false)), (1009, some (.rows 3 1 (List.map (encI .i64) x0.prices) false))] 1010) ?_ ?_
    ·refine W.cond rfl (fun q11 => ?_) (fun q11 => ?_)
     ·have h := ifT q11 h
      refine W.seq ?_
      refine W.pk ?_
      refine .v rfl rfl (O.build (out := [.s [], .i 0, .s [], .i 0, .i 0, .i 0, .s [], .i 0, .i 0]) bl48 rfl rfl rfl rfl (by kernel_rfl)) ?_
      refine .s rfl rfl (O.st ty48 rfl rfl rfl rfl rfl rfl rfl rfl rfl rfl (all' := [.s [], .i 0, .s [], .i 0, .i 0, .i 0, .s [], .i 0, .i 0]) rfl) ?_
      refine .a rfl rfl rfl rfl ?_
      refine .nil ?_
      refine W.ret ?_
      cases h
      exact leaves (.inr rfl) rfl (.tup _ _ _ _ (cC (.agg _ _ _ _ (cC (.imm _) (cC (.imm _) (cC (.imm _) (cC (.imm _) (cC (.imm _) (cC (.imm _) (cC (.imm _) (cC (.imm _) (cC (.imm _) .nil)))))))))) (cC (.imm _) .nil))) (cS (.ptr _ _ _ _ _ rfl (cC (.own _ _ _ _ rfl) (cC (.own _ _ _ _ rfl) (cC (.imm _) .nil)))) (cN (cN (cN .nil)))) rfl rfl
     ·have h := ifF q11 h
      refine W.skip ?_
      refine W.seq ?_
      refine W.pk ?_
      refine .v rfl rfl (O.ldN ty46 rfl rfl rfl) ?_
      refine .v rfl rfl (O.ldN ty38 rfl rfl rfl) ?_
      refine .m rfl rfl rfl rfl ?_
      refine .m rfl rfl rfl rfl ?_
      refine .v rfl rfl (O.build (out := [.s x2.ISIN, .i x2.Qty, .s t1.1.ISIN, .i t1.1.Issuer, .i t1.1.Rating, .i t1.1.Maturity, .s t1.1.Currency, .i t4.1, .i t7.1]) bl48 rfl rfl rfl rfl (by kernel_rfl)) ?_
      refine .s rfl rfl (O.st ty48 rfl rfl rfl rfl rfl rfl rfl rfl rfl rfl (all' := [.s x2.ISIN, .i x2.Qty, .s t1.1.ISIN, .i t1.1.Issuer, .i t1.1.Rating, .i t1.1.Maturity, .s t1.1.Currency, .i t4.1, .i t7.1]) rfl) ?_
      refine .a rfl rfl rfl rfl ?_
      refine .nil ?_
      refine W.ret ?_
      cases h
      exact leaves (.inr rfl) rfl (.tup _ _ _ _ (cC (.agg _ _ _ _ (cC (.imm _) (cC (.imm _) (cC (.imm _) (cC (.imm _) (cC (.imm _) (cC (.imm _) (cC (.imm _) (cC (.imm _) (cC (.imm _) .nil)))))))))) (cC (.imm _) .nil))) (cS (.ptr _ _ _ _ _ rfl (cC (.own _ _ _ _ rfl) (cC (.own _ _ _ _ rfl) (cC (.imm _) .nil)))) (cN (cN (cN .nil)))) rfl rfl
    ·clear h
     rcases tf (decide (x2.Qty < 0)) with g10 | g10
     ·refine W.pk ?_
      refine .v rfl rfl (O.fld fld46_1 rfl rfl rfl) ?_
      refine .v rfl rfl (O.ld (y := .i x2.Qty) ty3 rfl rfl rfl) ?_
      refine .v rfl rfl (OpL.binI rfl rfl rfl rfl) ?_
      refine .m rfl rfl rfl rfl ?_
      refine .x rfl (unmet rfl rfl rfl g10) ?_
      refine .x rfl (unmet rfl rfl rfl g10) ?_
      refine .x rfl (unmet rfl rfl rfl g10) ?_
      refine .v rfl rfl (O.pickT g10 rfl rfl rfl) ?_
      refine .nil ?_
      exact toN (Gives.mkR [] (.r rfl rfl (.r rfl rfl (.r rfl rfl (.r rfl rfl (.r rfl rfl (.c rfl (sbb (by simp only [g10, Bool.true_or, Bool.or_true, Bool.false_or, Bool.or_false, Bool.true_and, Bool.and_true, Bool.false_and, Bool.and_false, Bool.not_true, Bool.not_false, cond_true, cond_false])) rfl .n)))))) (.r rfl rfl rfl (.r rfl rfl rfl (.r rfl rfl rfl (.r rfl rfl rfl (.r rfl rfl rfl (.r rfl rfl rfl .n)))))) rfl rfl rfl)
     ·refine W.pk ?_
      refine .v rfl rfl (O.fld fld46_1 rfl rfl rfl) ?_
      refine .v rfl rfl (O.ld (y := .i x2.Qty) ty3 rfl rfl rfl) ?_
      refine .v rfl rfl (OpL.binI rfl rfl rfl rfl) ?_
      refine .m rfl rfl rfl rfl ?_
      refine .v rfl (met rfl rfl rfl g10) (O.fld fld46_1 rfl rfl rfl) ?_
      refine .v rfl (met rfl rfl rfl g10) (O.ld (y := .i x2.Qty) ty3 rfl rfl rfl) ?_
      refine .v rfl (met rfl rfl rfl g10) (OpL.binI rfl rfl rfl rfl) ?_
      refine .v rfl rfl (O.pickF g10 rfl rfl rfl) ?_
      refine .nil ?_
      exact toN (Gives.mkR [] (.r rfl rfl (.r rfl rfl (.r rfl rfl (.r rfl rfl (.r rfl rfl (.c rfl (sbb (by simp only [g10, Bool.true_or, Bool.or_true, Bool.false_or, Bool.or_false, Bool.true_and, Bool.and_true, Bool.false_and, Bool.and_false, Bool.not_true, Bool.not_false, cond_true, cond_false])) rfl .n)))))) (.r rfl rfl rfl (.r rfl rfl rfl (.r rfl rfl rfl (.r rfl rfl rfl (.r rfl rfl rfl (.r rfl rfl rfl .n)))))) rfl rfl rfl)

noncomputable def lombardref13_Left.f (x0 : api_Asset) (x1 : Int) : Option (Int) :=
  if ((decide (x1 < 0)) || (decide (x1 > 200000))) = true then
    some (-1)
  else
    some (IntKind.wrap .i64 (x0.Maturity - x1))
set_option maxRecDepth 100000 in
set_option maxHeartbeats 4000000 in
theorem lombardref13_Left.ok {x0 : api_Asset} {x1 : Int} {r : Int} (h : lombardref13_Left.f x0 x1 = some r) : Pm.Spec prog 43 [.agg [.imm (.val (.string (tx x0.ISIN))), .imm (.val (.int .i64 x0.Issuer)), .imm (.val (.int .i64 x0.Rating)), .imm (.val (.int .i64 x0.Maturity)), .imm (.val (.string (tx x0.Currency)))], .imm (.val (.int .i64 x1))] (.imm (.val (.int .i64 r))) [none, none] := by
 unfold lombardref13_Left.f at h
 refine Pm.Spec.of_body Try.func43 rfl (by kernel_rfl) (Nat.le_of_ble_eq_true rfl) (Nat.le_of_ble_eq_true rfl) ?_
 refine W.ghost (σ' := (mkSt [(0, some (.agg (api_Asset.av x0))), (1, some (.i x1))] [] 1000)) (Gives.entry (.c rfl (.c rfl .n)) .n) ?_
 refine W.seq ?_
 refine W.pk ?_
 refine .t rfl rfl (O.box rfl rfl rfl rfl rfl) ?_
 refine .a rfl rfl rfl rfl ?_
 refine .nil ?_
 refine W.seq ?_
 refine W.seq ?_
 refine W.fork (mkSt [(1, some (.i x1)), (2, some (.ptr 1000 0)), (10, some (.b ((decide (x1 < 0)) || (decide (x1 > 200000)))))] [(1000, some (.box [.s x0.ISIN, .i x0.Issuer, .i x0.Rating, .i x0.Maturity, .s x0.Currency]))] 1001) ?_ ?_
 ·refine W.cond rfl (fun q2 => ?_) (fun q2 => ?_)
  ·have h := ifT q2 h
   refine W.seq ?_
   refine W.pk ?_
   refine .a rfl rfl rfl rfl ?_
   refine .nil ?_
   refine W.ret ?_
   cases h
   exact leaves (.inr rfl) rfl (.imm _) (cN (cN .nil)) rfl rfl
  ·have h := ifF q2 h
   refine W.skip ?_
   refine W.seq ?_
   refine W.pk ?_
   refine .v rfl rfl (O.fld fld38_3 rfl rfl rfl) ?_
   refine .v rfl rfl (O.ld (y := .i x0.Maturity) ty3 rfl rfl rfl) ?_
   refine .m rfl rfl rfl rfl ?_
   refine .v rfl rfl (OpL.binI rfl rfl rfl rfl) ?_
   refine .a rfl rfl rfl rfl ?_
   refine .nil ?_
   refine W.ret ?_
   cases h
   exact leaves (.inr rfl) rfl (.imm _) (cN (cN .nil)) rfl rfl
 ·clear h
  rcases tf (decide (x1 < 0)) with g1 | g1
  ·refine W.pk ?_
   refine .m rfl rfl rfl rfl ?_
   refine .v rfl rfl (OpL.binI rfl rfl rfl rfl) ?_
   refine .m rfl rfl rfl rfl ?_
   refine .x rfl (unmet rfl rfl rfl g1) ?_
   refine .x rfl (unmet rfl rfl rfl g1) ?_
   refine .v rfl rfl (O.pickT g1 rfl rfl rfl) ?_
   refine .nil ?_
   exact toN (Gives.mkR [] (.r rfl rfl (.r rfl rfl (.c rfl (sbb (by simp only [g1, Bool.true_or, Bool.or_true, Bool.false_or, Bool.or_false, Bool.true_and, Bool.and_true, Bool.false_and, Bool.and_false, Bool.not_true, Bool.not_false, cond_true, cond_false])) rfl .n))) (.r rfl rfl rfl .n) rfl rfl rfl)
  ·refine W.pk ?_
   refine .m rfl rfl rfl rfl ?_
   refine .v rfl rfl (OpL.binI rfl rfl rfl rfl) ?_
   refine .m rfl rfl rfl rfl ?_
   refine .m rfl (met rfl rfl rfl g1) rfl rfl ?_
   refine .v rfl (met rfl rfl rfl g1) (OpL.binI rfl rfl rfl rfl) ?_
   refine .v rfl rfl (O.pickF g1 rfl rfl rfl) ?_
   refine .nil ?_
   exact toN (Gives.mkR [] (.r rfl rfl (.r rfl rfl (.c rfl (sbb (by simp only [g1, Bool.true_or, Bool.or_true, Bool.false_or, Bool.or_false, Bool.true_and, Bool.and_true, Bool.false_and, Bool.and_false, Bool.not_true, Bool.not_false, cond_true, cond_false])) rfl .n))) (.r rfl rfl rfl .n) rfl rfl rfl)
end Go.Proofs.Ytdcpdnfalnelkaa
