/- Shows what functions of the program come to, each as a plain function: written by a program of the author's for this claim. -/
import Derived.Test.YtkcjlpiaaklnkaaGx3
namespace Go.Proofs.Ytkcjlpiaaklnkaa
open Go Go.Pm
set_option linter.unusedVariables false
set_option linter.unusedSimpArgs false
noncomputable def slices_BinarySearchFunc_string__asset_Book_place_1.b0 (x0 : List api_Asset) (x1 : Bs) (v6 : Int) (v7 : Int) : Option ((Int × Int) ⊕ Int) :=
  if (decide (v6 < v7)) = true then
    if (0 : Int) ≤ (IntKind.wrap .i64 (shrI .u64 (IntKind.wrap .u64 (IntKind.wrap .i64 (v6 + v7))) 1)) ∧ (IntKind.wrap .i64 (shrI .u64 (IntKind.wrap .u64 (IntKind.wrap .i64 (v6 + v7))) 1)) < (List.length x0 : Int) then
    (asset_Book_place_1_v2.f (nth x0 (IntKind.wrap .i64 (shrI .u64 (IntKind.wrap .u64 (IntKind.wrap .i64 (v6 + v7))) 1))) x1).bind fun t24 =>
    if (decide (t24 < 0)) = true then
      some (.inl ((IntKind.wrap .i64 ((IntKind.wrap .i64 (shrI .u64 (IntKind.wrap .u64 (IntKind.wrap .i64 (v6 + v7))) 1)) + 1)), v7))
    else
      some (.inl (v6, (IntKind.wrap .i64 (shrI .u64 (IntKind.wrap .u64 (IntKind.wrap .i64 (v6 + v7))) 1))))
    else none
  else
    some (.inr v6)
noncomputable def slices_BinarySearchFunc_string__asset_Book_place_1.r0 (x0 : List api_Asset) (x1 : Bs) (s : Int × Int) : Option ((Int × Int) ⊕ Int) := slices_BinarySearchFunc_string__asset_Book_place_1.b0 x0 x1 s.1 s.2
noncomputable def slices_BinarySearchFunc_string__asset_Book_place_1.f (x0 : List api_Asset) (x1 : Bs) : Option (Int × Bool) :=
  (loop (slices_BinarySearchFunc_string__asset_Book_place_1.r0 x0 x1) (0, (List.length x0 : Int))).bind fun o19 =>
  if ((decide (o19 < (List.length x0 : Int))) = true → (0 : Int) ≤ o19 ∧ o19 < (List.length x0 : Int)) then
  (if (decide (o19 < (List.length x0 : Int))) = true then asset_Book_place_1_v2.f (nth x0 o19) x1 else some default).bind fun t28 =>
  some (o19, ((decide (o19 < (List.length x0 : Int))) && (t28 == 0)))
  else none
set_option maxRecDepth 100000 in
set_option maxHeartbeats 4000000 in
theorem slices_BinarySearchFunc_string__asset_Book_place_1.ok {x0 : List api_Asset} {x1 : Bs} {r : Int × Bool} (h : slices_BinarySearchFunc_string__asset_Book_place_1.f x0 x1 = some r) : Pm.Spec prog 50 [.xown 29 5 (List.map api_Asset.enc x0), .imm (.val (.string (tx x1))), .fn 51 []] (.tup [.imm (.val (.int .i64 r.1)), .imm (.val (.bool r.2))]) [some (.xown 29 5 (List.map api_Asset.enc x0)), none, none] := by
 unfold slices_BinarySearchFunc_string__asset_Book_place_1.f at h
 refine Pm.Spec.of_body Try.func50 rfl (by kernel_rfl) (Nat.le_of_ble_eq_true rfl) (Nat.le_of_ble_eq_true rfl) ?_
 refine W.ghost (σ' := (mkSt [(0, some (.own 0)), (1, some (.s x1)), (2, some (.fn 51 []))] [(0, some (.rows 29 5 (List.map api_Asset.enc x0) false))] 1000)) (Gives.entry (.c rfl (.c rfl (.c rfl .n))) (.c rfl .n)) ?_
 refine W.seq ?_
 refine W.pk ?_
 refine .a rfl rfl rfl rfl ?_
 refine .a rfl rfl rfl rfl ?_
 refine .nil ?_
 refine W.seq ?_
 refine W.pk ?_
 refine .m rfl rfl rfl rfl ?_
 refine .v rfl rfl (O.lenO sl68 rfl rfl rfl) ?_
 refine .a rfl rfl rfl rfl ?_
 refine .nil ?_
 refine W.seq ?_
 refine W.pk ?_
 refine .m rfl rfl rfl rfl ?_
 refine .a rfl rfl rfl rfl ?_
 refine .a rfl rfl rfl rfl ?_
 refine .nil ?_
 refine W.seq ?_
 obtain ⟨o19, b20, h⟩ := bnd1 h
 refine W.fork (mkSt [(0, some (.own 0)), (1, some (.s x1)), (2, some (.fn 51 [])), (8, some (.i (List.length x0 : Int))), (9, some (.i o19))] [(0, some (.rows 29 5 (List.map api_Asset.enc x0) false))] 1000) ?_ ?_
 ·refine W.seq ?_
  obtain ⟨c27, h⟩ := chk h
  obtain ⟨t28, b29, h⟩ := bnd1 h
  refine W.fork (mkSt [(6, some (.i o19)), (7, some (.b ((decide (o19 < (List.length x0 : Int))) && (t28 == 0))))] [(0, some (.rows 29 5 (List.map api_Asset.enc x0) false))] 1000) ?_ ?_
  ·refine W.ret ?_
   cases h
   exact leaves (.inr rfl) rfl (.tup _ _ _ _ (cC (.imm _) (cC (.imm _) .nil))) (cS (.own _ _ _ _ rfl) (cN (cN .nil))) rfl rfl
  ·clear h
   rcases tf (decide (o19 < (List.length x0 : Int))) with g30 | g30
   ·refine W.pk ?_
    refine .m rfl rfl rfl rfl ?_
    refine .m rfl rfl rfl rfl ?_
    refine .m rfl rfl rfl rfl ?_
    refine .v rfl rfl (OpL.binI rfl rfl rfl rfl) ?_
    refine .m rfl rfl rfl rfl ?_
    refine .m rfl (met rfl rfl rfl g30) rfl rfl ?_
    refine .m rfl (met rfl rfl rfl g30) rfl rfl ?_
    refine .m rfl (met rfl rfl rfl g30) rfl rfl ?_
    refine .v rfl (met rfl rfl rfl g30) (O.idxO sl68 (c27 (by simp only [g30, Bool.true_or, Bool.or_true, Bool.false_or, Bool.or_false, Bool.true_and, Bool.and_true, Bool.false_and, Bool.and_false, Bool.not_true, Bool.not_false, cond_true, cond_false])) rfl rfl rfl rfl) ?_
    refine .v rfl (met rfl rfl rfl g30) (O.ldEN ty29 (c27 (by simp only [g30, Bool.true_or, Bool.or_true, Bool.false_or, Bool.or_false, Bool.true_and, Bool.and_true, Bool.false_and, Bool.and_false, Bool.not_true, Bool.not_false, cond_true, cond_false])) rfl rfl rfl rfl rfl) ?_
    refine .m rfl (met rfl rfl rfl g30) rfl rfl ?_
    refine .call (.i t28) [] 0 (asset_Book_place_1_v2.ok ((if_pos (by simp only [g30, Bool.true_or, Bool.or_true, Bool.false_or, Bool.or_false, Bool.true_and, Bool.and_true, Bool.false_and, Bool.and_false, Bool.not_true, Bool.not_false, cond_true, cond_false])).symm.trans b29)) rfl (met rfl rfl rfl g30) rfl ca51 rfl rfl (cC (.agg _ _ _ _ (cC (.imm _) (cC (.imm _) (cC (.imm _) (cC (.imm _) (cC (.imm _) .nil)))))) (cC (.imm _) .nil)) rfl rfl rfl rfl rfl ?_
    refine .v rfl (met rfl rfl rfl g30) (OpL.binI rfl rfl rfl rfl) ?_
    refine .v rfl rfl (O.pickT g30 rfl rfl rfl) ?_
    refine .a rfl rfl rfl rfl ?_
    refine .a rfl rfl rfl rfl ?_
    refine .nil ?_
    exact toN (Gives.mkR [] (.r rfl rfl (.c rfl (sbb (by simp only [g30, Bool.true_or, Bool.or_true, Bool.false_or, Bool.or_false, Bool.true_and, Bool.and_true, Bool.false_and, Bool.and_false, Bool.not_true, Bool.not_false, cond_true, cond_false])) rfl .n)) (.r rfl rfl rfl .n) rfl rfl rfl)
   ·refine W.pk ?_
    refine .m rfl rfl rfl rfl ?_
    refine .m rfl rfl rfl rfl ?_
    refine .m rfl rfl rfl rfl ?_
    refine .v rfl rfl (OpL.binI rfl rfl rfl rfl) ?_
    refine .m rfl rfl rfl rfl ?_
    refine .x rfl (unmet rfl rfl rfl g30) ?_
    refine .x rfl (unmet rfl rfl rfl g30) ?_
    refine .x rfl (unmet rfl rfl rfl g30) ?_
    refine .x rfl (unmet rfl rfl rfl g30) ?_
    refine .x rfl (unmet rfl rfl rfl g30) ?_
    refine .x rfl (unmet rfl rfl rfl g30) ?_
    refine .x rfl (unmet rfl rfl rfl g30) ?_
    refine .x rfl (unmet rfl rfl rfl g30) ?_
    refine .v rfl rfl (O.pickF g30 rfl rfl rfl) ?_
    refine .a rfl rfl rfl rfl ?_
    refine .a rfl rfl rfl rfl ?_
    refine .nil ?_
    exact toN (Gives.mkR [] (.r rfl rfl (.c rfl (sbb (by simp only [g30, Bool.true_or, Bool.or_true, Bool.false_or, Bool.or_false, Bool.true_and, Bool.and_true, Bool.false_and, Bool.and_false, Bool.not_true, Bool.not_false, cond_true, cond_false])) rfl .n)) (.r rfl rfl rfl .n) rfl rfl rfl)
 ·clear h
  refine W.block ?_
  refine W.loopF (fun (s_ : Int × Int) => mkSt [(0, some (.own 0)), (1, some (.s x1)), (2, some (.fn 51 [])), (8, some (.i (List.length x0 : Int))), (9, some (.i s_.1)), (10, some (.i s_.2))] [(0, some (.rows 29 5 (List.map api_Asset.enc x0) false))] 1000) b20 (Gives.mkR [] (.r rfl rfl (.r rfl rfl (.r rfl rfl (.r rfl rfl (.r rfl rfl (.r rfl rfl .n)))))) (.r rfl rfl rfl .n) rfl rfl rfl) ?_
  rintro ⟨v6, v7⟩ s_ hr
  have h : slices_BinarySearchFunc_string__asset_Book_place_1.b0 x0 x1 v6 v7 = some s_ := hr
  unfold slices_BinarySearchFunc_string__asset_Book_place_1.b0 at h
  refine W.seq ?_
  refine W.seq ?_
  refine W.pk ?_
  refine .m rfl rfl rfl rfl ?_
  refine .m rfl rfl rfl rfl ?_
  refine .v rfl rfl (OpL.binI rfl rfl rfl rfl) ?_
  refine .nil ?_
  refine W.cond rfl (fun q22 => ?_) (fun q22 => ?_)
  ·have h := ifT q22 h
   refine W.skip ?_
   refine W.block ?_
   refine W.seq ?_
   refine W.pk ?_
   refine .m rfl rfl rfl rfl ?_
   refine .m rfl rfl rfl rfl ?_
   refine .v rfl rfl (OpL.binI rfl rfl rfl rfl) ?_
   refine .v rfl rfl (O.conv h3 u118 rfl rfl) ?_
   refine .v rfl rfl (O.shr (by decide) rfl rfl rfl) ?_
   refine .v rfl rfl (O.conv h118 u3 rfl rfl) ?_
   refine .a rfl rfl rfl rfl ?_
   refine .nil ?_
   refine W.seq ?_
   obtain ⟨c23, h⟩ := chk h
   obtain ⟨t24, b25, h⟩ := bnd1 h
   refine W.pk ?_
   refine .m rfl rfl rfl rfl ?_
   refine .m rfl rfl rfl rfl ?_
   refine .m rfl rfl rfl rfl ?_
   refine .v rfl rfl (O.idxO sl68 c23 rfl rfl rfl rfl) ?_
   refine .v rfl rfl (O.ldEN ty29 c23 rfl rfl rfl rfl rfl) ?_
   refine .m rfl rfl rfl rfl ?_
   refine .call (.i t24) [] 0 (asset_Book_place_1_v2.ok b25) rfl rfl rfl ca51 rfl rfl (cC (.agg _ _ _ _ (cC (.imm _) (cC (.imm _) (cC (.imm _) (cC (.imm _) (cC (.imm _) .nil)))))) (cC (.imm _) .nil)) rfl rfl rfl rfl rfl ?_
   refine .v rfl rfl (OpL.binI rfl rfl rfl rfl) ?_
   refine .nil ?_
   refine W.cond rfl (fun q26 => ?_) (fun q26 => ?_)
   ·have h := ifT q26 h
    refine W.pk ?_
    refine .m rfl rfl rfl rfl ?_
    refine .v rfl rfl (OpL.binI rfl rfl rfl rfl) ?_
    refine .a rfl rfl rfl rfl ?_
    refine .nil ?_
    cases h
    exact rdN (Gives.mkR [] (.r rfl rfl (.r rfl rfl (.r rfl rfl (.r rfl rfl (.r rfl rfl (.r rfl rfl .n)))))) (.r rfl rfl rfl .n) rfl rfl rfl)
   ·have h := ifF q26 h
    refine W.pk ?_
    refine .m rfl rfl rfl rfl ?_
    refine .a rfl rfl rfl rfl ?_
    refine .nil ?_
    cases h
    exact rdN (Gives.mkR [] (.r rfl rfl (.r rfl rfl (.r rfl rfl (.r rfl rfl (.r rfl rfl (.r rfl rfl .n)))))) (.r rfl rfl rfl .n) rfl rfl rfl)
  ·have h := ifF q22 h
   refine W.exit ?_
   cases h
   refine rdX fun e_ => ?_
   subst e_
   repeat with_reducible refine thru ?_
   refine hit ?_
   exact toN (Gives.mkR [] (.r rfl rfl (.r rfl rfl (.r rfl rfl (.r rfl rfl (.r rfl rfl .n))))) (.r rfl rfl rfl .n) rfl rfl rfl)

noncomputable def asset_Book_place.f (x0 : asset_Book) (x1 : Bs) : Option (Int × Bool) :=
  (slices_BinarySearchFunc_string__asset_Book_place_1.f x0.l x1).bind fun t1 =>
  some (t1.1, t1.2)
set_option maxRecDepth 100000 in
set_option maxHeartbeats 4000000 in
theorem asset_Book_place.ok {x0 : asset_Book} {x1 : Bs} {r : Int × Bool} (h : asset_Book_place.f x0 x1 = some r) : Pm.Spec prog 34 [.xbox [.xown 29 5 (List.map api_Asset.enc x0.l), .xown 3 1 (List.map (encI .i64) x0.prices), .imm (.val (.bool x0.made))], .imm (.val (.string (tx x1)))] (.tup [.imm (.val (.int .i64 r.1)), .imm (.val (.bool r.2))]) [some (.xbox [.xown 29 5 (List.map api_Asset.enc x0.l), .xown 3 1 (List.map (encI .i64) x0.prices), .imm (.val (.bool x0.made))]), none] := by
 unfold asset_Book_place.f at h
 refine Pm.Spec.of_body Try.func34 rfl (by kernel_rfl) (Nat.le_of_ble_eq_true rfl) (Nat.le_of_ble_eq_true rfl) ?_
 refine W.ghost (σ' := (mkSt [(0, some (.ptr 0 0)), (1, some (.s x1))] [(0, some (.box [.own 1, .own 2, .b x0.made])), (1, some (.rows 29 5 (List.map api_Asset.enc x0.l) false)), (2, some (.rows 3 1 (List.map (encI .i64) x0.prices) false))] 1000)) (Gives.entry (.c rfl (.c rfl .n)) (.c rfl (.c rfl (.c rfl .n)))) ?_
 refine W.ghost (σ' := (mkSt [(0, some (.ptr 0 0)), (1, some (.s x1))] [(0, some (.box [.own 1000, .own 1001, .b x0.made])), (1000, some (.rows 29 5 (List.map api_Asset.enc x0.l) false)), (1001, some (.rows 3 1 (List.map (encI .i64) x0.prices) false))] 1002)) (Gives.mkR [(1000, 1), (1001, 2)] (.r rfl rfl (.r rfl rfl .n)) (.r rfl rfl rfl (.r rfl rfl rfl (.r rfl rfl rfl .n))) rfl rfl rfl) ?_
 refine W.seq ?_
 refine W.pk ?_
 refine .a rfl rfl rfl rfl ?_
 refine .a rfl rfl rfl rfl ?_
 refine .nil ?_
 refine W.seq ?_
 obtain ⟨t1, b2, h⟩ := bnd1 h
 refine W.pk ?_
 refine .m rfl rfl rfl rfl ?_
 refine .v rfl rfl (OpL.nilP rfl rfl rfl) ?_
 refine .v rfl rfl (O.fld fld71_0 rfl rfl rfl) ?_
 refine .v rfl rfl (O.ld (y := .own 1000) ty68 rfl rfl rfl) ?_
 refine .m rfl rfl rfl rfl ?_
 refine .call (.tup [.i t1.1, .b t1.2]) [(1000, some (.rows 29 5 (List.map api_Asset.enc x0.l) false)), (1000, none)] 0 (slices_BinarySearchFunc_string__asset_Book_place_1.ok b2) rfl rfl rfl ca50 rfl rfl (cC (.own _ _ _ _ rfl) (cC (.imm _) (cC (.fn _ _ _ _ _ .nil) .nil))) rfl rfl rfl rfl rfl ?_
 refine .v rfl rfl (OpL.extract rfl rfl rfl) ?_
 refine .v rfl rfl (OpL.extract rfl rfl rfl) ?_
 refine .a rfl rfl rfl rfl ?_
 refine .a rfl rfl rfl rfl ?_
 refine .nil ?_
 refine W.ret ?_
 cases h
 exact leaves (.inr rfl) rfl (.tup _ _ _ _ (cC (.imm _) (cC (.imm _) .nil))) (cS (.ptr _ _ _ _ _ rfl (cC (.own _ _ _ _ rfl) (cC (.own _ _ _ _ rfl) (cC (.imm _) .nil)))) (cN .nil)) rfl rfl

noncomputable def slices_Insert_api_Asset.f (x0 : List api_Asset) (x1 : Int) (x2 : List api_Asset) : Option (List api_Asset) :=
  insF 56 x0 x1 x2
set_option maxRecDepth 100000 in
set_option maxHeartbeats 4000000 in
theorem slices_Insert_api_Asset.ok {x0 : List api_Asset} {x1 : Int} {x2 : List api_Asset} {r : List api_Asset} (h : slices_Insert_api_Asset.f x0 x1 x2 = some r) : Pm.Spec prog 43 [.xown 29 5 (List.map api_Asset.enc x0), .imm (.val (.int .i64 x1)), .xown 29 5 (List.map api_Asset.enc x2)] (.xown 29 5 (List.map api_Asset.enc r)) [none, none, none] := by
 obtain ⟨i, x, rfl, rfl, c2, c3, c4, rfl⟩ := insF_some (by decide) h
 refine Pm.Spec.of_body Try.func43 rfl (by kernel_rfl) (Nat.le_of_ble_eq_true rfl) (Nat.le_of_ble_eq_true rfl) ?_
 refine W.ghost (σ' := (mkSt [(0, some (.own 0)), (1, some (.i (i : Int))), (2, some (.own 1))] [(0, some (.rows 29 5 (List.map api_Asset.enc x0) false)), (1, some (.rows 29 5 (List.map api_Asset.enc [x]) false))] 1000)) (Gives.entry (.c rfl (.c rfl (.c rfl .n))) (.c rfl (.c rfl .n))) ?_
 refine W.seq ?_
 refine W.pk ?_
 refine .v rfl rfl (OpL.move (.inr rfl) rfl) ?_
 refine .nil ?_
 refine W.seq ?_
 refine W.pk ?_
 refine .m rfl rfl rfl rfl ?_
 refine .m rfl rfl rfl rfl ?_
 refine .v rfl rfl (O.partE (l := i) (N := (List.length x0)) sl68 c2 (List.length_map _).symm rfl rfl rfl rfl) ?_
 refine .nil ?_
 refine W.seq ?_
 refine W.pk ?_
 refine .m rfl rfl rfl rfl ?_
 refine .v rfl rfl (O.lenO sl68 rfl rfl rfl) ?_
 refine .a rfl rfl rfl rfl ?_
 refine .nil ?_
 refine W.seq ?_
 refine W.seq ?_
 refine W.pk ?_
 refine .m rfl rfl rfl rfl ?_
 refine .v rfl rfl (OpL.binI rfl rfl rfl rfl) ?_
 refine .nil ?_
 refine W.cond rfl (fun q => by simp at q) (fun _ => ?_)
 refine W.skip ?_
 refine W.seq ?_
 refine W.pk ?_
 refine .m rfl rfl rfl rfl ?_
 refine .v rfl rfl (O.lenO sl68 rfl rfl rfl) ?_
 refine .a rfl rfl rfl rfl ?_
 refine .nil ?_
 refine W.seq ?_
 refine W.seq ?_
 refine W.pk ?_
 refine .m rfl rfl rfl rfl ?_
 refine .m rfl rfl rfl rfl ?_
 refine .v rfl rfl (OpL.binI rfl rfl rfl rfl) ?_
 refine .nil ?_
 refine W.cond rfl (fun q => ?_) (fun q => ?_)
 · have q' : i = (List.length x0) := by have := eq_of_beq q; omega
   rw [ins0 q']
   refine W.seq ?_
   refine W.pk ?_
   refine .m rfl rfl rfl rfl ?_
   refine .m rfl rfl rfl rfl ?_
   have h2 : ((List.length x0) + List.length [x]) * 56 ≤ 140737488355328 := c3
   refine .t rfl rfl (O.appO (m := [x]) sl68 api_Asset.ok h2 rfl rfl rfl rfl rfl) ?_
   refine .a rfl rfl rfl rfl ?_
   refine .nil ?_
   refine W.ret ?_
   exact leaves (.inr rfl) rfl (.own _ _ _ _ rfl) (cN (cN (cN .nil))) rfl rfl
 · have lt : i < (List.length x0) := by
     have : ¬ ((i : Int) = ((List.length x0) : Int)) := fun e => by simp [e] at q
     omega
   refine W.skip ?_
   refine W.capM 0 rfl rfl (by omega) (fun C b1 b2 => ?_)
   simp only [maxLen] at b2
   refine W.seq ?_
   refine W.seq ?_
   refine W.pk ?_
   refine .m rfl rfl rfl rfl ?_
   refine .m rfl rfl rfl rfl ?_
   refine .v rfl rfl (OpL.binI rfl rfl rfl (addN (a := (List.length x0)) (b := 1) (by omega))) ?_
   refine .m rfl rfl rfl rfl ?_
   refine .v rfl rfl (O.capV sl68 rfl rfl) ?_
   refine .v rfl rfl (OpL.binI rfl rfl rfl rfl) ?_
   refine .nil ?_
   refine W.cond rfl (fun q => ?_) (fun q => ?_)
   · have q' : C < (List.length x0) + 1 := by have := of_decide_eq_true q; omega
     refine W.seq ?_
     refine W.pk ?_
     refine .m rfl rfl rfl rfl ?_
     refine .m rfl rfl rfl rfl ?_
     refine .v rfl rfl (O.sliceF (u := i) sl68 (by omega) rfl rfl rfl) ?_
     refine .m rfl rfl rfl rfl ?_
     refine .m rfl rfl rfl rfl ?_
     refine .v rfl rfl (OpL.binI rfl rfl rfl (addN (a := (List.length x0)) (b := 1) (by omega))) ?_
     refine .m rfl rfl rfl rfl ?_
     refine .v rfl rfl (OpL.binI rfl rfl rfl (subN (a := (List.length x0) + 1) (b := i) (by omega) (by omega))) ?_
     refine .t rfl rfl (OpL.appMake (zr := (List.map T.val [.string (tx []), .int .i64 0, .int .i64 0, .int .i64 0, .string (tx [])])) (q := (List.length x0) + 1 - i) sl68 rfl (TRow.refl _) rfl rfl rfl rfl (by rw [List.length_map]; omega) (by omega) (by omega) (by rw [show i + ((List.length x0) + 1 - i) = (List.length x0) + 1 by omega]; exact c3)) ?_
     refine .a rfl rfl rfl rfl ?_
     refine .nil ?_
     refine W.ghost (Gives.capM (List.length_map _).symm 0 rfl rfl) ?_
     have r1 : ((List.take i (List.map api_Asset.enc x0) ++ List.replicate ((List.length x0) + 1 - i) (List.map T.val [.string (tx []), .int .i64 0, .int .i64 0, .int .i64 0, .string (tx [])]))).length = (List.length x0) + 1 := by rw [List.length_append, List.length_take, List.length_map, List.length_replicate]; omega
     have r2 : ((List.map api_Asset.enc (List.take i x0 ++ [x]) ++ List.replicate ((List.length x0) - i) (List.map T.val [.string (tx []), .int .i64 0, .int .i64 0, .int .i64 0, .string (tx [])]))).length = (List.length x0) + 1 := by rw [List.length_append, List.length_map, List.length_append, List.length_take, List.length_replicate, List.length_singleton]; omega
     refine W.seq ?_
     refine W.pk ?_
     refine .m rfl rfl rfl rfl ?_
     refine .m rfl rfl rfl rfl ?_
     refine .v rfl rfl (O.partE (l := i) (N := (List.length x0) + 1) sl68 (by omega) r1.symm rfl rfl rfl rfl) ?_
     refine .m rfl rfl rfl rfl ?_
     refine .k rfl rfl (O.copyO (c := 1) (l := [x]) (L := (List.map api_Asset.enc (List.take i x0 ++ [x]) ++ List.replicate ((List.length x0) - i) (List.map T.val [.string (tx []), .int .i64 0, .int .i64 0, .int .i64 0, .string (tx [])]))) (enc := api_Asset.enc) sl68 api_Asset.ok (by rw [r1, List.length_map, List.length_singleton]; omega) rfl (ins1 lt) rfl rfl rfl rfl rfl) ?_
     refine .nil ?_
     refine W.seq ?_
     refine W.dk (unm 9 [0, 0, 0, 6, 15, 0, 0, 96, 255]) rfl (by kernel_rfl) ?_
     refine .m rfl rfl rfl rfl ?_
     refine .m rfl rfl rfl rfl ?_
     refine .m rfl rfl rfl rfl ?_
     refine .v rfl rfl (OpL.binI rfl rfl rfl (addN (a := i) (b := 1) (by omega))) ?_
     refine .v rfl rfl (O.partE (l := i + 1) (N := (List.length x0) + 1) sl68 (by omega) r2.symm rfl rfl rfl rfl) ?_
     refine .m rfl rfl rfl rfl ?_
     refine .m rfl rfl rfl rfl ?_
     refine .v rfl rfl (O.partE (l := i) (N := (List.length x0)) sl68 c2 (List.length_map _).symm rfl rfl rfl rfl) ?_
     refine .k rfl rfl (O.copyV (c := (List.length x0) - i) (l := List.drop i x0) (L := (List.map api_Asset.enc (List.take i x0 ++ [x] ++ List.drop i x0))) (enc := api_Asset.enc) sl68 api_Asset.ok (by rw [r2, List.length_map]; omega) (by rw [← List.map_drop, List.take_of_length_le (by rw [List.length_map, List.length_drop]; omega)]) (ins2 lt) rfl rfl rfl rfl rfl) ?_
     refine .nil ?_
     refine ⟨by kernel_rfl, by kernel_rfl, ?_⟩
     refine W.seq ?_
     refine W.pk ?_
     refine .m rfl rfl rfl rfl ?_
     refine .a rfl rfl rfl rfl ?_
     refine .nil ?_
     refine W.ret ?_
     exact leaves (.inr rfl) rfl (.own _ _ _ _ rfl) (cN (cN (cN .nil))) rfl rfl
   · have q' : (List.length x0) + 1 ≤ C := by have := of_decide_eq_false q; omega
     refine W.skip ?_
     refine W.growC 0 rfl rfl (List.length_map _).symm q' (fun jk jl => ?_)
     have r1 : (((List.map api_Asset.enc x0) ++ [jk])).length = (List.length x0) + 1 := by rw [List.length_append, List.length_map, List.length_singleton]
     have r2 : ((List.map api_Asset.enc (List.take (i + 1) x0 ++ List.drop i x0))).length = (List.length x0) + 1 := by rw [List.length_map, List.length_append, List.length_take, List.length_drop]; omega
     refine W.seq ?_
     refine W.pk ?_
     refine .m rfl rfl rfl rfl ?_
     refine .m rfl rfl rfl rfl ?_
     refine .m rfl rfl rfl rfl ?_
     refine .v rfl rfl (OpL.binI rfl rfl rfl (addN (a := (List.length x0)) (b := 1) (by omega))) ?_
     refine .v rfl rfl (O.sliceF (u := (List.length x0) + 1) sl68 (by omega) rfl rfl rfl) ?_
     refine .a rfl rfl rfl rfl ?_
     refine .nil ?_
     refine W.ghost (Gives.capM r1.symm 0 rfl rfl) ?_
     refine W.seq ?_
     refine W.seq ?_
     refine W.pk ?_
     refine .m rfl rfl rfl rfl ?_
     refine .m rfl rfl rfl rfl ?_
     refine .m rfl rfl rfl rfl ?_
     refine .m rfl rfl rfl rfl ?_
     refine .v rfl rfl (OpL.binI rfl rfl rfl (addN (a := i) (b := 1) (by omega))) ?_
     refine .v rfl rfl (O.partE (l := i + 1) (N := (List.length x0) + 1) sl68 (by omega) r1.symm rfl rfl rfl rfl) ?_
     refine .v rfl rfl (OpL.apart (tR := 4) (f := 63) (fn := Try.f63) sl68 rfl (by kernel_rfl) (by kernel_rfl) (by kernel_rfl) (by kernel_rfl) rfl rfl rfl rfl rfl (by decide) (by simp) (by omega)) ?_
     refine .v rfl rfl (OpL.unV rfl rfl rfl) ?_
     refine .nil ?_
     refine W.cond rfl (fun _ => ?_) (fun q => by cases q)
     refine W.seq ?_
     refine W.dk (unm 9 [0, 0, 0, 6, 15, 0, 0, 96, 255]) rfl (by kernel_rfl) ?_
     refine .m rfl rfl rfl rfl ?_
     refine .m rfl rfl rfl rfl ?_
     refine .m rfl rfl rfl rfl ?_
     refine .v rfl rfl (OpL.binI rfl rfl rfl (addN (a := i) (b := 1) (by omega))) ?_
     refine .v rfl rfl (O.partE (l := i + 1) (N := (List.length x0) + 1) sl68 (by omega) r1.symm rfl rfl rfl rfl) ?_
     refine .m rfl rfl rfl rfl ?_
     refine .m rfl rfl rfl rfl ?_
     refine .v rfl rfl (O.partE (l := i) (N := (List.length x0) + 1) sl68 (by omega) r1.symm rfl rfl rfl rfl) ?_
     refine .k rfl rfl (O.copyV (c := (List.length x0) - i) (l := List.drop i x0) (L := (List.map api_Asset.enc (List.take (i + 1) x0 ++ List.drop i x0))) (enc := api_Asset.enc) sl68 api_Asset.ok (by rw [r1]; omega) (ins5 lt) (ins3 lt) rfl rfl rfl rfl rfl) ?_
     refine .nil ?_
     refine ⟨by kernel_rfl, by kernel_rfl, ?_⟩
     refine W.seq ?_
     refine W.pk ?_
     refine .m rfl rfl rfl rfl ?_
     refine .m rfl rfl rfl rfl ?_
     refine .v rfl rfl (O.partE (l := i) (N := (List.length x0) + 1) sl68 (by omega) r2.symm rfl rfl rfl rfl) ?_
     refine .m rfl rfl rfl rfl ?_
     refine .k rfl rfl (O.copyO (c := 1) (l := [x]) (L := (List.map api_Asset.enc (List.take i x0 ++ [x] ++ List.drop i x0))) (enc := api_Asset.enc) sl68 api_Asset.ok (by rw [r2, List.length_map, List.length_singleton]; omega) rfl (ins4 lt) rfl rfl rfl rfl rfl) ?_
     refine .nil ?_
     refine W.seq ?_
     refine W.pk ?_
     refine .m rfl rfl rfl rfl ?_
     refine .a rfl rfl rfl rfl ?_
     refine .nil ?_
     refine W.ret ?_
     exact leaves (.inr rfl) rfl (.own _ _ _ _ rfl) (cN (cN (cN .nil))) rfl rfl

noncomputable def slices_Insert_int.f (x0 : List Int) (x1 : Int) (x2 : List Int) : Option (List Int) :=
  insF 8 x0 x1 x2
set_option maxRecDepth 100000 in
set_option maxHeartbeats 4000000 in
theorem slices_Insert_int.ok {x0 : List Int} {x1 : Int} {x2 : List Int} {r : List Int} (h : slices_Insert_int.f x0 x1 x2 = some r) : Pm.Spec prog 44 [.xown 3 1 (List.map (encI .i64) x0), .imm (.val (.int .i64 x1)), .xown 3 1 (List.map (encI .i64) x2)] (.xown 3 1 (List.map (encI .i64) r)) [none, none, none] := by
 obtain ⟨i, x, rfl, rfl, c2, c3, c4, rfl⟩ := insF_some (by decide) h
 refine Pm.Spec.of_body Try.func44 rfl (by kernel_rfl) (Nat.le_of_ble_eq_true rfl) (Nat.le_of_ble_eq_true rfl) ?_
 refine W.ghost (σ' := (mkSt [(0, some (.own 0)), (1, some (.i (i : Int))), (2, some (.own 1))] [(0, some (.rows 3 1 (List.map (encI .i64) x0) false)), (1, some (.rows 3 1 (List.map (encI .i64) [x]) false))] 1000)) (Gives.entry (.c rfl (.c rfl (.c rfl .n))) (.c rfl (.c rfl .n))) ?_
 refine W.seq ?_
 refine W.pk ?_
 refine .v rfl rfl (OpL.move (.inr rfl) rfl) ?_
 refine .nil ?_
 refine W.seq ?_
 refine W.pk ?_
 refine .m rfl rfl rfl rfl ?_
 refine .m rfl rfl rfl rfl ?_
 refine .v rfl rfl (O.partE (l := i) (N := (List.length x0)) sl69 c2 (List.length_map _).symm rfl rfl rfl rfl) ?_
 refine .nil ?_
 refine W.seq ?_
 refine W.pk ?_
 refine .m rfl rfl rfl rfl ?_
 refine .v rfl rfl (O.lenO sl69 rfl rfl rfl) ?_
 refine .a rfl rfl rfl rfl ?_
 refine .nil ?_
 refine W.seq ?_
 refine W.seq ?_
 refine W.pk ?_
 refine .m rfl rfl rfl rfl ?_
 refine .v rfl rfl (OpL.binI rfl rfl rfl rfl) ?_
 refine .nil ?_
 refine W.cond rfl (fun q => by simp at q) (fun _ => ?_)
 refine W.skip ?_
 refine W.seq ?_
 refine W.pk ?_
 refine .m rfl rfl rfl rfl ?_
 refine .v rfl rfl (O.lenO sl69 rfl rfl rfl) ?_
 refine .a rfl rfl rfl rfl ?_
 refine .nil ?_
 refine W.seq ?_
 refine W.seq ?_
 refine W.pk ?_
 refine .m rfl rfl rfl rfl ?_
 refine .m rfl rfl rfl rfl ?_
 refine .v rfl rfl (OpL.binI rfl rfl rfl rfl) ?_
 refine .nil ?_
 refine W.cond rfl (fun q => ?_) (fun q => ?_)
 · have q' : i = (List.length x0) := by have := eq_of_beq q; omega
   rw [ins0 q']
   refine W.seq ?_
   refine W.pk ?_
   refine .m rfl rfl rfl rfl ?_
   refine .m rfl rfl rfl rfl ?_
   have h2 : ((List.length x0) + List.length [x]) * 8 ≤ 140737488355328 := c3
   refine .t rfl rfl (O.appO (m := [x]) sl69 (EncOk.int .i64) h2 rfl rfl rfl rfl rfl) ?_
   refine .a rfl rfl rfl rfl ?_
   refine .nil ?_
   refine W.ret ?_
   exact leaves (.inr rfl) rfl (.own _ _ _ _ rfl) (cN (cN (cN .nil))) rfl rfl
 · have lt : i < (List.length x0) := by
     have : ¬ ((i : Int) = ((List.length x0) : Int)) := fun e => by simp [e] at q
     omega
   refine W.skip ?_
   refine W.capM 0 rfl rfl (by omega) (fun C b1 b2 => ?_)
   simp only [maxLen] at b2
   refine W.seq ?_
   refine W.seq ?_
   refine W.pk ?_
   refine .m rfl rfl rfl rfl ?_
   refine .m rfl rfl rfl rfl ?_
   refine .v rfl rfl (OpL.binI rfl rfl rfl (addN (a := (List.length x0)) (b := 1) (by omega))) ?_
   refine .m rfl rfl rfl rfl ?_
   refine .v rfl rfl (O.capV sl69 rfl rfl) ?_
   refine .v rfl rfl (OpL.binI rfl rfl rfl rfl) ?_
   refine .nil ?_
   refine W.cond rfl (fun q => ?_) (fun q => ?_)
   · have q' : C < (List.length x0) + 1 := by have := of_decide_eq_true q; omega
     refine W.seq ?_
     refine W.pk ?_
     refine .m rfl rfl rfl rfl ?_
     refine .m rfl rfl rfl rfl ?_
     refine .v rfl rfl (O.sliceF (u := i) sl69 (by omega) rfl rfl rfl) ?_
     refine .m rfl rfl rfl rfl ?_
     refine .m rfl rfl rfl rfl ?_
     refine .v rfl rfl (OpL.binI rfl rfl rfl (addN (a := (List.length x0)) (b := 1) (by omega))) ?_
     refine .m rfl rfl rfl rfl ?_
     refine .v rfl rfl (OpL.binI rfl rfl rfl (subN (a := (List.length x0) + 1) (b := i) (by omega) (by omega))) ?_
     refine .t rfl rfl (OpL.appMake (zr := (List.map T.val [.int .i64 0])) (q := (List.length x0) + 1 - i) sl69 rfl (TRow.refl _) rfl rfl rfl rfl (by rw [List.length_map]; omega) (by omega) (by omega) (by rw [show i + ((List.length x0) + 1 - i) = (List.length x0) + 1 by omega]; exact c3)) ?_
     refine .a rfl rfl rfl rfl ?_
     refine .nil ?_
     refine W.ghost (Gives.capM (List.length_map _).symm 0 rfl rfl) ?_
     have r1 : ((List.take i (List.map (encI .i64) x0) ++ List.replicate ((List.length x0) + 1 - i) (List.map T.val [.int .i64 0]))).length = (List.length x0) + 1 := by rw [List.length_append, List.length_take, List.length_map, List.length_replicate]; omega
     have r2 : ((List.map (encI .i64) (List.take i x0 ++ [x]) ++ List.replicate ((List.length x0) - i) (List.map T.val [.int .i64 0]))).length = (List.length x0) + 1 := by rw [List.length_append, List.length_map, List.length_append, List.length_take, List.length_replicate, List.length_singleton]; omega
     refine W.seq ?_
     refine W.pk ?_
     refine .m rfl rfl rfl rfl ?_
     refine .m rfl rfl rfl rfl ?_
     refine .v rfl rfl (O.partE (l := i) (N := (List.length x0) + 1) sl69 (by omega) r1.symm rfl rfl rfl rfl) ?_
     refine .m rfl rfl rfl rfl ?_
     refine .k rfl rfl (O.copyO (c := 1) (l := [x]) (L := (List.map (encI .i64) (List.take i x0 ++ [x]) ++ List.replicate ((List.length x0) - i) (List.map T.val [.int .i64 0]))) (enc := (encI .i64)) sl69 (EncOk.int .i64) (by rw [r1, List.length_map, List.length_singleton]; omega) rfl (ins1 lt) rfl rfl rfl rfl rfl) ?_
     refine .nil ?_
     refine W.seq ?_
     refine W.dk (unm 9 [0, 0, 0, 6, 15, 0, 0, 96, 255]) rfl (by kernel_rfl) ?_
     refine .m rfl rfl rfl rfl ?_
     refine .m rfl rfl rfl rfl ?_
     refine .m rfl rfl rfl rfl ?_
     refine .v rfl rfl (OpL.binI rfl rfl rfl (addN (a := i) (b := 1) (by omega))) ?_
     refine .v rfl rfl (O.partE (l := i + 1) (N := (List.length x0) + 1) sl69 (by omega) r2.symm rfl rfl rfl rfl) ?_
     refine .m rfl rfl rfl rfl ?_
     refine .m rfl rfl rfl rfl ?_
     refine .v rfl rfl (O.partE (l := i) (N := (List.length x0)) sl69 c2 (List.length_map _).symm rfl rfl rfl rfl) ?_
     refine .k rfl rfl (O.copyV (c := (List.length x0) - i) (l := List.drop i x0) (L := (List.map (encI .i64) (List.take i x0 ++ [x] ++ List.drop i x0))) (enc := (encI .i64)) sl69 (EncOk.int .i64) (by rw [r2, List.length_map]; omega) (by rw [← List.map_drop, List.take_of_length_le (by rw [List.length_map, List.length_drop]; omega)]) (ins2 lt) rfl rfl rfl rfl rfl) ?_
     refine .nil ?_
     refine ⟨by kernel_rfl, by kernel_rfl, ?_⟩
     refine W.seq ?_
     refine W.pk ?_
     refine .m rfl rfl rfl rfl ?_
     refine .a rfl rfl rfl rfl ?_
     refine .nil ?_
     refine W.ret ?_
     exact leaves (.inr rfl) rfl (.own _ _ _ _ rfl) (cN (cN (cN .nil))) rfl rfl
   · have q' : (List.length x0) + 1 ≤ C := by have := of_decide_eq_false q; omega
     refine W.skip ?_
     refine W.growC 0 rfl rfl (List.length_map _).symm q' (fun jk jl => ?_)
     have r1 : (((List.map (encI .i64) x0) ++ [jk])).length = (List.length x0) + 1 := by rw [List.length_append, List.length_map, List.length_singleton]
     have r2 : ((List.map (encI .i64) (List.take (i + 1) x0 ++ List.drop i x0))).length = (List.length x0) + 1 := by rw [List.length_map, List.length_append, List.length_take, List.length_drop]; omega
     refine W.seq ?_
     refine W.pk ?_
     refine .m rfl rfl rfl rfl ?_
     refine .m rfl rfl rfl rfl ?_
     refine .m rfl rfl rfl rfl ?_
     refine .v rfl rfl (OpL.binI rfl rfl rfl (addN (a := (List.length x0)) (b := 1) (by omega))) ?_
     refine .v rfl rfl (O.sliceF (u := (List.length x0) + 1) sl69 (by omega) rfl rfl rfl) ?_
     refine .a rfl rfl rfl rfl ?_
     refine .nil ?_
     refine W.ghost (Gives.capM r1.symm 0 rfl rfl) ?_
     refine W.seq ?_
     refine W.seq ?_
     refine W.pk ?_
     refine .m rfl rfl rfl rfl ?_
     refine .m rfl rfl rfl rfl ?_
     refine .m rfl rfl rfl rfl ?_
     refine .m rfl rfl rfl rfl ?_
     refine .v rfl rfl (OpL.binI rfl rfl rfl (addN (a := i) (b := 1) (by omega))) ?_
     refine .v rfl rfl (O.partE (l := i + 1) (N := (List.length x0) + 1) sl69 (by omega) r1.symm rfl rfl rfl rfl) ?_
     refine .v rfl rfl (OpL.apart (tR := 4) (f := 65) (fn := Try.f65) sl69 rfl (by kernel_rfl) (by kernel_rfl) (by kernel_rfl) (by kernel_rfl) rfl rfl rfl rfl rfl (by decide) (by simp) (by omega)) ?_
     refine .v rfl rfl (OpL.unV rfl rfl rfl) ?_
     refine .nil ?_
     refine W.cond rfl (fun _ => ?_) (fun q => by cases q)
     refine W.seq ?_
     refine W.dk (unm 9 [0, 0, 0, 6, 15, 0, 0, 96, 255]) rfl (by kernel_rfl) ?_
     refine .m rfl rfl rfl rfl ?_
     refine .m rfl rfl rfl rfl ?_
     refine .m rfl rfl rfl rfl ?_
     refine .v rfl rfl (OpL.binI rfl rfl rfl (addN (a := i) (b := 1) (by omega))) ?_
     refine .v rfl rfl (O.partE (l := i + 1) (N := (List.length x0) + 1) sl69 (by omega) r1.symm rfl rfl rfl rfl) ?_
     refine .m rfl rfl rfl rfl ?_
     refine .m rfl rfl rfl rfl ?_
     refine .v rfl rfl (O.partE (l := i) (N := (List.length x0) + 1) sl69 (by omega) r1.symm rfl rfl rfl rfl) ?_
     refine .k rfl rfl (O.copyV (c := (List.length x0) - i) (l := List.drop i x0) (L := (List.map (encI .i64) (List.take (i + 1) x0 ++ List.drop i x0))) (enc := (encI .i64)) sl69 (EncOk.int .i64) (by rw [r1]; omega) (ins5 lt) (ins3 lt) rfl rfl rfl rfl rfl) ?_
     refine .nil ?_
     refine ⟨by kernel_rfl, by kernel_rfl, ?_⟩
     refine W.seq ?_
     refine W.pk ?_
     refine .m rfl rfl rfl rfl ?_
     refine .m rfl rfl rfl rfl ?_
     refine .v rfl rfl (O.partE (l := i) (N := (List.length x0) + 1) sl69 (by omega) r2.symm rfl rfl rfl rfl) ?_
     refine .m rfl rfl rfl rfl ?_
     refine .k rfl rfl (O.copyO (c := 1) (l := [x]) (L := (List.map (encI .i64) (List.take i x0 ++ [x] ++ List.drop i x0))) (enc := (encI .i64)) sl69 (EncOk.int .i64) (by rw [r2, List.length_map, List.length_singleton]; omega) rfl (ins4 lt) rfl rfl rfl rfl rfl) ?_
     refine .nil ?_
     refine W.seq ?_
     refine W.pk ?_
     refine .m rfl rfl rfl rfl ?_
     refine .a rfl rfl rfl rfl ?_
     refine .nil ?_
     refine W.ret ?_
     exact leaves (.inr rfl) rfl (.own _ _ _ _ rfl) (cN (cN (cN .nil))) rfl rfl

noncomputable def asset_Book_Add.f (x0 : asset_Book) (x1 : api_Asset) : Option (Int × asset_Book) :=
  if (!x0.made) = true then
    some (3, x0)
  else
    (isin_Asset.f x1).bind fun t2 =>
    if (t2 != 0) = true then
      some (t2, x0)
    else
      (asset_Book_place.f x0 x1.ISIN).bind fun t5 =>
      if t5.2 = true then
        some (7, x0)
      else
        if (decide ((List.length x0.l : Int) ≥ 64)) = true then
          some (18, x0)
        else
          (slices_Insert_api_Asset.f x0.l t5.1 [x1]).bind fun t9 =>
          (slices_Insert_int.f x0.prices t5.1 [0]).bind fun t11 =>
          some (0, (⟨t9, t11, x0.made⟩ : asset_Book))
set_option maxRecDepth 100000 in
set_option maxHeartbeats 4000000 in
theorem asset_Book_Add.ok {x0 : asset_Book} {x1 : api_Asset} {r : Int × asset_Book} (h : asset_Book_Add.f x0 x1 = some r) : Pm.Spec prog 29 [.xbox [.xown 29 5 (List.map api_Asset.enc x0.l), .xown 3 1 (List.map (encI .i64) x0.prices), .imm (.val (.bool x0.made))], .agg [.imm (.val (.string (tx x1.ISIN))), .imm (.val (.int .i64 x1.Issuer)), .imm (.val (.int .i64 x1.Rating)), .imm (.val (.int .i64 x1.Maturity)), .imm (.val (.string (tx x1.Currency)))]] (.imm (.val (.int .i64 r.1))) [some (.xbox [.xown 29 5 (List.map api_Asset.enc r.2.l), .xown 3 1 (List.map (encI .i64) r.2.prices), .imm (.val (.bool r.2.made))]), none] := by
 unfold asset_Book_Add.f at h
 refine Pm.Spec.of_body Try.func29 rfl (by kernel_rfl) (Nat.le_of_ble_eq_true rfl) (Nat.le_of_ble_eq_true rfl) ?_
 refine W.ghost (σ' := (mkSt [(0, some (.ptr 0 0)), (1, some (.agg (api_Asset.av x1)))] [(0, some (.box [.own 1, .own 2, .b x0.made])), (1, some (.rows 29 5 (List.map api_Asset.enc x0.l) false)), (2, some (.rows 3 1 (List.map (encI .i64) x0.prices) false))] 1000)) (Gives.entry (.c rfl (.c rfl .n)) (.c rfl (.c rfl (.c rfl .n)))) ?_
 refine W.ghost (σ' := (mkSt [(0, some (.ptr 0 0)), (1, some (.agg (api_Asset.av x1)))] [(0, some (.box [.own 1000, .own 1001, .b x0.made])), (1000, some (.rows 29 5 (List.map api_Asset.enc x0.l) false)), (1001, some (.rows 3 1 (List.map (encI .i64) x0.prices) false))] 1002)) (Gives.mkR [(1000, 1), (1001, 2)] (.r rfl rfl (.r rfl rfl .n)) (.r rfl rfl rfl (.r rfl rfl rfl (.r rfl rfl rfl .n))) rfl rfl rfl) ?_
 refine W.seq ?_
 refine W.pk ?_
 refine .t rfl rfl (O.box rfl rfl rfl rfl rfl) ?_
 refine .a rfl rfl rfl rfl ?_
 refine .nil ?_
 refine W.seq ?_
 refine W.seq ?_
 refine W.pk ?_
 refine .m rfl rfl rfl rfl ?_
 refine .v rfl rfl (OpL.eqP rfl u30 rfl rfl rfl) ?_
 refine .m rfl rfl rfl rfl ?_
 refine .m rfl (met rfl rfl rfl rfl) rfl rfl ?_
 refine .v rfl (met rfl rfl rfl rfl) (OpL.nilP rfl rfl rfl) ?_
 refine .v rfl (met rfl rfl rfl rfl) (O.fld fld71_2 rfl rfl rfl) ?_
 refine .v rfl (met rfl rfl rfl rfl) (O.ld (y := .b x0.made) ty4 rfl rfl rfl) ?_
 refine .v rfl (met rfl rfl rfl rfl) (OpL.unV rfl rfl rfl) ?_
 refine .v rfl rfl (O.pickF rfl rfl rfl rfl) ?_
 refine .nil ?_
 refine W.cond rfl (fun q1 => ?_) (fun q1 => ?_)
 ·have h := ifT q1 h
  refine W.seq ?_
  refine W.pk ?_
  refine .a rfl rfl rfl rfl ?_
  refine .nil ?_
  refine W.ret ?_
  cases h
  exact leaves (.inr rfl) rfl (.imm _) (cS (.ptr _ _ _ _ _ rfl (cC (.own _ _ _ _ rfl) (cC (.own _ _ _ _ rfl) (cC (.imm _) .nil)))) (cN .nil)) rfl rfl
 ·have h := ifF q1 h
  refine W.skip ?_
  refine W.seq ?_
  refine W.seq ?_
  obtain ⟨t2, b3, h⟩ := bnd1 h
  refine W.pk ?_
  refine .v rfl rfl (O.ldN ty29 rfl rfl rfl) ?_
  refine .call (.i t2) [] 0 (isin_Asset.ok b3) rfl rfl rfl ca42 rfl rfl (cC (.agg _ _ _ _ (cC (.imm _) (cC (.imm _) (cC (.imm _) (cC (.imm _) (cC (.imm _) .nil)))))) .nil) rfl rfl rfl rfl rfl ?_
  refine .a rfl rfl rfl rfl ?_
  refine .nil ?_
  refine W.seq ?_
  refine W.pk ?_
  refine .m rfl rfl rfl rfl ?_
  refine .v rfl rfl (OpL.binI rfl rfl rfl rfl) ?_
  refine .nil ?_
  refine W.cond rfl (fun q4 => ?_) (fun q4 => ?_)
  ·have h := ifT q4 h
   refine W.seq ?_
   refine W.pk ?_
   refine .m rfl rfl rfl rfl ?_
   refine .a rfl rfl rfl rfl ?_
   refine .nil ?_
   refine W.ret ?_
   cases h
   exact leaves (.inr rfl) rfl (.imm _) (cS (.ptr _ _ _ _ _ rfl (cC (.own _ _ _ _ rfl) (cC (.own _ _ _ _ rfl) (cC (.imm _) .nil)))) (cN .nil)) rfl rfl
  ·have h := ifF q4 h
   refine W.skip ?_
   refine W.seq ?_
   obtain ⟨t5, b6, h⟩ := bnd1 h
   refine W.pk ?_
   refine .m rfl rfl rfl rfl ?_
   refine .v rfl rfl (O.fld fld29_0 rfl rfl rfl) ?_
   refine .v rfl rfl (O.ld (y := .s x1.ISIN) ty9 rfl rfl rfl) ?_
   refine .call (.tup [.i t5.1, .b t5.2]) [(0, some (.box [.own 1003, .own 1004, .b x0.made])), (1003, some (.rows 29 5 (List.map api_Asset.enc x0.l) false)), (1004, some (.rows 3 1 (List.map (encI .i64) x0.prices) false)), (0, none), (1000, none), (1001, none)] 2 (asset_Book_place.ok b6) rfl rfl rfl ca34 rfl rfl (cC (.ptr _ _ _ _ _ rfl (cC (.own _ _ _ _ rfl) (cC (.own _ _ _ _ rfl) (cC (.imm _) .nil)))) (cC (.imm _) .nil)) rfl rfl rfl rfl rfl ?_
   refine .m rfl rfl rfl rfl ?_
   refine .v rfl rfl (OpL.extract rfl rfl rfl) ?_
   refine .v rfl rfl (OpL.extract rfl rfl rfl) ?_
   refine .a rfl rfl rfl rfl ?_
   refine .a rfl rfl rfl rfl ?_
   refine .nil ?_
   refine W.seq ?_
   refine W.block ?_
   refine W.seq ?_
   refine W.pk ?_
   refine .m rfl rfl rfl rfl ?_
   refine .a rfl rfl rfl rfl ?_
   refine .nil ?_
   refine W.cond rfl (fun q7 => ?_) (fun q7 => ?_)
   ·have h := ifT q7 h
    refine W.seq ?_
    refine W.pk ?_
    refine .a rfl rfl rfl rfl ?_
    refine .nil ?_
    refine W.ret ?_
    cases h
    exact leaves (.inr rfl) rfl (.imm _) (cS (.ptr _ _ _ _ _ rfl (cC (.own _ _ _ _ rfl) (cC (.own _ _ _ _ rfl) (cC (.imm _) .nil)))) (cN .nil)) rfl rfl
   ·have h := ifF q7 h
    refine W.seq ?_
    refine W.pk ?_
    refine .m rfl rfl rfl rfl ?_
    refine .v rfl rfl (OpL.nilP rfl rfl rfl) ?_
    refine .v rfl rfl (O.fld fld71_0 rfl rfl rfl) ?_
    refine .v rfl rfl (O.ld (y := .own 1003) ty68 rfl rfl rfl) ?_
    refine .v rfl rfl (O.lenO sl68 rfl rfl rfl) ?_
    refine .v rfl rfl (OpL.binI rfl rfl rfl rfl) ?_
    refine .a rfl rfl rfl rfl ?_
    refine .nil ?_
    refine W.cond rfl (fun q8 => ?_) (fun q8 => ?_)
    ·have h := ifT q8 h
     refine W.seq ?_
     refine W.pk ?_
     refine .a rfl rfl rfl rfl ?_
     refine .nil ?_
     refine W.ret ?_
     cases h
     exact leaves (.inr rfl) rfl (.imm _) (cS (.ptr _ _ _ _ _ rfl (cC (.own _ _ _ _ rfl) (cC (.own _ _ _ _ rfl) (cC (.imm _) .nil)))) (cN .nil)) rfl rfl
    ·have h := ifF q8 h
     refine W.skip ?_
     refine W.seq ?_
     obtain ⟨t9, b10, h⟩ := bnd1 h
     refine W.dk (unm 12 [0, 0, 2, 6, 14, 0, 0, 64, 254, 511, 1023, 2047]) rfl (by kernel_rfl) ?_
     refine .m rfl rfl rfl rfl ?_
     refine .m rfl rfl rfl rfl ?_
     refine .v rfl rfl (OpL.nilP rfl rfl rfl) ?_
     refine .v rfl rfl (O.fld fld71_0 rfl rfl rfl) ?_
     refine .v rfl rfl (O.ld (y := .own 1003) ty68 rfl rfl rfl) ?_
     refine .m rfl rfl rfl rfl ?_
     refine .v rfl rfl (O.ldN ty29 rfl rfl rfl) ?_
     refine .t rfl rfl (O.lit (enc := api_Asset.enc) (l := [x1]) sl68 rfl rfl rfl rfl rfl rfl rfl rfl rfl) ?_
     refine .call (.own 1006) [(1006, some (.rows 29 5 (List.map api_Asset.enc t9) false)), (1003, none), (1005, none)] 1 (slices_Insert_api_Asset.ok b10) rfl rfl rfl ca43 rfl rfl (cC (.own _ _ _ _ rfl) (cC (.imm _) (cC (.own _ _ _ _ rfl) .nil))) rfl rfl rfl rfl rfl ?_
     refine .v rfl rfl (OpL.nilP rfl rfl rfl) ?_
     refine .v rfl rfl (O.fld fld71_0 rfl rfl rfl) ?_
     refine .s rfl rfl (O.st ty68 rfl rfl rfl rfl rfl rfl rfl rfl rfl rfl (all' := [.own 1006, .own 1004, .b x0.made]) rfl) ?_
     refine .nil ?_
     refine ⟨by kernel_rfl, by kernel_rfl, ?_⟩
     refine W.seq ?_
     obtain ⟨t11, b12, h⟩ := bnd1 h
     refine W.pk ?_
     refine .m rfl rfl rfl rfl ?_
     refine .m rfl rfl rfl rfl ?_
     refine .v rfl rfl (OpL.nilP rfl rfl rfl) ?_
     refine .v rfl rfl (O.fld fld71_1 rfl rfl rfl) ?_
     refine .v rfl rfl (O.ld (y := .own 1004) ty69 rfl rfl rfl) ?_
     refine .m rfl rfl rfl rfl ?_
     refine .t rfl rfl (O.lit (enc := (encI .i64)) (l := [0]) sl69 rfl rfl rfl rfl rfl rfl rfl rfl rfl) ?_
     refine .call (.own 1008) [(1008, some (.rows 3 1 (List.map (encI .i64) t11) false)), (1004, none), (1007, none)] 1 (slices_Insert_int.ok b12) rfl rfl rfl ca44 rfl rfl (cC (.own _ _ _ _ rfl) (cC (.imm _) (cC (.own _ _ _ _ rfl) .nil))) rfl rfl rfl rfl rfl ?_
     refine .v rfl rfl (OpL.nilP rfl rfl rfl) ?_
     refine .v rfl rfl (O.fld fld71_1 rfl rfl rfl) ?_
     refine .s rfl rfl (O.st ty69 rfl rfl rfl rfl rfl rfl rfl rfl rfl rfl (all' := [.own 1006, .own 1008, .b x0.made]) rfl) ?_
     refine .nil ?_
     refine W.seq ?_
     refine W.pk ?_
     refine .a rfl rfl rfl rfl ?_
     refine .nil ?_
     refine W.ret ?_
     cases h
     exact leaves (.inr rfl) rfl (.imm _) (cS (.ptr _ _ _ _ _ rfl (cC (.own _ _ _ _ rfl) (cC (.own _ _ _ _ rfl) (cC (.imm _) .nil)))) (cN .nil)) rfl rfl

noncomputable def lombardref13_Set.b0 (x0 : List lombardref13_Known) (x1 : List api_Price) (v13 : Int) (v14 : List lombardref13_Known) : Option ((Int × (List lombardref13_Known)) ⊕ (((List lombardref13_Known) × Int × Int) ⊕ (List lombardref13_Known))) :=
  if (decide (v13 < (List.length x1 : Int))) = true then
    if (0 : Int) ≤ v13 ∧ v13 < (List.length x1 : Int) then
    (lombardref13_Find.f x0 ((nth x1 v13).ISIN)).bind fun t43 =>
    if (decide (t43 < 0)) = true then
      some (.inr (.inl (x0, v13, 21)))
    else
      if (0 : Int) ≤ v13 ∧ v13 < (List.length x1 : Int) then
      if ((decide (((nth x1 v13).Price) < 1)) = false → (0 : Int) ≤ v13 ∧ v13 < (List.length x1 : Int)) then
      if ((decide (((nth x1 v13).Price) < 1)) || (decide (((nth x1 v13).Price) > 4294967296))) = true then
        some (.inr (.inl (x0, v13, 31)))
      else
        if (0 : Int) ≤ v13 ∧ v13 < (List.length x1 : Int) then
        if (0 : Int) ≤ t43 ∧ t43 < (List.length v14 : Int) then
        some (.inl ((IntKind.wrap .i64 (v13 + 1)), (List.set v14 (Int.toNat t43) (⟨((nth v14 t43).A), (nth x1 v13).Price⟩ : lombardref13_Known))))
        else none
        else none
      else none
      else none
    else none
  else
    some (.inr (.inr v14))
noncomputable def lombardref13_Set.r0 (x0 : List lombardref13_Known) (x1 : List api_Price) (s : Int × (List lombardref13_Known)) : Option ((Int × (List lombardref13_Known)) ⊕ (((List lombardref13_Known) × Int × Int) ⊕ (List lombardref13_Known))) := lombardref13_Set.b0 x0 x1 s.1 s.2
noncomputable def lombardref13_Set.f (x0 : List lombardref13_Known) (x1 : List api_Price) : Option ((List lombardref13_Known) × Int × Int) :=
  if (List.length ([] : List lombardref13_Known) + List.length x0) * 64 ≤ 140737488355328 then
  (loop (lombardref13_Set.r0 x0 x1) (0, (([] : List lombardref13_Known) ++ x0))).bind fun o38 =>
  match o38 with
  | .inl r52 => some r52
  | .inr w37 =>
    some (w37, (List.length x1 : Int), 0)
  else none
set_option maxRecDepth 100000 in
set_option maxHeartbeats 4000000 in
theorem lombardref13_Set.ok {x0 : List lombardref13_Known} {x1 : List api_Price} {r : (List lombardref13_Known) × Int × Int} (h : lombardref13_Set.f x0 x1 = some r) : Pm.Spec prog 36 [.xown 46 6 (List.map lombardref13_Known.enc x0), .imm (.row 2 (List.map api_Price.enc x1))] (.tup [.xown 46 6 (List.map lombardref13_Known.enc r.1), .imm (.val (.int .i64 r.2.1)), .imm (.val (.int .i64 r.2.2))]) [none, none] := by
 unfold lombardref13_Set.f at h
 refine Pm.Spec.of_body Try.func36 rfl (by kernel_rfl) (Nat.le_of_ble_eq_true rfl) (Nat.le_of_ble_eq_true rfl) ?_
 refine W.ghost (σ' := (mkSt [(0, some (.own 0)), (1, some (.imm (.row 2 (List.map api_Price.enc x1))))] [(0, some (.rows 46 6 (List.map lombardref13_Known.enc x0) false))] 1000)) (Gives.entry (.c rfl (.c rfl .n)) (.c rfl .n)) ?_
 refine W.seq ?_
 refine W.pk ?_
 refine .a rfl rfl rfl rfl ?_
 refine .a rfl rfl rfl rfl ?_
 refine .a rfl rfl rfl rfl ?_
 refine .nil ?_
 refine W.seq ?_
 obtain ⟨c1, h⟩ := chk h
 refine W.pk ?_
 refine .t rfl rfl (O.lit (enc := lombardref13_Known.enc) (l := ([] : List lombardref13_Known)) sl31 rfl rfl rfl rfl rfl rfl rfl rfl rfl) ?_
 refine .m rfl rfl rfl rfl ?_
 refine .t rfl rfl (O.appO sl31 lombardref13_Known.ok c1 rfl rfl rfl rfl rfl) ?_
 refine .a rfl rfl rfl rfl ?_
 refine .nil ?_
 refine W.seq ?_
 refine W.seq ?_
 refine W.pk ?_
 refine .a rfl rfl rfl rfl ?_
 refine .nil ?_
 obtain ⟨o38, b39, z40⟩ := bnd1 h
 refine W.fork2 (out := o38) (fun (w37 : List lombardref13_Known) => mkSt [(1, some (.imm (.row 2 (List.map api_Price.enc x1)))), (7, some (.own 1001))] [(0, some (.rows 46 6 (List.map lombardref13_Known.enc x0) false)), (1001, some (.rows 46 6 (List.map lombardref13_Known.enc w37) false))] 1002) ?_ ?_
 ·clear h
  refine W.block ?_
  refine W.loopF (fun (s_ : Int × (List lombardref13_Known)) => mkSt [(0, some (.own 0)), (1, some (.imm (.row 2 (List.map api_Price.enc x1)))), (7, some (.own 1001)), (8, some (.i s_.1))] [(0, some (.rows 46 6 (List.map lombardref13_Known.enc x0) false)), (1001, some (.rows 46 6 (List.map lombardref13_Known.enc s_.2) false))] 1002) b39 (Gives.mkR [] (.r rfl rfl (.r rfl rfl (.r rfl rfl (.r rfl rfl .n)))) (.r rfl rfl rfl (.r rfl rfl rfl .n)) rfl rfl rfl) ?_
  rintro ⟨v13, v14⟩ s_ hr
  have h : lombardref13_Set.b0 x0 x1 v13 v14 = some s_ := hr
  unfold lombardref13_Set.b0 at h
  refine W.seq ?_
  refine W.seq ?_
  refine W.pk ?_
  refine .m rfl rfl rfl rfl ?_
  refine .m rfl rfl rfl rfl ?_
  refine .v rfl rfl (O.lenR sl49 rfl rfl) ?_
  refine .v rfl rfl (OpL.binI rfl rfl rfl rfl) ?_
  refine .nil ?_
  refine W.cond rfl (fun q41 => ?_) (fun q41 => ?_)
  ·have h := ifT q41 h
   refine W.skip ?_
   refine W.seq ?_
   refine W.block ?_
   refine W.seq ?_
   obtain ⟨c42, h⟩ := chk h
   obtain ⟨t43, b44, h⟩ := bnd1 h
   refine W.pk ?_
   refine .m rfl rfl rfl rfl ?_
   refine .m rfl rfl rfl rfl ?_
   refine .m rfl rfl rfl rfl ?_
   refine .v rfl rfl (O.idx sl49 c42 rfl rfl rfl) ?_
   refine .v rfl rfl (O.fld fld82_0 rfl rfl rfl) ?_
   refine .v rfl rfl (O.ld (y := .s ((nth x1 v13).ISIN)) ty9 rfl rfl rfl) ?_
   refine .call (.i t43) [(0, some (.rows 46 6 (List.map lombardref13_Known.enc x0) false)), (0, none)] 0 (lombardref13_Find.ok b44) rfl rfl rfl ca17 rfl rfl (cC (.own _ _ _ _ rfl) (cC (.imm _) .nil)) rfl rfl rfl rfl rfl ?_
   refine .a rfl rfl rfl rfl ?_
   refine .nil ?_
   refine W.seq ?_
   refine W.seq ?_
   refine W.pk ?_
   refine .m rfl rfl rfl rfl ?_
   refine .v rfl rfl (OpL.binI rfl rfl rfl rfl) ?_
   refine .nil ?_
   refine W.cond rfl (fun q45 => ?_) (fun q45 => ?_)
   ·have h := ifT q45 h
    refine W.seq ?_
    refine W.pk ?_
    refine .m rfl rfl rfl rfl ?_
    refine .m rfl rfl rfl rfl ?_
    refine .a rfl rfl rfl rfl ?_
    refine .a rfl rfl rfl rfl ?_
    refine .a rfl rfl rfl rfl ?_
    refine .nil ?_
    refine W.ret ?_
    cases h
    refine rdR fun e_ => ?_
    subst e_
    have h := z40
    dsimp only at h
    refine fkR ?_
    cases h
    exact leaves (.inr rfl) rfl (.tup _ _ _ _ (cC (.own _ _ _ _ rfl) (cC (.imm _) (cC (.imm _) .nil)))) (cN (cN .nil)) rfl rfl
   ·have h := ifF q45 h
    refine W.skip ?_
    refine W.seq ?_
    refine W.seq ?_
    obtain ⟨c46, h⟩ := chk h
    obtain ⟨c47, h⟩ := chk h
    refine W.fork (mkSt [(0, some (.own 0)), (1, some (.imm (.row 2 (List.map api_Price.enc x1)))), (7, some (.own 1001)), (8, some (.i v13)), (9, some (.i t43)), (43, some (.b ((decide (((nth x1 v13).Price) < 1)) || (decide (((nth x1 v13).Price) > 4294967296)))))] [(0, some (.rows 46 6 (List.map lombardref13_Known.enc x0) false)), (1001, some (.rows 46 6 (List.map lombardref13_Known.enc v14) false))] 1002) ?_ ?_
    ·refine W.cond rfl (fun q49 => ?_) (fun q49 => ?_)
     ·have h := ifT q49 h
      refine W.seq ?_
      refine W.pk ?_
      refine .m rfl rfl rfl rfl ?_
      refine .m rfl rfl rfl rfl ?_
      refine .a rfl rfl rfl rfl ?_
      refine .a rfl rfl rfl rfl ?_
      refine .a rfl rfl rfl rfl ?_
      refine .nil ?_
      refine W.ret ?_
      cases h
      refine rdR fun e_ => ?_
      subst e_
      have h := z40
      dsimp only at h
      refine fkR ?_
      cases h
      exact leaves (.inr rfl) rfl (.tup _ _ _ _ (cC (.own _ _ _ _ rfl) (cC (.imm _) (cC (.imm _) .nil)))) (cN (cN .nil)) rfl rfl
     ·have h := ifF q49 h
      refine W.skip ?_
      obtain ⟨c50, h⟩ := chk h
      obtain ⟨c51, h⟩ := chk h
      refine W.pk ?_
      refine .m rfl rfl rfl rfl ?_
      refine .m rfl rfl rfl rfl ?_
      refine .m rfl rfl rfl rfl ?_
      refine .m rfl rfl rfl rfl ?_
      refine .v rfl rfl (O.idx sl49 c50 rfl rfl rfl) ?_
      refine .v rfl rfl (O.fld fld82_1 rfl rfl rfl) ?_
      refine .v rfl rfl (O.ld (y := .i ((nth x1 v13).Price)) ty3 rfl rfl rfl) ?_
      refine .v rfl rfl (O.idxO sl31 c51 rfl rfl rfl rfl) ?_
      refine .v rfl rfl (O.fld fld46_1 rfl rfl rfl) ?_
      refine .s rfl rfl (O.stE (x' := (⟨((nth v14 t43).A), (nth x1 v13).Price⟩ : lombardref13_Known)) ty3 c51 rfl rfl rfl rfl rfl rfl rfl rfl rfl rfl rfl) ?_
      refine .nil ?_
      refine W.pk ?_
      refine .m rfl rfl rfl rfl ?_
      refine .v rfl rfl (OpL.binI rfl rfl rfl rfl) ?_
      refine .a rfl rfl rfl rfl ?_
      refine .nil ?_
      cases h
      exact rdN (Gives.mkR [] (.r rfl rfl (.r rfl rfl (.r rfl rfl (.r rfl rfl .n)))) (.r rfl rfl rfl (.r rfl rfl rfl .n)) rfl rfl rfl)
    ·clear h
     rcases tf (decide (((nth x1 v13).Price) < 1)) with g48 | g48
     ·refine W.pk ?_
      refine .m rfl rfl rfl rfl ?_
      refine .m rfl rfl rfl rfl ?_
      refine .v rfl rfl (O.idx sl49 c46 rfl rfl rfl) ?_
      refine .v rfl rfl (O.fld fld82_1 rfl rfl rfl) ?_
      refine .v rfl rfl (O.ld (y := .i ((nth x1 v13).Price)) ty3 rfl rfl rfl) ?_
      refine .v rfl rfl (OpL.binI rfl rfl rfl rfl) ?_
      refine .m rfl rfl rfl rfl ?_
      refine .x rfl (unmet rfl rfl rfl g48) ?_
      refine .x rfl (unmet rfl rfl rfl g48) ?_
      refine .x rfl (unmet rfl rfl rfl g48) ?_
      refine .x rfl (unmet rfl rfl rfl g48) ?_
      refine .x rfl (unmet rfl rfl rfl g48) ?_
      refine .x rfl (unmet rfl rfl rfl g48) ?_
      refine .v rfl rfl (O.pickT g48 rfl rfl rfl) ?_
      refine .nil ?_
      exact toN (Gives.mkR [] (.r rfl rfl (.r rfl rfl (.r rfl rfl (.r rfl rfl (.r rfl rfl (.c rfl (sbb (by simp only [g48, Bool.true_or, Bool.or_true, Bool.false_or, Bool.or_false, Bool.true_and, Bool.and_true, Bool.false_and, Bool.and_false, Bool.not_true, Bool.not_false, cond_true, cond_false])) rfl .n)))))) (.r rfl rfl rfl (.r rfl rfl rfl .n)) rfl rfl rfl)
     ·refine W.pk ?_
      refine .m rfl rfl rfl rfl ?_
      refine .m rfl rfl rfl rfl ?_
      refine .v rfl rfl (O.idx sl49 c46 rfl rfl rfl) ?_
      refine .v rfl rfl (O.fld fld82_1 rfl rfl rfl) ?_
      refine .v rfl rfl (O.ld (y := .i ((nth x1 v13).Price)) ty3 rfl rfl rfl) ?_
      refine .v rfl rfl (OpL.binI rfl rfl rfl rfl) ?_
      refine .m rfl rfl rfl rfl ?_
      refine .m rfl (met rfl rfl rfl g48) rfl rfl ?_
      refine .m rfl (met rfl rfl rfl g48) rfl rfl ?_
      refine .v rfl (met rfl rfl rfl g48) (O.idx sl49 (c47 (by simp only [g48, Bool.true_or, Bool.or_true, Bool.false_or, Bool.or_false, Bool.true_and, Bool.and_true, Bool.false_and, Bool.and_false, Bool.not_true, Bool.not_false, cond_true, cond_false])) rfl rfl rfl) ?_
      refine .v rfl (met rfl rfl rfl g48) (O.fld fld82_1 rfl rfl rfl) ?_
      refine .v rfl (met rfl rfl rfl g48) (O.ld (y := .i ((nth x1 v13).Price)) ty3 rfl rfl rfl) ?_
      refine .v rfl (met rfl rfl rfl g48) (OpL.binI rfl rfl rfl rfl) ?_
      refine .v rfl rfl (O.pickF g48 rfl rfl rfl) ?_
      refine .nil ?_
      exact toN (Gives.mkR [] (.r rfl rfl (.r rfl rfl (.r rfl rfl (.r rfl rfl (.r rfl rfl (.c rfl (sbb (by simp only [g48, Bool.true_or, Bool.or_true, Bool.false_or, Bool.or_false, Bool.true_and, Bool.and_true, Bool.false_and, Bool.and_false, Bool.not_true, Bool.not_false, cond_true, cond_false])) rfl .n)))))) (.r rfl rfl rfl (.r rfl rfl rfl .n)) rfl rfl rfl)
  ·have h := ifF q41 h
   refine W.exit ?_
   cases h
   refine rdX fun e_ => ?_
   subst e_
   repeat with_reducible refine thru ?_
   refine hit ?_
   exact fkN (Gives.mkR [] (.r rfl rfl (.r rfl rfl .n)) (.r rfl rfl rfl (.r rfl rfl rfl .n)) rfl rfl rfl)
 ·intro w37 e_
  subst e_
  clear h
  have h := z40
  dsimp only at h
  refine W.seq ?_
  refine W.pk ?_
  refine .m rfl rfl rfl rfl ?_
  refine .m rfl rfl rfl rfl ?_
  refine .v rfl rfl (O.lenR sl49 rfl rfl) ?_
  refine .a rfl rfl rfl rfl ?_
  refine .a rfl rfl rfl rfl ?_
  refine .a rfl rfl rfl rfl ?_
  refine .nil ?_
  refine W.ret ?_
  cases h
  exact leaves (.inr rfl) rfl (.tup _ _ _ _ (cC (.own _ _ _ _ rfl) (cC (.imm _) (cC (.imm _) .nil)))) (cN (cN .nil)) rfl rfl
end Go.Proofs.Ytkcjlpiaaklnkaa
