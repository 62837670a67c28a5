/- Shows what functions of the program come to, each as a plain function: written by a program of the author's for this claim. -/
import Derived.Test.YtdcpdnfalnelkaaGx4
namespace Go.Proofs.Ytdcpdnfalnelkaa
open Go Go.Pm
set_option linter.unusedVariables false
set_option linter.unusedSimpArgs false
noncomputable def asset_Book_Add.f (x0 : asset_Book) (x1 : api_Asset) : Option (Int × asset_Book) :=
  if (!x0.made) = true then
    some (3, x0)
  else
    (isin_Asset.f x1).bind fun t2 =>
    if (t2 != 0) = true then
      some (t2, x0)
    else
      (asset_Book_place.f x0 x1.ISIN).bind fun t5 =>
      if t5.2 = true then
        some (7, x0)
      else
        if (decide ((List.length x0.l : Int) ≥ 64)) = true then
          some (18, x0)
        else
          (slices_Insert_api_Asset.f x0.l t5.1 [x1]).bind fun t9 =>
          (slices_Insert_int.f x0.prices t5.1 [0]).bind fun t11 =>
          some (0, (⟨t9, t11, x0.made⟩ : asset_Book))
set_option maxRecDepth 100000 in
set_option maxHeartbeats 4000000 in
theorem asset_Book_Add.ok {x0 : asset_Book} {x1 : api_Asset} {r : Int × asset_Book} (h : asset_Book_Add.f x0 x1 = some r) : Pm.Spec prog 27 [.xbox [.xown 38 5 (List.map api_Asset.enc x0.l), .xown 3 1 (List.map (encI .i64) x0.prices), .imm (.val (.bool x0.made))], .agg [.imm (.val (.string (tx x1.ISIN))), .imm (.val (.int .i64 x1.Issuer)), .imm (.val (.int .i64 x1.Rating)), .imm (.val (.int .i64 x1.Maturity)), .imm (.val (.string (tx x1.Currency)))]] (.imm (.val (.int .i64 r.1))) [some (.xbox [.xown 38 5 (List.map api_Asset.enc r.2.l), .xown 3 1 (List.map (encI .i64) r.2.prices), .imm (.val (.bool r.2.made))]), none] := by
 unfold asset_Book_Add.f at h
 refine Pm.Spec.of_body Try.func27 rfl (by kernel_rfl) (Nat.le_of_ble_eq_true rfl) (Nat.le_of_ble_eq_true rfl) ?_
 refine W.ghost (σ' := (mkSt [(0, some (.ptr 0 0)), (1, some (.agg (api_Asset.av x1)))] [(0, some (.box [.own 1, .own 2, .b x0.made])), (1, some (.rows 38 5 (List.map api_Asset.enc x0.l) false)), (2, some (.rows 3 1 (List.map (encI .i64) x0.prices) false))] 1000)) (Gives.entry (.c rfl (.c rfl .n)) (.c rfl (.c rfl (.c rfl .n)))) ?_
 refine W.ghost (σ' := (mkSt [(0, some (.ptr 0 0)), (1, some (.agg (api_Asset.av x1)))] [(0, some (.box [.own 1000, .own 1001, .b x0.made])), (1000, some (.rows 38 5 (List.map api_Asset.enc x0.l) false)), (1001, some (.rows 3 1 (List.map (encI .i64) x0.prices) false))] 1002)) (Gives.mkR [(1000, 1), (1001, 2)] (.r rfl rfl (.r rfl rfl .n)) (.r rfl rfl rfl (.r rfl rfl rfl (.r rfl rfl rfl .n))) rfl rfl rfl) ?_
 refine W.seq ?_
 refine W.pk ?_
 refine .t rfl rfl (O.box rfl rfl rfl rfl rfl) ?_
 refine .a rfl rfl rfl rfl ?_
 refine .nil ?_
 refine W.seq ?_
 refine W.seq ?_
 refine W.pk ?_
 refine .m rfl rfl rfl rfl ?_
 refine .v rfl rfl (OpL.eqP rfl u58 rfl rfl rfl) ?_
 refine .m rfl rfl rfl rfl ?_
 refine .m rfl (met rfl rfl rfl rfl) rfl rfl ?_
 refine .v rfl (met rfl rfl rfl rfl) (OpL.nilP rfl rfl rfl) ?_
 refine .v rfl (met rfl rfl rfl rfl) (O.fld fld83_2 rfl rfl rfl) ?_
 refine .v rfl (met rfl rfl rfl rfl) (O.ld (y := .b x0.made) ty4 rfl rfl rfl) ?_
 refine .v rfl (met rfl rfl rfl rfl) (OpL.unV rfl rfl rfl) ?_
 refine .v rfl rfl (O.pickF rfl rfl rfl rfl) ?_
 refine .nil ?_
 refine W.cond rfl (fun q1 => ?_) (fun q1 => ?_)
 ·have h := ifT q1 h
  refine W.seq ?_
  refine W.pk ?_
  refine .a rfl rfl rfl rfl ?_
  refine .nil ?_
  refine W.ret ?_
  cases h
  exact leaves (.inr rfl) rfl (.imm _) (cS (.ptr _ _ _ _ _ rfl (cC (.own _ _ _ _ rfl) (cC (.own _ _ _ _ rfl) (cC (.imm _) .nil)))) (cN .nil)) rfl rfl
 ·have h := ifF q1 h
  refine W.skip ?_
  refine W.seq ?_
  refine W.seq ?_
  obtain ⟨t2, b3, h⟩ := bnd1 h
  refine W.pk ?_
  refine .v rfl rfl (O.ldN ty38 rfl rfl rfl) ?_
  refine .call (.i t2) [] 0 (isin_Asset.ok b3) rfl rfl rfl ca47 rfl rfl (cC (.agg _ _ _ _ (cC (.imm _) (cC (.imm _) (cC (.imm _) (cC (.imm _) (cC (.imm _) .nil)))))) .nil) rfl rfl rfl rfl rfl ?_
  refine .a rfl rfl rfl rfl ?_
  refine .nil ?_
  refine W.seq ?_
  refine W.pk ?_
  refine .m rfl rfl rfl rfl ?_
  refine .v rfl rfl (OpL.binI rfl rfl rfl rfl) ?_
  refine .nil ?_
  refine W.cond rfl (fun q4 => ?_) (fun q4 => ?_)
  ·have h := ifT q4 h
   refine W.seq ?_
   refine W.pk ?_
   refine .m rfl rfl rfl rfl ?_
   refine .a rfl rfl rfl rfl ?_
   refine .nil ?_
   refine W.ret ?_
   cases h
   exact leaves (.inr rfl) rfl (.imm _) (cS (.ptr _ _ _ _ _ rfl (cC (.own _ _ _ _ rfl) (cC (.own _ _ _ _ rfl) (cC (.imm _) .nil)))) (cN .nil)) rfl rfl
  ·have h := ifF q4 h
   refine W.skip ?_
   refine W.seq ?_
   obtain ⟨t5, b6, h⟩ := bnd1 h
   refine W.pk ?_
   refine .m rfl rfl rfl rfl ?_
   refine .v rfl rfl (O.fld fld38_0 rfl rfl rfl) ?_
   refine .v rfl rfl (O.ld (y := .s x1.ISIN) ty9 rfl rfl rfl) ?_
   refine .call (.tup [.i t5.1, .b t5.2]) [(0, some (.box [.own 1003, .own 1004, .b x0.made])), (1003, some (.rows 38 5 (List.map api_Asset.enc x0.l) false)), (1004, some (.rows 3 1 (List.map (encI .i64) x0.prices) false)), (0, none), (1000, none), (1001, none)] 2 (asset_Book_place.ok b6) rfl rfl rfl ca48 rfl rfl (cC (.ptr _ _ _ _ _ rfl (cC (.own _ _ _ _ rfl) (cC (.own _ _ _ _ rfl) (cC (.imm _) .nil)))) (cC (.imm _) .nil)) rfl rfl rfl rfl rfl ?_
   refine .m rfl rfl rfl rfl ?_
   refine .v rfl rfl (OpL.extract rfl rfl rfl) ?_
   refine .v rfl rfl (OpL.extract rfl rfl rfl) ?_
   refine .a rfl rfl rfl rfl ?_
   refine .a rfl rfl rfl rfl ?_
   refine .nil ?_
   refine W.seq ?_
   refine W.block ?_
   refine W.seq ?_
   refine W.pk ?_
   refine .m rfl rfl rfl rfl ?_
   refine .a rfl rfl rfl rfl ?_
   refine .nil ?_
   refine W.cond rfl (fun q7 => ?_) (fun q7 => ?_)
   ·have h := ifT q7 h
    refine W.seq ?_
    refine W.pk ?_
    refine .a rfl rfl rfl rfl ?_
    refine .nil ?_
    refine W.ret ?_
    cases h
    exact leaves (.inr rfl) rfl (.imm _) (cS (.ptr _ _ _ _ _ rfl (cC (.own _ _ _ _ rfl) (cC (.own _ _ _ _ rfl) (cC (.imm _) .nil)))) (cN .nil)) rfl rfl
   ·have h := ifF q7 h
    refine W.seq ?_
    refine W.pk ?_
    refine .m rfl rfl rfl rfl ?_
    refine .v rfl rfl (OpL.nilP rfl rfl rfl) ?_
    refine .v rfl rfl (O.fld fld83_0 rfl rfl rfl) ?_
    refine .v rfl rfl (O.ld (y := .own 1003) ty56 rfl rfl rfl) ?_
    refine .v rfl rfl (O.lenO sl56 rfl rfl rfl) ?_
    refine .v rfl rfl (OpL.binI rfl rfl rfl rfl) ?_
    refine .a rfl rfl rfl rfl ?_
    refine .nil ?_
    refine W.cond rfl (fun q8 => ?_) (fun q8 => ?_)
    ·have h := ifT q8 h
     refine W.seq ?_
     refine W.pk ?_
     refine .a rfl rfl rfl rfl ?_
     refine .nil ?_
     refine W.ret ?_
     cases h
     exact leaves (.inr rfl) rfl (.imm _) (cS (.ptr _ _ _ _ _ rfl (cC (.own _ _ _ _ rfl) (cC (.own _ _ _ _ rfl) (cC (.imm _) .nil)))) (cN .nil)) rfl rfl
    ·have h := ifF q8 h
     refine W.skip ?_
     refine W.seq ?_
     obtain ⟨t9, b10, h⟩ := bnd1 h
     refine W.dk (unm 12 [0, 0, 2, 6, 14, 0, 0, 64, 254, 511, 1023, 2047]) rfl (by kernel_rfl) ?_
     refine .m rfl rfl rfl rfl ?_
     refine .m rfl rfl rfl rfl ?_
     refine .v rfl rfl (OpL.nilP rfl rfl rfl) ?_
     refine .v rfl rfl (O.fld fld83_0 rfl rfl rfl) ?_
     refine .v rfl rfl (O.ld (y := .own 1003) ty56 rfl rfl rfl) ?_
     refine .m rfl rfl rfl rfl ?_
     refine .v rfl rfl (O.ldN ty38 rfl rfl rfl) ?_
     refine .t rfl rfl (O.lit (enc := api_Asset.enc) (l := [x1]) sl56 rfl rfl rfl rfl rfl rfl rfl rfl rfl) ?_
     refine .call (.own 1006) [(1006, some (.rows 38 5 (List.map api_Asset.enc t9) false)), (1003, none), (1005, none)] 1 (slices_Insert_api_Asset.ok b10) rfl rfl rfl ca49 rfl rfl (cC (.own _ _ _ _ rfl) (cC (.imm _) (cC (.own _ _ _ _ rfl) .nil))) rfl rfl rfl rfl rfl ?_
     refine .v rfl rfl (OpL.nilP rfl rfl rfl) ?_
     refine .v rfl rfl (O.fld fld83_0 rfl rfl rfl) ?_
     refine .s rfl rfl (O.st ty56 rfl rfl rfl rfl rfl rfl rfl rfl rfl rfl (all' := [.own 1006, .own 1004, .b x0.made]) rfl) ?_
     refine .nil ?_
     refine ⟨by kernel_rfl, by kernel_rfl, ?_⟩
     refine W.seq ?_
     obtain ⟨t11, b12, h⟩ := bnd1 h
     refine W.pk ?_
     refine .m rfl rfl rfl rfl ?_
     refine .m rfl rfl rfl rfl ?_
     refine .v rfl rfl (OpL.nilP rfl rfl rfl) ?_
     refine .v rfl rfl (O.fld fld83_1 rfl rfl rfl) ?_
     refine .v rfl rfl (O.ld (y := .own 1004) ty34 rfl rfl rfl) ?_
     refine .m rfl rfl rfl rfl ?_
     refine .t rfl rfl (O.lit (enc := (encI .i64)) (l := [0]) sl34 rfl rfl rfl rfl rfl rfl rfl rfl rfl) ?_
     refine .call (.own 1008) [(1008, some (.rows 3 1 (List.map (encI .i64) t11) false)), (1004, none), (1007, none)] 1 (slices_Insert_int.ok b12) rfl rfl rfl ca50 rfl rfl (cC (.own _ _ _ _ rfl) (cC (.imm _) (cC (.own _ _ _ _ rfl) .nil))) rfl rfl rfl rfl rfl ?_
     refine .v rfl rfl (OpL.nilP rfl rfl rfl) ?_
     refine .v rfl rfl (O.fld fld83_1 rfl rfl rfl) ?_
     refine .s rfl rfl (O.st ty34 rfl rfl rfl rfl rfl rfl rfl rfl rfl rfl (all' := [.own 1006, .own 1008, .b x0.made]) rfl) ?_
     refine .nil ?_
     refine W.seq ?_
     refine W.pk ?_
     refine .a rfl rfl rfl rfl ?_
     refine .nil ?_
     refine W.ret ?_
     cases h
     exact leaves (.inr rfl) rfl (.imm _) (cS (.ptr _ _ _ _ _ rfl (cC (.own _ _ _ _ rfl) (cC (.own _ _ _ _ rfl) (cC (.imm _) .nil)))) (cN .nil)) rfl rfl

noncomputable def lombardref05_digits.b0 (x0 : Bs) (v18 : Int) (v19 : List Int) : Option ((Int × (List Int)) ⊕ (((List Int) × Bool) ⊕ (List Int))) :=
  if (decide (v18 < (List.length x0 : Int))) = true then
    if (0 : Int) ≤ v18 ∧ v18 < (List.length x0 : Int) then
    if ((decide ((IntKind.wrap .i64 (byte x0 v18)) ≥ 48)) && (decide ((IntKind.wrap .i64 (byte x0 v18)) ≤ 57))) = true then
      if (List.length v19 + List.length [(IntKind.wrap .i64 ((IntKind.wrap .i64 (byte x0 v18)) - 48))]) * 8 ≤ 140737488355328 then
      some (.inl ((IntKind.wrap .i64 (v18 + 1)), (v19 ++ [(IntKind.wrap .i64 ((IntKind.wrap .i64 (byte x0 v18)) - 48))])))
      else none
    else
      if ((decide ((IntKind.wrap .i64 (byte x0 v18)) ≥ 65)) && (decide ((IntKind.wrap .i64 (byte x0 v18)) ≤ 90))) = true then
        if (List.length v19 + List.length [(IntKind.wrap .i64 (Int.tdiv (IntKind.wrap .i64 ((IntKind.wrap .i64 ((IntKind.wrap .i64 (byte x0 v18)) - 65)) + 10)) 10)), (Int.tmod (IntKind.wrap .i64 ((IntKind.wrap .i64 ((IntKind.wrap .i64 (byte x0 v18)) - 65)) + 10)) 10)]) * 8 ≤ 140737488355328 then
        some (.inl ((IntKind.wrap .i64 (v18 + 1)), (v19 ++ [(IntKind.wrap .i64 (Int.tdiv (IntKind.wrap .i64 ((IntKind.wrap .i64 ((IntKind.wrap .i64 (byte x0 v18)) - 65)) + 10)) 10)), (Int.tmod (IntKind.wrap .i64 ((IntKind.wrap .i64 ((IntKind.wrap .i64 (byte x0 v18)) - 65)) + 10)) 10)])))
        else none
      else
        some (.inr (.inl ([], false)))
    else none
  else
    some (.inr (.inr v19))
noncomputable def lombardref05_digits.r0 (x0 : Bs) (s : Int × (List Int)) : Option ((Int × (List Int)) ⊕ (((List Int) × Bool) ⊕ (List Int))) := lombardref05_digits.b0 x0 s.1 s.2
noncomputable def lombardref05_digits.f (x0 : Bs) : Option ((List Int) × Bool) :=
  (loop (lombardref05_digits.r0 x0) (0, [])).bind fun o37 =>
  match o37 with
  | .inl r48 => some r48
  | .inr w36 =>
    some (w36, true)
set_option maxRecDepth 100000 in
set_option maxHeartbeats 4000000 in
theorem lombardref05_digits.ok {x0 : Bs} {r : (List Int) × Bool} (h : lombardref05_digits.f x0 = some r) : Pm.Spec prog 90 [.imm (.val (.string (tx x0)))] (.tup [.xown 3 1 (List.map (encI .i64) r.1), .imm (.val (.bool r.2))]) [none] := by
 unfold lombardref05_digits.f at h
 refine Pm.Spec.of_body Try.func90 rfl (by kernel_rfl) (Nat.le_of_ble_eq_true rfl) (Nat.le_of_ble_eq_true rfl) ?_
 refine W.ghost (σ' := (mkSt [(0, some (.s x0))] [] 1000)) (Gives.entry (.c rfl .n) .n) ?_
 refine W.seq ?_
 refine W.pk ?_
 refine .a rfl rfl rfl rfl ?_
 refine .a rfl rfl rfl rfl ?_
 refine .nil ?_
 refine W.seq ?_
 refine W.pk ?_
 refine .a rfl rfl rfl rfl ?_
 refine .nil ?_
 refine W.seq ?_
 refine W.seq ?_
 refine W.pk ?_
 refine .a rfl rfl rfl rfl ?_
 refine .nil ?_
 refine W.ghost (Gives.mintS 4 3 1 rfl) ?_
 obtain ⟨o37, b38, z39⟩ := bnd1 h
 refine W.fork2 (out := o37) (fun (w36 : List Int) => mkSt [(4, some (.own 1000))] [(1000, some (.rows 3 1 (List.map (encI .i64) w36) false))] 1001) ?_ ?_
 ·clear h
  refine W.block ?_
  refine W.loopF (fun (s_ : Int × (List Int)) => mkSt [(0, some (.s x0)), (4, some (.own 1000)), (5, some (.i s_.1))] [(1000, some (.rows 3 1 (List.map (encI .i64) s_.2) false))] 1001) b38 (Gives.mkR [] (.r rfl rfl (.r rfl rfl (.r rfl rfl .n))) (.r rfl rfl rfl .n) rfl rfl rfl) ?_
  rintro ⟨v18, v19⟩ s_ hr
  have h : lombardref05_digits.b0 x0 v18 v19 = some s_ := hr
  unfold lombardref05_digits.b0 at h
  refine W.seq ?_
  refine W.seq ?_
  refine W.pk ?_
  refine .m rfl rfl rfl rfl ?_
  refine .m rfl rfl rfl rfl ?_
  refine .v rfl rfl (O.lenS u9 rfl rfl) ?_
  refine .v rfl rfl (OpL.binI rfl rfl rfl rfl) ?_
  refine .nil ?_
  refine W.cond rfl (fun q40 => ?_) (fun q40 => ?_)
  ·have h := ifT q40 h
   refine W.skip ?_
   refine W.seq ?_
   refine W.block ?_
   refine W.seq ?_
   obtain ⟨c41, h⟩ := chk h
   refine W.pk ?_
   refine .m rfl rfl rfl rfl ?_
   refine .m rfl rfl rfl rfl ?_
   refine .v rfl rfl (O.idxS u9 c41 rfl rfl rfl) ?_
   refine .v rfl rfl (O.conv h5 u3 rfl rfl) ?_
   refine .a rfl rfl rfl rfl ?_
   refine .nil ?_
   refine W.seq ?_
   refine W.fork (mkSt [(0, some (.s x0)), (4, some (.own 1000)), (5, some (.i v18)), (6, some (.i (IntKind.wrap .i64 (byte x0 v18)))), (22, some (.b ((decide ((IntKind.wrap .i64 (byte x0 v18)) ≥ 48)) && (decide ((IntKind.wrap .i64 (byte x0 v18)) ≤ 57)))))] [(1000, some (.rows 3 1 (List.map (encI .i64) v19) false))] 1001) ?_ ?_
   ·refine W.cond rfl (fun q43 => ?_) (fun q43 => ?_)
    ·have h := ifT q43 h
     obtain ⟨c44, h⟩ := chk h
     refine W.pk ?_
     refine .m rfl rfl rfl rfl ?_
     refine .m rfl rfl rfl rfl ?_
     refine .v rfl rfl (OpL.binI rfl rfl rfl rfl) ?_
     refine .t rfl rfl (O.lit (enc := (encI .i64)) (l := [(IntKind.wrap .i64 ((IntKind.wrap .i64 (byte x0 v18)) - 48))]) sl34 rfl rfl rfl rfl rfl rfl rfl rfl rfl) ?_
     refine .t rfl rfl (O.appO sl34 (EncOk.int .i64) c44 rfl rfl rfl rfl rfl) ?_
     refine .a rfl rfl rfl rfl ?_
     refine .nil ?_
     refine W.pk ?_
     refine .m rfl rfl rfl rfl ?_
     refine .v rfl rfl (OpL.binI rfl rfl rfl rfl) ?_
     refine .a rfl rfl rfl rfl ?_
     refine .nil ?_
     cases h
     exact rdN (Gives.mkR [(1000, 1002)] (.r rfl rfl (.r rfl rfl (.r rfl rfl .n))) (.r rfl rfl rfl .n) rfl rfl rfl)
    ·have h := ifF q43 h
     refine W.seq ?_
     refine W.fork (mkSt [(0, some (.s x0)), (4, some (.own 1000)), (5, some (.i v18)), (6, some (.i (IntKind.wrap .i64 (byte x0 v18)))), (33, some (.b ((decide ((IntKind.wrap .i64 (byte x0 v18)) ≥ 65)) && (decide ((IntKind.wrap .i64 (byte x0 v18)) ≤ 90)))))] [(1000, some (.rows 3 1 (List.map (encI .i64) v19) false))] 1001) ?_ ?_
     ·refine W.cond rfl (fun q46 => ?_) (fun q46 => ?_)
      ·have h := ifT q46 h
       obtain ⟨c47, h⟩ := chk h
       refine W.pk ?_
       refine .m rfl rfl rfl rfl ?_
       refine .m rfl rfl rfl rfl ?_
       refine .v rfl rfl (OpL.binI rfl rfl rfl rfl) ?_
       refine .v rfl rfl (OpL.binI rfl rfl rfl rfl) ?_
       refine .v rfl rfl (O.quo rfl rfl rfl (by decide)) ?_
       refine .m rfl rfl rfl rfl ?_
       refine .v rfl rfl (OpL.binI rfl rfl rfl rfl) ?_
       refine .v rfl rfl (OpL.binI rfl rfl rfl rfl) ?_
       refine .v rfl rfl (O.rem rfl rfl rfl (by decide)) ?_
       refine .t rfl rfl (O.lit (enc := (encI .i64)) (l := [(IntKind.wrap .i64 (Int.tdiv (IntKind.wrap .i64 ((IntKind.wrap .i64 ((IntKind.wrap .i64 (byte x0 v18)) - 65)) + 10)) 10)), (Int.tmod (IntKind.wrap .i64 ((IntKind.wrap .i64 ((IntKind.wrap .i64 (byte x0 v18)) - 65)) + 10)) 10)]) sl34 rfl rfl rfl rfl rfl rfl rfl rfl rfl) ?_
       refine .t rfl rfl (O.appO sl34 (EncOk.int .i64) c47 rfl rfl rfl rfl rfl) ?_
       refine .a rfl rfl rfl rfl ?_
       refine .nil ?_
       refine W.pk ?_
       refine .m rfl rfl rfl rfl ?_
       refine .v rfl rfl (OpL.binI rfl rfl rfl rfl) ?_
       refine .a rfl rfl rfl rfl ?_
       refine .nil ?_
       cases h
       exact rdN (Gives.mkR [(1000, 1002)] (.r rfl rfl (.r rfl rfl (.r rfl rfl .n))) (.r rfl rfl rfl .n) rfl rfl rfl)
      ·have h := ifF q46 h
       refine W.seq ?_
       refine W.pk ?_
       refine .a rfl rfl rfl rfl ?_
       refine .a rfl rfl rfl rfl ?_
       refine .nil ?_
       refine W.ret ?_
       cases h
       refine rdR fun e_ => ?_
       subst e_
       have h := z39
       dsimp only at h
       refine fkR ?_
       cases h
       exact leaves (.inr rfl) rfl (.tup _ _ _ _ (cC (.nilown _ _) (cC (.imm _) .nil))) (cN .nil) rfl rfl
     ·clear h
      rcases tf (decide ((IntKind.wrap .i64 (byte x0 v18)) ≥ 65)) with g45 | g45
      ·refine W.pk ?_
       refine .m rfl rfl rfl rfl ?_
       refine .v rfl rfl (OpL.binI rfl rfl rfl rfl) ?_
       refine .m rfl rfl rfl rfl ?_
       refine .m rfl (met rfl rfl rfl g45) rfl rfl ?_
       refine .v rfl (met rfl rfl rfl g45) (OpL.binI rfl rfl rfl rfl) ?_
       refine .v rfl rfl (O.pickT g45 rfl rfl rfl) ?_
       refine .nil ?_
       exact toN (Gives.mkR [] (.r rfl rfl (.r rfl rfl (.r rfl rfl (.r rfl rfl (.c rfl (sbb (by simp only [g45, Bool.true_or, Bool.or_true, Bool.false_or, Bool.or_false, Bool.true_and, Bool.and_true, Bool.false_and, Bool.and_false, Bool.not_true, Bool.not_false, cond_true, cond_false])) rfl .n))))) (.r rfl rfl rfl .n) rfl rfl rfl)
      ·refine W.pk ?_
       refine .m rfl rfl rfl rfl ?_
       refine .v rfl rfl (OpL.binI rfl rfl rfl rfl) ?_
       refine .m rfl rfl rfl rfl ?_
       refine .x rfl (unmet rfl rfl rfl g45) ?_
       refine .x rfl (unmet rfl rfl rfl g45) ?_
       refine .v rfl rfl (O.pickF g45 rfl rfl rfl) ?_
       refine .nil ?_
       exact toN (Gives.mkR [] (.r rfl rfl (.r rfl rfl (.r rfl rfl (.r rfl rfl (.c rfl (sbb (by simp only [g45, Bool.true_or, Bool.or_true, Bool.false_or, Bool.or_false, Bool.true_and, Bool.and_true, Bool.false_and, Bool.and_false, Bool.not_true, Bool.not_false, cond_true, cond_false])) rfl .n))))) (.r rfl rfl rfl .n) rfl rfl rfl)
   ·clear h
    rcases tf (decide ((IntKind.wrap .i64 (byte x0 v18)) ≥ 48)) with g42 | g42
    ·refine W.pk ?_
     refine .m rfl rfl rfl rfl ?_
     refine .v rfl rfl (OpL.binI rfl rfl rfl rfl) ?_
     refine .m rfl rfl rfl rfl ?_
     refine .m rfl (met rfl rfl rfl g42) rfl rfl ?_
     refine .v rfl (met rfl rfl rfl g42) (OpL.binI rfl rfl rfl rfl) ?_
     refine .v rfl rfl (O.pickT g42 rfl rfl rfl) ?_
     refine .nil ?_
     exact toN (Gives.mkR [] (.r rfl rfl (.r rfl rfl (.r rfl rfl (.r rfl rfl (.c rfl (sbb (by simp only [g42, Bool.true_or, Bool.or_true, Bool.false_or, Bool.or_false, Bool.true_and, Bool.and_true, Bool.false_and, Bool.and_false, Bool.not_true, Bool.not_false, cond_true, cond_false])) rfl .n))))) (.r rfl rfl rfl .n) rfl rfl rfl)
    ·refine W.pk ?_
     refine .m rfl rfl rfl rfl ?_
     refine .v rfl rfl (OpL.binI rfl rfl rfl rfl) ?_
     refine .m rfl rfl rfl rfl ?_
     refine .x rfl (unmet rfl rfl rfl g42) ?_
     refine .x rfl (unmet rfl rfl rfl g42) ?_
     refine .v rfl rfl (O.pickF g42 rfl rfl rfl) ?_
     refine .nil ?_
     exact toN (Gives.mkR [] (.r rfl rfl (.r rfl rfl (.r rfl rfl (.r rfl rfl (.c rfl (sbb (by simp only [g42, Bool.true_or, Bool.or_true, Bool.false_or, Bool.or_false, Bool.true_and, Bool.and_true, Bool.false_and, Bool.and_false, Bool.not_true, Bool.not_false, cond_true, cond_false])) rfl .n))))) (.r rfl rfl rfl .n) rfl rfl rfl)
  ·have h := ifF q40 h
   refine W.exit ?_
   cases h
   refine rdX fun e_ => ?_
   subst e_
   repeat with_reducible refine thru ?_
   refine hit ?_
   exact fkN (Gives.mkR [] (.r rfl rfl .n) (.r rfl rfl rfl .n) rfl rfl rfl)
 ·intro w36 e_
  subst e_
  clear h
  have h := z39
  dsimp only at h
  refine W.seq ?_
  refine W.pk ?_
  refine .m rfl rfl rfl rfl ?_
  refine .a rfl rfl rfl rfl ?_
  refine .a rfl rfl rfl rfl ?_
  refine .nil ?_
  refine W.ret ?_
  cases h
  exact leaves (.inr rfl) rfl (.tup _ _ _ _ (cC (.own _ _ _ _ rfl) (cC (.imm _) .nil))) (cN .nil) rfl rfl

noncomputable def lombardref05_shaped.f (x0 : Bs) : Option (Bool) :=
  (lombardref05_digits.f x0).bind fun t1 =>
  if ((t1.2 && ((List.length x0 : Int) == 11)) = true → (0 : Int) ≤ 0 ∧ 0 < (List.length x0 : Int)) then
  if (((t1.2 && ((List.length x0 : Int) == 11)) && (decide ((byte x0 0) ≥ 65))) = true → (0 : Int) ≤ 1 ∧ 1 < (List.length x0 : Int)) then
  some (((t1.2 && ((List.length x0 : Int) == 11)) && (decide ((byte x0 0) ≥ 65))) && (decide ((byte x0 1) ≥ 65)))
  else none
  else none
set_option maxRecDepth 100000 in
set_option maxHeartbeats 4000000 in
theorem lombardref05_shaped.ok {x0 : Bs} {r : Bool} (h : lombardref05_shaped.f x0 = some r) : Pm.Spec prog 84 [.imm (.val (.string (tx x0)))] (.imm (.val (.bool r))) [none] := by
 unfold lombardref05_shaped.f at h
 refine Pm.Spec.of_body Try.func84 rfl (by kernel_rfl) (Nat.le_of_ble_eq_true rfl) (Nat.le_of_ble_eq_true rfl) ?_
 refine W.ghost (σ' := (mkSt [(0, some (.s x0))] [] 1000)) (Gives.entry (.c rfl .n) .n) ?_
 refine W.seq ?_
 refine W.pk ?_
 refine .a rfl rfl rfl rfl ?_
 refine .nil ?_
 refine W.seq ?_
 obtain ⟨t1, b2, h⟩ := bnd1 h
 refine W.pk ?_
 refine .m rfl rfl rfl rfl ?_
 refine .call (.tup [.own 1000, .b t1.2]) [(1000, some (.rows 3 1 (List.map (encI .i64) t1.1) false))] 1 (lombardref05_digits.ok b2) rfl rfl rfl ca90 rfl rfl (cC (.imm _) .nil) rfl rfl rfl rfl rfl ?_
 refine .m rfl rfl rfl rfl ?_
 refine .v rfl rfl (OpL.extract rfl rfl rfl) ?_
 refine .v rfl rfl (OpL.extract rfl rfl rfl) ?_
 refine .a rfl rfl rfl rfl ?_
 refine .a rfl rfl rfl rfl ?_
 refine .nil ?_
 refine W.seq ?_
 obtain ⟨c3, h⟩ := chk h
 obtain ⟨c4, h⟩ := chk h
 refine W.fork (mkSt [(2, some (.b (((t1.2 && ((List.length x0 : Int) == 11)) && (decide ((byte x0 0) ≥ 65))) && (decide ((byte x0 1) ≥ 65)))))] [] 1001) ?_ ?_
 ·refine W.ret ?_
  cases h
  exact leaves (.inr rfl) rfl (.imm _) (cN .nil) rfl rfl
 ·clear h
  rcases tf t1.2 with g5 | g5
  ·rcases tf ((List.length x0 : Int) == 11) with g6 | g6
   ·rcases tf (decide ((byte x0 0) ≥ 65)) with g7 | g7
    ·refine W.pk ?_
     refine .m rfl rfl rfl rfl ?_
     refine .m rfl rfl rfl rfl ?_
     refine .m rfl (met rfl rfl rfl g5) rfl rfl ?_
     refine .v rfl (met rfl rfl rfl g5) (O.lenS u9 rfl rfl) ?_
     refine .v rfl (met rfl rfl rfl g5) (OpL.binI rfl rfl rfl rfl) ?_
     refine .v rfl rfl (O.pickT g5 rfl rfl rfl) ?_
     refine .m rfl rfl rfl rfl ?_
     refine .m rfl (met rfl rfl rfl g6) rfl rfl ?_
     refine .v rfl (met rfl rfl rfl g6) (O.idxS u9 (c3 (by first | (simp only [g5, g6, g7, Bool.true_or, Bool.or_true, Bool.false_or, Bool.or_false, Bool.true_and, Bool.and_true, Bool.false_and, Bool.and_false, Bool.not_true, Bool.not_false, cond_true, cond_false]; done) | (repeat (first | rw [g5] | rw [g6] | rw [g7])) <;> simp only [Bool.true_or, Bool.or_true, Bool.false_or, Bool.or_false, Bool.true_and, Bool.and_true, Bool.false_and, Bool.and_false, Bool.not_true, Bool.not_false, cond_true, cond_false])) rfl rfl rfl) ?_
     refine .v rfl (met rfl rfl rfl g6) (OpL.binI rfl rfl rfl rfl) ?_
     refine .v rfl rfl (O.pickT g6 rfl rfl rfl) ?_
     refine .m rfl rfl rfl rfl ?_
     refine .m rfl (met rfl rfl rfl g7) rfl rfl ?_
     refine .v rfl (met rfl rfl rfl g7) (O.idxS u9 (c4 (by first | (simp only [g5, g6, g7, Bool.true_or, Bool.or_true, Bool.false_or, Bool.or_false, Bool.true_and, Bool.and_true, Bool.false_and, Bool.and_false, Bool.not_true, Bool.not_false, cond_true, cond_false]; done) | (repeat (first | rw [g5] | rw [g6] | rw [g7])) <;> simp only [Bool.true_or, Bool.or_true, Bool.false_or, Bool.or_false, Bool.true_and, Bool.and_true, Bool.false_and, Bool.and_false, Bool.not_true, Bool.not_false, cond_true, cond_false])) rfl rfl rfl) ?_
     refine .v rfl (met rfl rfl rfl g7) (OpL.binI rfl rfl rfl rfl) ?_
     refine .v rfl rfl (O.pickT g7 rfl rfl rfl) ?_
     refine .a rfl rfl rfl rfl ?_
     refine .nil ?_
     exact toN (Gives.mkR [] (.c rfl (sbb (by first | (simp only [g5, g6, g7, Bool.true_or, Bool.or_true, Bool.false_or, Bool.or_false, Bool.true_and, Bool.and_true, Bool.false_and, Bool.and_false, Bool.not_true, Bool.not_false, cond_true, cond_false]; done) | (repeat (first | rw [g5] | rw [g6] | rw [g7])) <;> simp only [Bool.true_or, Bool.or_true, Bool.false_or, Bool.or_false, Bool.true_and, Bool.and_true, Bool.false_and, Bool.and_false, Bool.not_true, Bool.not_false, cond_true, cond_false])) rfl .n) .n rfl rfl rfl)
    ·refine W.pk ?_
     refine .m rfl rfl rfl rfl ?_
     refine .m rfl rfl rfl rfl ?_
     refine .m rfl (met rfl rfl rfl g5) rfl rfl ?_
     refine .v rfl (met rfl rfl rfl g5) (O.lenS u9 rfl rfl) ?_
     refine .v rfl (met rfl rfl rfl g5) (OpL.binI rfl rfl rfl rfl) ?_
     refine .v rfl rfl (O.pickT g5 rfl rfl rfl) ?_
     refine .m rfl rfl rfl rfl ?_
     refine .m rfl (met rfl rfl rfl g6) rfl rfl ?_
     refine .v rfl (met rfl rfl rfl g6) (O.idxS u9 (c3 (by first | (simp only [g5, g6, g7, Bool.true_or, Bool.or_true, Bool.false_or, Bool.or_false, Bool.true_and, Bool.and_true, Bool.false_and, Bool.and_false, Bool.not_true, Bool.not_false, cond_true, cond_false]; done) | (repeat (first | rw [g5] | rw [g6] | rw [g7])) <;> simp only [Bool.true_or, Bool.or_true, Bool.false_or, Bool.or_false, Bool.true_and, Bool.and_true, Bool.false_and, Bool.and_false, Bool.not_true, Bool.not_false, cond_true, cond_false])) rfl rfl rfl) ?_
     refine .v rfl (met rfl rfl rfl g6) (OpL.binI rfl rfl rfl rfl) ?_
     refine .v rfl rfl (O.pickT g6 rfl rfl rfl) ?_
     refine .m rfl rfl rfl rfl ?_
     refine .x rfl (unmet rfl rfl rfl g7) ?_
     refine .x rfl (unmet rfl rfl rfl g7) ?_
     refine .x rfl (unmet rfl rfl rfl g7) ?_
     refine .v rfl rfl (O.pickF g7 rfl rfl rfl) ?_
     refine .a rfl rfl rfl rfl ?_
     refine .nil ?_
     exact toN (Gives.mkR [] (.c rfl (sbb (by first | (simp only [g5, g6, g7, Bool.true_or, Bool.or_true, Bool.false_or, Bool.or_false, Bool.true_and, Bool.and_true, Bool.false_and, Bool.and_false, Bool.not_true, Bool.not_false, cond_true, cond_false]; done) | (repeat (first | rw [g5] | rw [g6] | rw [g7])) <;> simp only [Bool.true_or, Bool.or_true, Bool.false_or, Bool.or_false, Bool.true_and, Bool.and_true, Bool.false_and, Bool.and_false, Bool.not_true, Bool.not_false, cond_true, cond_false])) rfl .n) .n rfl rfl rfl)
   ·refine W.pk ?_
    refine .m rfl rfl rfl rfl ?_
    refine .m rfl rfl rfl rfl ?_
    refine .m rfl (met rfl rfl rfl g5) rfl rfl ?_
    refine .v rfl (met rfl rfl rfl g5) (O.lenS u9 rfl rfl) ?_
    refine .v rfl (met rfl rfl rfl g5) (OpL.binI rfl rfl rfl rfl) ?_
    refine .v rfl rfl (O.pickT g5 rfl rfl rfl) ?_
    refine .m rfl rfl rfl rfl ?_
    refine .x rfl (unmet rfl rfl rfl g6) ?_
    refine .x rfl (unmet rfl rfl rfl g6) ?_
    refine .x rfl (unmet rfl rfl rfl g6) ?_
    refine .v rfl rfl (O.pickF g6 rfl rfl rfl) ?_
    refine .m rfl rfl rfl rfl ?_
    refine .x rfl (unmet rfl rfl rfl rfl) ?_
    refine .x rfl (unmet rfl rfl rfl rfl) ?_
    refine .x rfl (unmet rfl rfl rfl rfl) ?_
    refine .v rfl rfl (O.pickF rfl rfl rfl rfl) ?_
    refine .a rfl rfl rfl rfl ?_
    refine .nil ?_
    exact toN (Gives.mkR [] (.c rfl (sbb (by first | (simp only [g5, g6, Bool.true_or, Bool.or_true, Bool.false_or, Bool.or_false, Bool.true_and, Bool.and_true, Bool.false_and, Bool.and_false, Bool.not_true, Bool.not_false, cond_true, cond_false]; done) | (repeat (first | rw [g5] | rw [g6])) <;> simp only [Bool.true_or, Bool.or_true, Bool.false_or, Bool.or_false, Bool.true_and, Bool.and_true, Bool.false_and, Bool.and_false, Bool.not_true, Bool.not_false, cond_true, cond_false])) rfl .n) .n rfl rfl rfl)
  ·refine W.pk ?_
   refine .m rfl rfl rfl rfl ?_
   refine .m rfl rfl rfl rfl ?_
   refine .x rfl (unmet rfl rfl rfl g5) ?_
   refine .x rfl (unmet rfl rfl rfl g5) ?_
   refine .x rfl (unmet rfl rfl rfl g5) ?_
   refine .v rfl rfl (O.pickF g5 rfl rfl rfl) ?_
   refine .m rfl rfl rfl rfl ?_
   refine .x rfl (unmet rfl rfl rfl rfl) ?_
   refine .x rfl (unmet rfl rfl rfl rfl) ?_
   refine .x rfl (unmet rfl rfl rfl rfl) ?_
   refine .v rfl rfl (O.pickF rfl rfl rfl rfl) ?_
   refine .m rfl rfl rfl rfl ?_
   refine .x rfl (unmet rfl rfl rfl rfl) ?_
   refine .x rfl (unmet rfl rfl rfl rfl) ?_
   refine .x rfl (unmet rfl rfl rfl rfl) ?_
   refine .v rfl rfl (O.pickF rfl rfl rfl rfl) ?_
   refine .a rfl rfl rfl rfl ?_
   refine .nil ?_
   exact toN (Gives.mkR [] (.c rfl (sbb (by simp only [g5, Bool.true_or, Bool.or_true, Bool.false_or, Bool.or_false, Bool.true_and, Bool.and_true, Bool.false_and, Bool.and_false, Bool.not_true, Bool.not_false, cond_true, cond_false])) rfl .n) .n rfl rfl rfl)

noncomputable def lombardref05_right.b0 (t1 : (List Int) × Bool) (v10 : Int) (v11 : Int) : Option ((Int × Int) ⊕ Int) :=
  if (decide (v11 < (List.length t1.1 : Int))) = true then
    if (0 : Int) ≤ (IntKind.wrap .i64 ((IntKind.wrap .i64 ((List.length t1.1 : Int) - 1)) - v11)) ∧ (IntKind.wrap .i64 ((IntKind.wrap .i64 ((List.length t1.1 : Int) - 1)) - v11)) < (List.length t1.1 : Int) then
    ((
      if ((Int.tmod v11 2) == 1) = true then
        some (IntKind.wrap .i64 (2 * (nth t1.1 (IntKind.wrap .i64 ((IntKind.wrap .i64 ((List.length t1.1 : Int) - 1)) - v11)))))
      else
        some (nth t1.1 (IntKind.wrap .i64 ((IntKind.wrap .i64 ((List.length t1.1 : Int) - 1)) - v11))) : Option (Int))).bind fun o34 =>
    some (.inl ((IntKind.wrap .i64 ((IntKind.wrap .i64 (v10 + (IntKind.wrap .i64 (Int.tdiv o34 10)))) + (Int.tmod o34 10))), (IntKind.wrap .i64 (v11 + 1))))
    else none
  else
    some (.inr v10)
noncomputable def lombardref05_right.r0 (t1 : (List Int) × Bool) (s : Int × Int) : Option ((Int × Int) ⊕ Int) := lombardref05_right.b0 t1 s.1 s.2
noncomputable def lombardref05_right.f (x0 : Bs) : Option (Bool) :=
  (lombardref05_digits.f x0).bind fun t1 =>
  (loop (lombardref05_right.r0 t1) (0, 0)).bind fun o27 =>
  some (t1.2 && ((Int.tmod o27 10) == 0))
set_option maxRecDepth 100000 in
set_option maxHeartbeats 4000000 in
theorem lombardref05_right.ok {x0 : Bs} {r : Bool} (h : lombardref05_right.f x0 = some r) : Pm.Spec prog 85 [.imm (.val (.string (tx x0)))] (.imm (.val (.bool r))) [none] := by
 unfold lombardref05_right.f at h
 refine Pm.Spec.of_body Try.func85 rfl (by kernel_rfl) (Nat.le_of_ble_eq_true rfl) (Nat.le_of_ble_eq_true rfl) ?_
 refine W.ghost (σ' := (mkSt [(0, some (.s x0))] [] 1000)) (Gives.entry (.c rfl .n) .n) ?_
 refine W.seq ?_
 refine W.pk ?_
 refine .a rfl rfl rfl rfl ?_
 refine .nil ?_
 refine W.seq ?_
 obtain ⟨t1, b2, h⟩ := bnd1 h
 refine W.pk ?_
 refine .m rfl rfl rfl rfl ?_
 refine .call (.tup [.own 1000, .b t1.2]) [(1000, some (.rows 3 1 (List.map (encI .i64) t1.1) false))] 1 (lombardref05_digits.ok b2) rfl rfl rfl ca90 rfl rfl (cC (.imm _) .nil) rfl rfl rfl rfl rfl ?_
 refine .m rfl rfl rfl rfl ?_
 refine .v rfl rfl (OpL.extract rfl rfl rfl) ?_
 refine .v rfl rfl (OpL.extract rfl rfl rfl) ?_
 refine .a rfl rfl rfl rfl ?_
 refine .a rfl rfl rfl rfl ?_
 refine .nil ?_
 refine W.seq ?_
 refine W.pk ?_
 refine .a rfl rfl rfl rfl ?_
 refine .nil ?_
 refine W.seq ?_
 refine W.seq ?_
 refine W.pk ?_
 refine .a rfl rfl rfl rfl ?_
 refine .nil ?_
 obtain ⟨o27, b28, h⟩ := bnd1 h
 refine W.fork (mkSt [(4, some (.b t1.2)), (5, some (.i o27))] [] 1001) ?_ ?_
 ·refine W.seq ?_
  refine W.fork (mkSt [(2, some (.b (t1.2 && ((Int.tmod o27 10) == 0))))] [] 1001) ?_ ?_
  ·refine W.ret ?_
   cases h
   exact leaves (.inr rfl) rfl (.imm _) (cN .nil) rfl rfl
  ·clear h
   rcases tf t1.2 with g37 | g37
   ·refine W.pk ?_
    refine .m rfl rfl rfl rfl ?_
    refine .m rfl rfl rfl rfl ?_
    refine .m rfl (met rfl rfl rfl g37) rfl rfl ?_
    refine .v rfl (met rfl rfl rfl g37) (O.rem rfl rfl rfl (by decide)) ?_
    refine .v rfl (met rfl rfl rfl g37) (OpL.binI rfl rfl rfl rfl) ?_
    refine .v rfl rfl (O.pickT g37 rfl rfl rfl) ?_
    refine .a rfl rfl rfl rfl ?_
    refine .nil ?_
    exact toN (Gives.mkR [] (.c rfl (sbb (by simp only [g37, Bool.true_or, Bool.or_true, Bool.false_or, Bool.or_false, Bool.true_and, Bool.and_true, Bool.false_and, Bool.and_false, Bool.not_true, Bool.not_false, cond_true, cond_false])) rfl .n) .n rfl rfl rfl)
   ·refine W.pk ?_
    refine .m rfl rfl rfl rfl ?_
    refine .m rfl rfl rfl rfl ?_
    refine .x rfl (unmet rfl rfl rfl g37) ?_
    refine .x rfl (unmet rfl rfl rfl g37) ?_
    refine .x rfl (unmet rfl rfl rfl g37) ?_
    refine .v rfl rfl (O.pickF g37 rfl rfl rfl) ?_
    refine .a rfl rfl rfl rfl ?_
    refine .nil ?_
    exact toN (Gives.mkR [] (.c rfl (sbb (by simp only [g37, Bool.true_or, Bool.or_true, Bool.false_or, Bool.or_false, Bool.true_and, Bool.and_true, Bool.false_and, Bool.and_false, Bool.not_true, Bool.not_false, cond_true, cond_false])) rfl .n) .n rfl rfl rfl)
 ·clear h
  refine W.block ?_
  refine W.loopF (fun (s_ : Int × Int) => mkSt [(3, some (.own 1000)), (4, some (.b t1.2)), (5, some (.i s_.1)), (6, some (.i s_.2))] [(1000, some (.rows 3 1 (List.map (encI .i64) t1.1) false))] 1001) b28 (Gives.mkR [] (.r rfl rfl (.r rfl rfl (.r rfl rfl (.r rfl rfl .n)))) (.r rfl rfl rfl .n) rfl rfl rfl) ?_
  rintro ⟨v10, v11⟩ s_ hr
  have h : lombardref05_right.b0 t1 v10 v11 = some s_ := hr
  unfold lombardref05_right.b0 at h
  refine W.seq ?_
  refine W.seq ?_
  refine W.pk ?_
  refine .m rfl rfl rfl rfl ?_
  refine .m rfl rfl rfl rfl ?_
  refine .v rfl rfl (O.lenO sl34 rfl rfl rfl) ?_
  refine .v rfl rfl (OpL.binI rfl rfl rfl rfl) ?_
  refine .nil ?_
  refine W.cond rfl (fun q30 => ?_) (fun q30 => ?_)
  ·have h := ifT q30 h
   refine W.skip ?_
   refine W.seq ?_
   refine W.block ?_
   refine W.seq ?_
   obtain ⟨c31, h⟩ := chk h
   refine W.pk ?_
   refine .m rfl rfl rfl rfl ?_
   refine .m rfl rfl rfl rfl ?_
   refine .v rfl rfl (O.lenO sl34 rfl rfl rfl) ?_
   refine .v rfl rfl (OpL.binI rfl rfl rfl rfl) ?_
   refine .m rfl rfl rfl rfl ?_
   refine .v rfl rfl (OpL.binI rfl rfl rfl rfl) ?_
   refine .v rfl rfl (O.idxO sl34 c31 rfl rfl rfl rfl) ?_
   refine .v rfl rfl (O.ldE (c := (.val (.int .i64 (nth t1.1 (IntKind.wrap .i64 ((IntKind.wrap .i64 ((List.length t1.1 : Int) - 1)) - v11)))))) ty3 c31 rfl rfl rfl rfl rfl) ?_
   refine .a rfl rfl rfl rfl ?_
   refine .nil ?_
   refine W.seq ?_
   refine W.seq ?_
   refine W.pk ?_
   refine .m rfl rfl rfl rfl ?_
   refine .v rfl rfl (O.rem rfl rfl rfl (by decide)) ?_
   refine .v rfl rfl (OpL.binI rfl rfl rfl rfl) ?_
   refine .nil ?_
   obtain ⟨o34, b35, h⟩ := bnd1 h
   refine W.fork (mkSt [(3, some (.own 1000)), (4, some (.b t1.2)), (5, some (.i v10)), (6, some (.i v11)), (7, some (.i o34))] [(1000, some (.rows 3 1 (List.map (encI .i64) t1.1) false))] 1001) ?_ ?_
   ·refine W.pk ?_
    refine .m rfl rfl rfl rfl ?_
    refine .m rfl rfl rfl rfl ?_
    refine .v rfl rfl (O.quo rfl rfl rfl (by decide)) ?_
    refine .v rfl rfl (OpL.binI rfl rfl rfl rfl) ?_
    refine .m rfl rfl rfl rfl ?_
    refine .v rfl rfl (O.rem rfl rfl rfl (by decide)) ?_
    refine .v rfl rfl (OpL.binI rfl rfl rfl rfl) ?_
    refine .a rfl rfl rfl rfl ?_
    refine .nil ?_
    refine W.pk ?_
    refine .m rfl rfl rfl rfl ?_
    refine .v rfl rfl (OpL.binI rfl rfl rfl rfl) ?_
    refine .a rfl rfl rfl rfl ?_
    refine .nil ?_
    cases h
    exact rdN (Gives.mkR [] (.r rfl rfl (.r rfl rfl (.r rfl rfl (.r rfl rfl .n)))) (.r rfl rfl rfl .n) rfl rfl rfl)
   ·clear h
    have h := b35
    refine W.cond rfl (fun q36 => ?_) (fun q36 => ?_)
    ·have h := ifT q36 h
     refine W.pk ?_
     refine .m rfl rfl rfl rfl ?_
     refine .v rfl rfl (OpL.binI rfl rfl rfl rfl) ?_
     refine .a rfl rfl rfl rfl ?_
     refine .nil ?_
     cases h
     exact toN (Gives.mkR [] (.r rfl rfl (.r rfl rfl (.r rfl rfl (.r rfl rfl (.r rfl rfl .n))))) (.r rfl rfl rfl .n) rfl rfl rfl)
    ·have h := ifF q36 h
     refine W.skip ?_
     cases h
     exact toN (Gives.mkR [] (.r rfl rfl (.r rfl rfl (.r rfl rfl (.r rfl rfl (.r rfl rfl .n))))) (.r rfl rfl rfl .n) rfl rfl rfl)
  ·have h := ifF q30 h
   refine W.exit ?_
   cases h
   refine rdX fun e_ => ?_
   subst e_
   repeat with_reducible refine thru ?_
   refine hit ?_
   exact toN (Gives.mkR [] (.r rfl rfl (.r rfl rfl .n)) .n rfl rfl rfl)

noncomputable def lombardref05_Check.f (x0 : Bs) : Option (Int) :=
  if (((List.length x0 : Int) != 12) = false → (0 : Int) ≤ 11 ∧ 11 < (List.length x0 : Int)) then
  if ((((List.length x0 : Int) != 12) || (decide ((byte x0 11) < 48))) = false → (0 : Int) ≤ 11 ∧ 11 < (List.length x0 : Int)) then
  if (((((List.length x0 : Int) != 12) || (decide ((byte x0 11) < 48))) || (decide ((byte x0 11) > 57))) = false → (0 : Int) ≤ 0 ∧ (0 : Int) ≤ 11 ∧ 11 ≤ (List.length x0 : Int)) then
  (if ((((List.length x0 : Int) != 12) || (decide ((byte x0 11) < 48))) || (decide ((byte x0 11) > 57))) = false then lombardref05_shaped.f (List.take (Int.toNat 11 - Int.toNat 0) (List.drop (Int.toNat 0) x0)) else some default).bind fun t4 =>
  if (((((List.length x0 : Int) != 12) || (decide ((byte x0 11) < 48))) || (decide ((byte x0 11) > 57))) || (!t4)) = true then
    some 11
  else
    (lombardref05_right.f x0).bind fun t10 =>
    if (!t10) = true then
      some 12
    else
      some 0
  else none
  else none
  else none
set_option maxRecDepth 100000 in
set_option maxHeartbeats 4000000 in
theorem lombardref05_Check.ok {x0 : Bs} {r : Int} (h : lombardref05_Check.f x0 = some r) : Pm.Spec prog 76 [.imm (.val (.string (tx x0)))] (.imm (.val (.int .i64 r))) [none] := by
 unfold lombardref05_Check.f at h
 refine Pm.Spec.of_body Try.func76 rfl (by kernel_rfl) (Nat.le_of_ble_eq_true rfl) (Nat.le_of_ble_eq_true rfl) ?_
 refine W.ghost (σ' := (mkSt [(0, some (.s x0))] [] 1000)) (Gives.entry (.c rfl .n) .n) ?_
 refine W.seq ?_
 refine W.pk ?_
 refine .a rfl rfl rfl rfl ?_
 refine .nil ?_
 refine W.seq ?_
 refine W.seq ?_
 obtain ⟨c1, h⟩ := chk h
 obtain ⟨c2, h⟩ := chk h
 obtain ⟨c3, h⟩ := chk h
 obtain ⟨t4, b5, h⟩ := bnd1 h
 refine W.fork (mkSt [(0, some (.s x0)), (21, some (.b (((((List.length x0 : Int) != 12) || (decide ((byte x0 11) < 48))) || (decide ((byte x0 11) > 57))) || (!t4))))] [] 1000) ?_ ?_
 ·refine W.cond rfl (fun q9 => ?_) (fun q9 => ?_)
  ·have h := ifT q9 h
   refine W.seq ?_
   refine W.pk ?_
   refine .a rfl rfl rfl rfl ?_
   refine .nil ?_
   refine W.ret ?_
   cases h
   exact leaves (.inr rfl) rfl (.imm _) (cN .nil) rfl rfl
  ·have h := ifF q9 h
   refine W.skip ?_
   refine W.seq ?_
   refine W.seq ?_
   obtain ⟨t10, b11, h⟩ := bnd1 h
   refine W.pk ?_
   refine .m rfl rfl rfl rfl ?_
   refine .call (.b t10) [] 0 (lombardref05_right.ok b11) rfl rfl rfl ca85 rfl rfl (cC (.imm _) .nil) rfl rfl rfl rfl rfl ?_
   refine .v rfl rfl (OpL.unV rfl rfl rfl) ?_
   refine .nil ?_
   refine W.cond rfl (fun q12 => ?_) (fun q12 => ?_)
   ·have h := ifT q12 h
    refine W.seq ?_
    refine W.pk ?_
    refine .a rfl rfl rfl rfl ?_
    refine .nil ?_
    refine W.ret ?_
    cases h
    exact leaves (.inr rfl) rfl (.imm _) (cN .nil) rfl rfl
   ·have h := ifF q12 h
    refine W.skip ?_
    refine W.seq ?_
    refine W.pk ?_
    refine .a rfl rfl rfl rfl ?_
    refine .nil ?_
    refine W.ret ?_
    cases h
    exact leaves (.inr rfl) rfl (.imm _) (cN .nil) rfl rfl
 ·clear h
  rcases tf ((List.length x0 : Int) != 12) with g6 | g6
  ·refine W.pk ?_
   refine .m rfl rfl rfl rfl ?_
   refine .v rfl rfl (O.lenS u9 rfl rfl) ?_
   refine .v rfl rfl (OpL.binI rfl rfl rfl rfl) ?_
   refine .m rfl rfl rfl rfl ?_
   refine .x rfl (unmet rfl rfl rfl g6) ?_
   refine .x rfl (unmet rfl rfl rfl g6) ?_
   refine .x rfl (unmet rfl rfl rfl g6) ?_
   refine .v rfl rfl (O.pickT g6 rfl rfl rfl) ?_
   refine .m rfl rfl rfl rfl ?_
   refine .x rfl (unmet rfl rfl rfl rfl) ?_
   refine .x rfl (unmet rfl rfl rfl rfl) ?_
   refine .x rfl (unmet rfl rfl rfl rfl) ?_
   refine .v rfl rfl (O.pickT rfl rfl rfl rfl) ?_
   refine .m rfl rfl rfl rfl ?_
   refine .x rfl (unmet rfl rfl rfl rfl) ?_
   refine .x rfl (unmet rfl rfl rfl rfl) ?_
   refine .x rfl (unmet rfl rfl rfl rfl) ?_
   refine .x rfl (unmet rfl rfl rfl rfl) ?_
   refine .v rfl rfl (O.pickT rfl rfl rfl rfl) ?_
   refine .nil ?_
   exact toN (Gives.mkR [] (.r rfl rfl (.c rfl (sbb (by simp only [g6, Bool.true_or, Bool.or_true, Bool.false_or, Bool.or_false, Bool.true_and, Bool.and_true, Bool.false_and, Bool.and_false, Bool.not_true, Bool.not_false, cond_true, cond_false])) rfl .n)) .n rfl rfl rfl)
  ·rcases tf (decide ((byte x0 11) < 48)) with g7 | g7
   ·refine W.pk ?_
    refine .m rfl rfl rfl rfl ?_
    refine .v rfl rfl (O.lenS u9 rfl rfl) ?_
    refine .v rfl rfl (OpL.binI rfl rfl rfl rfl) ?_
    refine .m rfl rfl rfl rfl ?_
    refine .m rfl (met rfl rfl rfl g6) rfl rfl ?_
    refine .v rfl (met rfl rfl rfl g6) (O.idxS u9 (c1 (by first | (simp only [g6, g7, Bool.true_or, Bool.or_true, Bool.false_or, Bool.or_false, Bool.true_and, Bool.and_true, Bool.false_and, Bool.and_false, Bool.not_true, Bool.not_false, cond_true, cond_false]; done) | (repeat (first | rw [g6] | rw [g7])) <;> simp only [Bool.true_or, Bool.or_true, Bool.false_or, Bool.or_false, Bool.true_and, Bool.and_true, Bool.false_and, Bool.and_false, Bool.not_true, Bool.not_false, cond_true, cond_false])) rfl rfl rfl) ?_
    refine .v rfl (met rfl rfl rfl g6) (OpL.binI rfl rfl rfl rfl) ?_
    refine .v rfl rfl (O.pickF g6 rfl rfl rfl) ?_
    refine .m rfl rfl rfl rfl ?_
    refine .x rfl (unmet rfl rfl rfl g7) ?_
    refine .x rfl (unmet rfl rfl rfl g7) ?_
    refine .x rfl (unmet rfl rfl rfl g7) ?_
    refine .v rfl rfl (O.pickT g7 rfl rfl rfl) ?_
    refine .m rfl rfl rfl rfl ?_
    refine .x rfl (unmet rfl rfl rfl rfl) ?_
    refine .x rfl (unmet rfl rfl rfl rfl) ?_
    refine .x rfl (unmet rfl rfl rfl rfl) ?_
    refine .x rfl (unmet rfl rfl rfl rfl) ?_
    refine .v rfl rfl (O.pickT rfl rfl rfl rfl) ?_
    refine .nil ?_
    exact toN (Gives.mkR [] (.r rfl rfl (.c rfl (sbb (by first | (simp only [g6, g7, Bool.true_or, Bool.or_true, Bool.false_or, Bool.or_false, Bool.true_and, Bool.and_true, Bool.false_and, Bool.and_false, Bool.not_true, Bool.not_false, cond_true, cond_false]; done) | (repeat (first | rw [g6] | rw [g7])) <;> simp only [Bool.true_or, Bool.or_true, Bool.false_or, Bool.or_false, Bool.true_and, Bool.and_true, Bool.false_and, Bool.and_false, Bool.not_true, Bool.not_false, cond_true, cond_false])) rfl .n)) .n rfl rfl rfl)
   ·rcases tf (decide ((byte x0 11) > 57)) with g8 | g8
    ·refine W.pk ?_
     refine .m rfl rfl rfl rfl ?_
     refine .v rfl rfl (O.lenS u9 rfl rfl) ?_
     refine .v rfl rfl (OpL.binI rfl rfl rfl rfl) ?_
     refine .m rfl rfl rfl rfl ?_
     refine .m rfl (met rfl rfl rfl g6) rfl rfl ?_
     refine .v rfl (met rfl rfl rfl g6) (O.idxS u9 (c1 (by first | (simp only [g6, g7, g8, Bool.true_or, Bool.or_true, Bool.false_or, Bool.or_false, Bool.true_and, Bool.and_true, Bool.false_and, Bool.and_false, Bool.not_true, Bool.not_false, cond_true, cond_false]; done) | (repeat (first | rw [g6] | rw [g7] | rw [g8])) <;> simp only [Bool.true_or, Bool.or_true, Bool.false_or, Bool.or_false, Bool.true_and, Bool.and_true, Bool.false_and, Bool.and_false, Bool.not_true, Bool.not_false, cond_true, cond_false])) rfl rfl rfl) ?_
     refine .v rfl (met rfl rfl rfl g6) (OpL.binI rfl rfl rfl rfl) ?_
     refine .v rfl rfl (O.pickF g6 rfl rfl rfl) ?_
     refine .m rfl rfl rfl rfl ?_
     refine .m rfl (met rfl rfl rfl g7) rfl rfl ?_
     refine .v rfl (met rfl rfl rfl g7) (O.idxS u9 (c2 (by first | (simp only [g6, g7, g8, Bool.true_or, Bool.or_true, Bool.false_or, Bool.or_false, Bool.true_and, Bool.and_true, Bool.false_and, Bool.and_false, Bool.not_true, Bool.not_false, cond_true, cond_false]; done) | (repeat (first | rw [g6] | rw [g7] | rw [g8])) <;> simp only [Bool.true_or, Bool.or_true, Bool.false_or, Bool.or_false, Bool.true_and, Bool.and_true, Bool.false_and, Bool.and_false, Bool.not_true, Bool.not_false, cond_true, cond_false])) rfl rfl rfl) ?_
     refine .v rfl (met rfl rfl rfl g7) (OpL.binI rfl rfl rfl rfl) ?_
     refine .v rfl rfl (O.pickF g7 rfl rfl rfl) ?_
     refine .m rfl rfl rfl rfl ?_
     refine .x rfl (unmet rfl rfl rfl g8) ?_
     refine .x rfl (unmet rfl rfl rfl g8) ?_
     refine .x rfl (unmet rfl rfl rfl g8) ?_
     refine .x rfl (unmet rfl rfl rfl g8) ?_
     refine .v rfl rfl (O.pickT g8 rfl rfl rfl) ?_
     refine .nil ?_
     exact toN (Gives.mkR [] (.r rfl rfl (.c rfl (sbb (by first | (simp only [g6, g7, g8, Bool.true_or, Bool.or_true, Bool.false_or, Bool.or_false, Bool.true_and, Bool.and_true, Bool.false_and, Bool.and_false, Bool.not_true, Bool.not_false, cond_true, cond_false]; done) | (repeat (first | rw [g6] | rw [g7] | rw [g8])) <;> simp only [Bool.true_or, Bool.or_true, Bool.false_or, Bool.or_false, Bool.true_and, Bool.and_true, Bool.false_and, Bool.and_false, Bool.not_true, Bool.not_false, cond_true, cond_false])) rfl .n)) .n rfl rfl rfl)
    ·refine W.pk ?_
     refine .m rfl rfl rfl rfl ?_
     refine .v rfl rfl (O.lenS u9 rfl rfl) ?_
     refine .v rfl rfl (OpL.binI rfl rfl rfl rfl) ?_
     refine .m rfl rfl rfl rfl ?_
     refine .m rfl (met rfl rfl rfl g6) rfl rfl ?_
     refine .v rfl (met rfl rfl rfl g6) (O.idxS u9 (c1 (by first | (simp only [g6, g7, g8, Bool.true_or, Bool.or_true, Bool.false_or, Bool.or_false, Bool.true_and, Bool.and_true, Bool.false_and, Bool.and_false, Bool.not_true, Bool.not_false, cond_true, cond_false]; done) | (repeat (first | rw [g6] | rw [g7] | rw [g8])) <;> simp only [Bool.true_or, Bool.or_true, Bool.false_or, Bool.or_false, Bool.true_and, Bool.and_true, Bool.false_and, Bool.and_false, Bool.not_true, Bool.not_false, cond_true, cond_false])) rfl rfl rfl) ?_
     refine .v rfl (met rfl rfl rfl g6) (OpL.binI rfl rfl rfl rfl) ?_
     refine .v rfl rfl (O.pickF g6 rfl rfl rfl) ?_
     refine .m rfl rfl rfl rfl ?_
     refine .m rfl (met rfl rfl rfl g7) rfl rfl ?_
     refine .v rfl (met rfl rfl rfl g7) (O.idxS u9 (c2 (by first | (simp only [g6, g7, g8, Bool.true_or, Bool.or_true, Bool.false_or, Bool.or_false, Bool.true_and, Bool.and_true, Bool.false_and, Bool.and_false, Bool.not_true, Bool.not_false, cond_true, cond_false]; done) | (repeat (first | rw [g6] | rw [g7] | rw [g8])) <;> simp only [Bool.true_or, Bool.or_true, Bool.false_or, Bool.or_false, Bool.true_and, Bool.and_true, Bool.false_and, Bool.and_false, Bool.not_true, Bool.not_false, cond_true, cond_false])) rfl rfl rfl) ?_
     refine .v rfl (met rfl rfl rfl g7) (OpL.binI rfl rfl rfl rfl) ?_
     refine .v rfl rfl (O.pickF g7 rfl rfl rfl) ?_
     refine .m rfl rfl rfl rfl ?_
     refine .m rfl (met rfl rfl rfl g8) rfl rfl ?_
     refine .v rfl (met rfl rfl rfl g8) (O.partS u9 (c3 (by first | (simp only [g6, g7, g8, Bool.true_or, Bool.or_true, Bool.false_or, Bool.or_false, Bool.true_and, Bool.and_true, Bool.false_and, Bool.and_false, Bool.not_true, Bool.not_false, cond_true, cond_false]; done) | (repeat (first | rw [g6] | rw [g7] | rw [g8])) <;> simp only [Bool.true_or, Bool.or_true, Bool.false_or, Bool.or_false, Bool.true_and, Bool.and_true, Bool.false_and, Bool.and_false, Bool.not_true, Bool.not_false, cond_true, cond_false])) rfl rfl rfl rfl) ?_
     refine .call (.b t4) [] 0 (lombardref05_shaped.ok ((if_pos (by first | (simp only [g6, g7, g8, Bool.true_or, Bool.or_true, Bool.false_or, Bool.or_false, Bool.true_and, Bool.and_true, Bool.false_and, Bool.and_false, Bool.not_true, Bool.not_false, cond_true, cond_false]; done) | (repeat (first | rw [g6] | rw [g7] | rw [g8])) <;> simp only [Bool.true_or, Bool.or_true, Bool.false_or, Bool.or_false, Bool.true_and, Bool.and_true, Bool.false_and, Bool.and_false, Bool.not_true, Bool.not_false, cond_true, cond_false])).symm.trans b5)) rfl (met rfl rfl rfl g8) rfl ca84 rfl rfl (cC (.imm _) .nil) rfl rfl rfl rfl rfl ?_
     refine .v rfl (met rfl rfl rfl g8) (OpL.unV rfl rfl rfl) ?_
     refine .v rfl rfl (O.pickF g8 rfl rfl rfl) ?_
     refine .nil ?_
     exact toN (Gives.mkR [] (.r rfl rfl (.c rfl (sbb (by first | (simp only [g6, g7, g8, Bool.true_or, Bool.or_true, Bool.false_or, Bool.or_false, Bool.true_and, Bool.and_true, Bool.false_and, Bool.and_false, Bool.not_true, Bool.not_false, cond_true, cond_false]; done) | (repeat (first | rw [g6] | rw [g7] | rw [g8])) <;> simp only [Bool.true_or, Bool.or_true, Bool.false_or, Bool.or_false, Bool.true_and, Bool.and_true, Bool.false_and, Bool.and_false, Bool.not_true, Bool.not_false, cond_true, cond_false])) rfl .n)) .n rfl rfl rfl)
end Go.Proofs.Ytdcpdnfalnelkaa
