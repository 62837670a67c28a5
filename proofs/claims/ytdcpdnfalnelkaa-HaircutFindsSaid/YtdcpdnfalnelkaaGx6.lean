/- Shows what functions of the program come to, each as a plain function: written by a program of the author's for this claim. -/
import Derived.Test.YtdcpdnfalnelkaaGx5
namespace Go.Proofs.Ytdcpdnfalnelkaa
open Go Go.Pm
set_option linter.unusedVariables false
set_option linter.unusedSimpArgs false
noncomputable def lombardref05_Asset.f (x0 : api_Asset) : Option (Int) :=
  (lombardref05_Check.f x0.ISIN).bind fun t1 =>
  if (t1 != 0) = true then
    (lombardref05_Check.f x0.ISIN).bind fun t4 =>
    some t4
  else
    (lombardref05_Currency.f x0.Currency).bind fun t6 =>
    if (!t6) = true then
      some 11
    else
      if ((((decide (x0.Issuer < 0)) || (decide (x0.Issuer > 9999))) || (decide (x0.Rating < 0))) || (decide (x0.Rating > 20))) = true then
        some 1
      else
        if ((decide (x0.Maturity < 0)) || (decide (x0.Maturity > 200000))) = true then
          some 10
        else
          some 0
set_option maxRecDepth 100000 in
set_option maxHeartbeats 4000000 in
theorem lombardref05_Asset.ok {x0 : api_Asset} {r : Int} (h : lombardref05_Asset.f x0 = some r) : Pm.Spec prog 51 [.agg [.imm (.val (.string (tx x0.ISIN))), .imm (.val (.int .i64 x0.Issuer)), .imm (.val (.int .i64 x0.Rating)), .imm (.val (.int .i64 x0.Maturity)), .imm (.val (.string (tx x0.Currency)))]] (.imm (.val (.int .i64 r))) [none] := by
 unfold lombardref05_Asset.f at h
 refine Pm.Spec.of_body Try.func51 rfl (by kernel_rfl) (Nat.le_of_ble_eq_true rfl) (Nat.le_of_ble_eq_true rfl) ?_
 refine W.ghost (σ' := (mkSt [(0, some (.agg (api_Asset.av x0)))] [] 1000)) (Gives.entry (.c rfl .n) .n) ?_
 refine W.seq ?_
 refine W.pk ?_
 refine .t rfl rfl (O.box rfl rfl rfl rfl rfl) ?_
 refine .a rfl rfl rfl rfl ?_
 refine .nil ?_
 refine W.seq ?_
 refine W.seq ?_
 obtain ⟨t1, b2, h⟩ := bnd1 h
 refine W.pk ?_
 refine .v rfl rfl (O.fld fld38_0 rfl rfl rfl) ?_
 refine .v rfl rfl (O.ld (y := .s x0.ISIN) ty9 rfl rfl rfl) ?_
 refine .call (.i t1) [] 0 (lombardref05_Check.ok b2) rfl rfl rfl ca76 rfl rfl (cC (.imm _) .nil) rfl rfl rfl rfl rfl ?_
 refine .v rfl rfl (OpL.binI rfl rfl rfl rfl) ?_
 refine .nil ?_
 refine W.cond rfl (fun q3 => ?_) (fun q3 => ?_)
 ·have h := ifT q3 h
  refine W.seq ?_
  obtain ⟨t4, b5, h⟩ := bnd1 h
  refine W.pk ?_
  refine .v rfl rfl (O.fld fld38_0 rfl rfl rfl) ?_
  refine .v rfl rfl (O.ld (y := .s x0.ISIN) ty9 rfl rfl rfl) ?_
  refine .call (.i t4) [] 0 (lombardref05_Check.ok b5) rfl rfl rfl ca76 rfl rfl (cC (.imm _) .nil) rfl rfl rfl rfl rfl ?_
  refine .a rfl rfl rfl rfl ?_
  refine .nil ?_
  refine W.ret ?_
  cases h
  exact leaves (.inr rfl) rfl (.imm _) (cN .nil) rfl rfl
 ·have h := ifF q3 h
  refine W.skip ?_
  refine W.seq ?_
  refine W.seq ?_
  obtain ⟨t6, b7, h⟩ := bnd1 h
  refine W.pk ?_
  refine .v rfl rfl (O.fld fld38_4 rfl rfl rfl) ?_
  refine .v rfl rfl (O.ld (y := .s x0.Currency) ty9 rfl rfl rfl) ?_
  refine .call (.b t6) [] 0 (lombardref05_Currency.ok b7) rfl rfl rfl ca41 rfl rfl (cC (.imm _) .nil) rfl rfl rfl rfl rfl ?_
  refine .v rfl rfl (OpL.unV rfl rfl rfl) ?_
  refine .nil ?_
  refine W.cond rfl (fun q8 => ?_) (fun q8 => ?_)
  ·have h := ifT q8 h
   refine W.seq ?_
   refine W.pk ?_
   refine .a rfl rfl rfl rfl ?_
   refine .nil ?_
   refine W.ret ?_
   cases h
   exact leaves (.inr rfl) rfl (.imm _) (cN .nil) rfl rfl
  ·have h := ifF q8 h
   refine W.skip ?_
   refine W.seq ?_
   refine W.seq ?_
   refine W.fork (mkSt [(1, some (.ptr 1000 0)), (31, some (.b ((((decide (x0.Issuer < 0)) || (decide (x0.Issuer > 9999))) || (decide (x0.Rating < 0))) || (decide (x0.Rating > 20)))))] [(1000, some (.box [.s x0.ISIN, .i x0.Issuer, .i x0.Rating, .i x0.Maturity, .s x0.Currency]))] 1001) ?_ ?_
   ·refine W.cond rfl (fun q12 => ?_) (fun q12 => ?_)
    ·have h := ifT q12 h
     refine W.seq ?_
     refine W.pk ?_
     refine .a rfl rfl rfl rfl ?_
     refine .nil ?_
     refine W.ret ?_
     cases h
     exact leaves (.inr rfl) rfl (.imm _) (cN .nil) rfl rfl
    ·have h := ifF q12 h
     refine W.skip ?_
     refine W.seq ?_
     refine W.seq ?_
     refine W.fork (mkSt [(39, some (.b ((decide (x0.Maturity < 0)) || (decide (x0.Maturity > 200000)))))] [] 1001) ?_ ?_
     ·refine W.cond rfl (fun q14 => ?_) (fun q14 => ?_)
      ·have h := ifT q14 h
       refine W.seq ?_
       refine W.pk ?_
       refine .a rfl rfl rfl rfl ?_
       refine .nil ?_
       refine W.ret ?_
       cases h
       exact leaves (.inr rfl) rfl (.imm _) (cN .nil) rfl rfl
      ·have h := ifF q14 h
       refine W.skip ?_
       refine W.seq ?_
       refine W.pk ?_
       refine .a rfl rfl rfl rfl ?_
       refine .nil ?_
       refine W.ret ?_
       cases h
       exact leaves (.inr rfl) rfl (.imm _) (cN .nil) rfl rfl
     ·clear h
      rcases tf (decide (x0.Maturity < 0)) with g13 | g13
      ·refine W.pk ?_
       refine .v rfl rfl (O.fld fld38_3 rfl rfl rfl) ?_
       refine .v rfl rfl (O.ld (y := .i x0.Maturity) ty3 rfl rfl rfl) ?_
       refine .v rfl rfl (OpL.binI rfl rfl rfl rfl) ?_
       refine .m rfl rfl rfl rfl ?_
       refine .x rfl (unmet rfl rfl rfl g13) ?_
       refine .x rfl (unmet rfl rfl rfl g13) ?_
       refine .x rfl (unmet rfl rfl rfl g13) ?_
       refine .v rfl rfl (O.pickT g13 rfl rfl rfl) ?_
       refine .nil ?_
       exact toN (Gives.mkR [] (.c rfl (sbb (by simp only [g13, Bool.true_or, Bool.or_true, Bool.false_or, Bool.or_false, Bool.true_and, Bool.and_true, Bool.false_and, Bool.and_false, Bool.not_true, Bool.not_false, cond_true, cond_false])) rfl .n) .n rfl rfl rfl)
      ·refine W.pk ?_
       refine .v rfl rfl (O.fld fld38_3 rfl rfl rfl) ?_
       refine .v rfl rfl (O.ld (y := .i x0.Maturity) ty3 rfl rfl rfl) ?_
       refine .v rfl rfl (OpL.binI rfl rfl rfl rfl) ?_
       refine .m rfl rfl rfl rfl ?_
       refine .v rfl (met rfl rfl rfl g13) (O.fld fld38_3 rfl rfl rfl) ?_
       refine .v rfl (met rfl rfl rfl g13) (O.ld (y := .i x0.Maturity) ty3 rfl rfl rfl) ?_
       refine .v rfl (met rfl rfl rfl g13) (OpL.binI rfl rfl rfl rfl) ?_
       refine .v rfl rfl (O.pickF g13 rfl rfl rfl) ?_
       refine .nil ?_
       exact toN (Gives.mkR [] (.c rfl (sbb (by simp only [g13, Bool.true_or, Bool.or_true, Bool.false_or, Bool.or_false, Bool.true_and, Bool.and_true, Bool.false_and, Bool.and_false, Bool.not_true, Bool.not_false, cond_true, cond_false])) rfl .n) .n rfl rfl rfl)
   ·clear h
    rcases tf (decide (x0.Issuer < 0)) with g9 | g9
    ·refine W.pk ?_
     refine .v rfl rfl (O.fld fld38_1 rfl rfl rfl) ?_
     refine .v rfl rfl (O.ld (y := .i x0.Issuer) ty3 rfl rfl rfl) ?_
     refine .v rfl rfl (OpL.binI rfl rfl rfl rfl) ?_
     refine .m rfl rfl rfl rfl ?_
     refine .x rfl (unmet rfl rfl rfl g9) ?_
     refine .x rfl (unmet rfl rfl rfl g9) ?_
     refine .x rfl (unmet rfl rfl rfl g9) ?_
     refine .v rfl rfl (O.pickT g9 rfl rfl rfl) ?_
     refine .m rfl rfl rfl rfl ?_
     refine .x rfl (unmet rfl rfl rfl rfl) ?_
     refine .x rfl (unmet rfl rfl rfl rfl) ?_
     refine .x rfl (unmet rfl rfl rfl rfl) ?_
     refine .v rfl rfl (O.pickT rfl rfl rfl rfl) ?_
     refine .m rfl rfl rfl rfl ?_
     refine .x rfl (unmet rfl rfl rfl rfl) ?_
     refine .x rfl (unmet rfl rfl rfl rfl) ?_
     refine .x rfl (unmet rfl rfl rfl rfl) ?_
     refine .v rfl rfl (O.pickT rfl rfl rfl rfl) ?_
     refine .nil ?_
     exact toN (Gives.mkR [] (.r rfl rfl (.c rfl (sbb (by simp only [g9, Bool.true_or, Bool.or_true, Bool.false_or, Bool.or_false, Bool.true_and, Bool.and_true, Bool.false_and, Bool.and_false, Bool.not_true, Bool.not_false, cond_true, cond_false])) rfl .n)) (.r rfl rfl rfl .n) rfl rfl rfl)
    ·rcases tf (decide (x0.Issuer > 9999)) with g10 | g10
     ·refine W.pk ?_
      refine .v rfl rfl (O.fld fld38_1 rfl rfl rfl) ?_
      refine .v rfl rfl (O.ld (y := .i x0.Issuer) ty3 rfl rfl rfl) ?_
      refine .v rfl rfl (OpL.binI rfl rfl rfl rfl) ?_
      refine .m rfl rfl rfl rfl ?_
      refine .v rfl (met rfl rfl rfl g9) (O.fld fld38_1 rfl rfl rfl) ?_
      refine .v rfl (met rfl rfl rfl g9) (O.ld (y := .i x0.Issuer) ty3 rfl rfl rfl) ?_
      refine .v rfl (met rfl rfl rfl g9) (OpL.binI rfl rfl rfl rfl) ?_
      refine .v rfl rfl (O.pickF g9 rfl rfl rfl) ?_
      refine .m rfl rfl rfl rfl ?_
      refine .x rfl (unmet rfl rfl rfl g10) ?_
      refine .x rfl (unmet rfl rfl rfl g10) ?_
      refine .x rfl (unmet rfl rfl rfl g10) ?_
      refine .v rfl rfl (O.pickT g10 rfl rfl rfl) ?_
      refine .m rfl rfl rfl rfl ?_
      refine .x rfl (unmet rfl rfl rfl rfl) ?_
      refine .x rfl (unmet rfl rfl rfl rfl) ?_
      refine .x rfl (unmet rfl rfl rfl rfl) ?_
      refine .v rfl rfl (O.pickT rfl rfl rfl rfl) ?_
      refine .nil ?_
      exact toN (Gives.mkR [] (.r rfl rfl (.c rfl (sbb (by first | (simp only [g9, g10, Bool.true_or, Bool.or_true, Bool.false_or, Bool.or_false, Bool.true_and, Bool.and_true, Bool.false_and, Bool.and_false, Bool.not_true, Bool.not_false, cond_true, cond_false]; done) | (repeat (first | rw [g9] | rw [g10])) <;> simp only [Bool.true_or, Bool.or_true, Bool.false_or, Bool.or_false, Bool.true_and, Bool.and_true, Bool.false_and, Bool.and_false, Bool.not_true, Bool.not_false, cond_true, cond_false])) rfl .n)) (.r rfl rfl rfl .n) rfl rfl rfl)
     ·rcases tf (decide (x0.Rating < 0)) with g11 | g11
      ·refine W.pk ?_
       refine .v rfl rfl (O.fld fld38_1 rfl rfl rfl) ?_
       refine .v rfl rfl (O.ld (y := .i x0.Issuer) ty3 rfl rfl rfl) ?_
       refine .v rfl rfl (OpL.binI rfl rfl rfl rfl) ?_
       refine .m rfl rfl rfl rfl ?_
       refine .v rfl (met rfl rfl rfl g9) (O.fld fld38_1 rfl rfl rfl) ?_
       refine .v rfl (met rfl rfl rfl g9) (O.ld (y := .i x0.Issuer) ty3 rfl rfl rfl) ?_
       refine .v rfl (met rfl rfl rfl g9) (OpL.binI rfl rfl rfl rfl) ?_
       refine .v rfl rfl (O.pickF g9 rfl rfl rfl) ?_
       refine .m rfl rfl rfl rfl ?_
       refine .v rfl (met rfl rfl rfl g10) (O.fld fld38_2 rfl rfl rfl) ?_
       refine .v rfl (met rfl rfl rfl g10) (O.ld (y := .i x0.Rating) ty3 rfl rfl rfl) ?_
       refine .v rfl (met rfl rfl rfl g10) (OpL.binI rfl rfl rfl rfl) ?_
       refine .v rfl rfl (O.pickF g10 rfl rfl rfl) ?_
       refine .m rfl rfl rfl rfl ?_
       refine .x rfl (unmet rfl rfl rfl g11) ?_
       refine .x rfl (unmet rfl rfl rfl g11) ?_
       refine .x rfl (unmet rfl rfl rfl g11) ?_
       refine .v rfl rfl (O.pickT g11 rfl rfl rfl) ?_
       refine .nil ?_
       exact toN (Gives.mkR [] (.r rfl rfl (.c rfl (sbb (by first | (simp only [g9, g10, g11, Bool.true_or, Bool.or_true, Bool.false_or, Bool.or_false, Bool.true_and, Bool.and_true, Bool.false_and, Bool.and_false, Bool.not_true, Bool.not_false, cond_true, cond_false]; done) | (repeat (first | rw [g9] | rw [g10] | rw [g11])) <;> simp only [Bool.true_or, Bool.or_true, Bool.false_or, Bool.or_false, Bool.true_and, Bool.and_true, Bool.false_and, Bool.and_false, Bool.not_true, Bool.not_false, cond_true, cond_false])) rfl .n)) (.r rfl rfl rfl .n) rfl rfl rfl)
      ·refine W.pk ?_
       refine .v rfl rfl (O.fld fld38_1 rfl rfl rfl) ?_
       refine .v rfl rfl (O.ld (y := .i x0.Issuer) ty3 rfl rfl rfl) ?_
       refine .v rfl rfl (OpL.binI rfl rfl rfl rfl) ?_
       refine .m rfl rfl rfl rfl ?_
       refine .v rfl (met rfl rfl rfl g9) (O.fld fld38_1 rfl rfl rfl) ?_
       refine .v rfl (met rfl rfl rfl g9) (O.ld (y := .i x0.Issuer) ty3 rfl rfl rfl) ?_
       refine .v rfl (met rfl rfl rfl g9) (OpL.binI rfl rfl rfl rfl) ?_
       refine .v rfl rfl (O.pickF g9 rfl rfl rfl) ?_
       refine .m rfl rfl rfl rfl ?_
       refine .v rfl (met rfl rfl rfl g10) (O.fld fld38_2 rfl rfl rfl) ?_
       refine .v rfl (met rfl rfl rfl g10) (O.ld (y := .i x0.Rating) ty3 rfl rfl rfl) ?_
       refine .v rfl (met rfl rfl rfl g10) (OpL.binI rfl rfl rfl rfl) ?_
       refine .v rfl rfl (O.pickF g10 rfl rfl rfl) ?_
       refine .m rfl rfl rfl rfl ?_
       refine .v rfl (met rfl rfl rfl g11) (O.fld fld38_2 rfl rfl rfl) ?_
       refine .v rfl (met rfl rfl rfl g11) (O.ld (y := .i x0.Rating) ty3 rfl rfl rfl) ?_
       refine .v rfl (met rfl rfl rfl g11) (OpL.binI rfl rfl rfl rfl) ?_
       refine .v rfl rfl (O.pickF g11 rfl rfl rfl) ?_
       refine .nil ?_
       exact toN (Gives.mkR [] (.r rfl rfl (.c rfl (sbb (by first | (simp only [g9, g10, g11, Bool.true_or, Bool.or_true, Bool.false_or, Bool.or_false, Bool.true_and, Bool.and_true, Bool.false_and, Bool.and_false, Bool.not_true, Bool.not_false, cond_true, cond_false]; done) | (repeat (first | rw [g9] | rw [g10] | rw [g11])) <;> simp only [Bool.true_or, Bool.or_true, Bool.false_or, Bool.or_false, Bool.true_and, Bool.and_true, Bool.false_and, Bool.and_false, Bool.not_true, Bool.not_false, cond_true, cond_false])) rfl .n)) (.r rfl rfl rfl .n) rfl rfl rfl)

noncomputable def lombardref13_Find.b0 (x0 : List lombardref13_Known) (x1 : Bs) (v4 : Int) : Option (Int ⊕ (Int ⊕ Unit)) :=
  if (decide (v4 < (List.length x0 : Int))) = true then
    if (0 : Int) ≤ v4 ∧ v4 < (List.length x0 : Int) then
    if ((((nth x0 v4).A).ISIN) == x1) = true then
      some (.inr (.inl v4))
    else
      some (.inl (IntKind.wrap .i64 (v4 + 1)))
    else none
  else
    some (.inr (.inr ()))
noncomputable def lombardref13_Find.r0 (x0 : List lombardref13_Known) (x1 : Bs) (s : Int) : Option (Int ⊕ (Int ⊕ Unit)) := lombardref13_Find.b0 x0 x1 s
noncomputable def lombardref13_Find.f (x0 : List lombardref13_Known) (x1 : Bs) : Option (Int) :=
  (loop (lombardref13_Find.r0 x0 x1) 0).bind fun o12 =>
  match o12 with
  | .inl r18 => some r18
  | .inr w11 =>
    some (-1)
set_option maxRecDepth 100000 in
set_option maxHeartbeats 4000000 in
theorem lombardref13_Find.ok {x0 : List lombardref13_Known} {x1 : Bs} {r : Int} (h : lombardref13_Find.f x0 x1 = some r) : Pm.Spec prog 52 [.imm (.row 6 (List.map lombardref13_Known.enc x0)), .imm (.val (.string (tx x1)))] (.imm (.val (.int .i64 r))) [none, none] := by
 unfold lombardref13_Find.f at h
 refine Pm.Spec.of_body Try.func52 rfl (by kernel_rfl) (Nat.le_of_ble_eq_true rfl) (Nat.le_of_ble_eq_true rfl) ?_
 refine W.ghost (σ' := (mkSt [(0, some (.imm (.row 6 (List.map lombardref13_Known.enc x0)))), (1, some (.s x1))] [] 1000)) (Gives.entry (.c rfl (.c rfl .n)) .n) ?_
 refine W.seq ?_
 refine W.pk ?_
 refine .a rfl rfl rfl rfl ?_
 refine .nil ?_
 refine W.seq ?_
 refine W.seq ?_
 refine W.pk ?_
 refine .a rfl rfl rfl rfl ?_
 refine .nil ?_
 obtain ⟨o12, b13, z14⟩ := bnd1 h
 refine W.fork2 (out := o12) (fun (w11 : Unit) => mkSt [] [] 1000) ?_ ?_
 ·clear h
  refine W.block ?_
  refine W.loopF (fun (s_ : Int) => mkSt [(0, some (.imm (.row 6 (List.map lombardref13_Known.enc x0)))), (1, some (.s x1)), (5, some (.i s_))] [] 1000) b13 (Gives.mkR [] (.r rfl rfl (.r rfl rfl (.r rfl rfl .n))) .n rfl rfl rfl) ?_
  rintro v4 s_ hr
  have h : lombardref13_Find.b0 x0 x1 v4 = some s_ := hr
  unfold lombardref13_Find.b0 at h
  refine W.seq ?_
  refine W.seq ?_
  refine W.pk ?_
  refine .m rfl rfl rfl rfl ?_
  refine .m rfl rfl rfl rfl ?_
  refine .v rfl rfl (O.lenR sl60 rfl rfl) ?_
  refine .v rfl rfl (OpL.binI rfl rfl rfl rfl) ?_
  refine .nil ?_
  refine W.cond rfl (fun q15 => ?_) (fun q15 => ?_)
  ·have h := ifT q15 h
   refine W.skip ?_
   refine W.seq ?_
   refine W.block ?_
   refine W.seq ?_
   obtain ⟨c16, h⟩ := chk h
   refine W.pk ?_
   refine .m rfl rfl rfl rfl ?_
   refine .m rfl rfl rfl rfl ?_
   refine .v rfl rfl (O.idx sl60 c16 rfl rfl rfl) ?_
   refine .v rfl rfl (O.fld fld90_0 rfl rfl rfl) ?_
   refine .v rfl rfl (O.fld fld38_0 rfl rfl rfl) ?_
   refine .v rfl rfl (O.ld (y := .s (((nth x0 v4).A).ISIN)) ty9 rfl rfl rfl) ?_
   refine .m rfl rfl rfl rfl ?_
   refine .v rfl rfl (O.cmpS rfl rfl rfl rfl) ?_
   refine .nil ?_
   refine W.cond rfl (fun q17 => ?_) (fun q17 => ?_)
   ·have h := ifT q17 h
    refine W.seq ?_
    refine W.pk ?_
    refine .m rfl rfl rfl rfl ?_
    refine .a rfl rfl rfl rfl ?_
    refine .nil ?_
    refine W.ret ?_
    cases h
    refine rdR fun e_ => ?_
    subst e_
    have h := z14
    dsimp only at h
    refine fkR ?_
    cases h
    exact leaves (.inr rfl) rfl (.imm _) (cN (cN .nil)) rfl rfl
   ·have h := ifF q17 h
    refine W.skip ?_
    refine W.pk ?_
    refine .m rfl rfl rfl rfl ?_
    refine .v rfl rfl (OpL.binI rfl rfl rfl rfl) ?_
    refine .a rfl rfl rfl rfl ?_
    refine .nil ?_
    cases h
    exact rdN (Gives.mkR [] (.r rfl rfl (.r rfl rfl (.r rfl rfl .n))) .n rfl rfl rfl)
  ·have h := ifF q15 h
   refine W.exit ?_
   cases h
   refine rdX fun e_ => ?_
   subst e_
   repeat with_reducible refine thru ?_
   refine hit ?_
   exact fkN (Gives.mkR [] .n .n rfl rfl rfl)
 ·intro w11 e_
  subst e_
  clear h
  have h := z14
  dsimp only at h
  refine W.seq ?_
  refine W.pk ?_
  refine .a rfl rfl rfl rfl ?_
  refine .nil ?_
  refine W.ret ?_
  cases h
  exact leaves (.inr rfl) rfl (.imm _) (cN (cN .nil)) rfl rfl

noncomputable def lombardref13_Add.b0 (x0 : List lombardref13_Known) (x1 : api_Asset) (v37 : Bool) (v38 : Int) (v39 : List lombardref13_Known) : Option ((Bool × Int × (List lombardref13_Known)) ⊕ (Bool × (List lombardref13_Known))) :=
  if (decide (v38 < (List.length x0 : Int))) = true then
    if ((!v37) = true → (0 : Int) ≤ v38 ∧ v38 < (List.length x0 : Int)) then
    ((
      if ((!v37) && (!(Go.Op.bytesLess (((nth x0 v38).A).ISIN) x1.ISIN || (((nth x0 v38).A).ISIN) == x1.ISIN))) = true then
        if (List.length v39 + List.length [(⟨x1, 0⟩ : lombardref13_Known)]) * 64 ≤ 140737488355328 then
        some (true, (v39 ++ [(⟨x1, 0⟩ : lombardref13_Known)]))
        else none
      else
        some (v37, v39) : Option (Bool × (List lombardref13_Known)))).bind fun o77 =>
    if (0 : Int) ≤ v38 ∧ v38 < (List.length x0 : Int) then
    if (List.length o77.2 + List.length [(⟨((nth x0 v38).A), (nth x0 v38).Price⟩ : lombardref13_Known)]) * 64 ≤ 140737488355328 then
    some (.inl (o77.1, (IntKind.wrap .i64 (v38 + 1)), (o77.2 ++ [(⟨((nth x0 v38).A), (nth x0 v38).Price⟩ : lombardref13_Known)])))
    else none
    else none
    else none
  else
    some (.inr (v37, v39))
noncomputable def lombardref13_Add.r0 (x0 : List lombardref13_Known) (x1 : api_Asset) (s : Bool × Int × (List lombardref13_Known)) : Option ((Bool × Int × (List lombardref13_Known)) ⊕ (Bool × (List lombardref13_Known))) := lombardref13_Add.b0 x0 x1 s.1 s.2.1 s.2.2
noncomputable def lombardref13_Add.f (x0 : List lombardref13_Known) (x1 : api_Asset) : Option ((List lombardref13_Known) × Int) :=
  (lombardref05_Asset.f x1).bind fun t1 =>
  if (t1 != 0) = true then
    (lombardref05_Asset.f x1).bind fun t4 =>
    some (x0, t4)
  else
    (lombardref13_Find.f x0 x1.ISIN).bind fun t6 =>
    if (decide (t6 ≥ 0)) = true then
      some (x0, 7)
    else
      if (decide ((List.length x0 : Int) ≥ 64)) = true then
        some (x0, 18)
      else
        (loop (lombardref13_Add.r0 x0 x1) (false, 0, [])).bind fun o67 =>
        if (!o67.1) = true then
          if (List.length o67.2 + List.length [(⟨x1, 0⟩ : lombardref13_Known)]) * 64 ≤ 140737488355328 then
          some ((o67.2 ++ [(⟨x1, 0⟩ : lombardref13_Known)]), 0)
          else none
        else
          some (o67.2, 0)
set_option maxRecDepth 100000 in
set_option maxHeartbeats 4000000 in
theorem lombardref13_Add.ok {x0 : List lombardref13_Known} {x1 : api_Asset} {r : (List lombardref13_Known) × Int} (h : lombardref13_Add.f x0 x1 = some r) : Pm.Spec prog 28 [.imm (.row 6 (List.map lombardref13_Known.enc x0)), .agg [.imm (.val (.string (tx x1.ISIN))), .imm (.val (.int .i64 x1.Issuer)), .imm (.val (.int .i64 x1.Rating)), .imm (.val (.int .i64 x1.Maturity)), .imm (.val (.string (tx x1.Currency)))]] (.tup [.imm (.row 6 (List.map lombardref13_Known.enc r.1)), .imm (.val (.int .i64 r.2))]) [none, none] := by
 unfold lombardref13_Add.f at h
 refine Pm.Spec.of_body Try.func28 rfl (by kernel_rfl) (Nat.le_of_ble_eq_true rfl) (Nat.le_of_ble_eq_true rfl) ?_
 refine W.ghost (σ' := (mkSt [(0, some (.imm (.row 6 (List.map lombardref13_Known.enc x0)))), (1, some (.agg (api_Asset.av x1)))] [] 1000)) (Gives.entry (.c rfl (.c rfl .n)) .n) ?_
 refine W.seq ?_
 refine W.pk ?_
 refine .t rfl rfl (O.box rfl rfl rfl rfl rfl) ?_
 refine .a rfl rfl rfl rfl ?_
 refine .a rfl rfl rfl rfl ?_
 refine .nil ?_
 refine W.seq ?_
 refine W.seq ?_
 obtain ⟨t1, b2, h⟩ := bnd1 h
 refine W.pk ?_
 refine .v rfl rfl (O.ldN ty38 rfl rfl rfl) ?_
 refine .call (.i t1) [] 0 (lombardref05_Asset.ok b2) rfl rfl rfl ca51 rfl rfl (cC (.agg _ _ _ _ (cC (.imm _) (cC (.imm _) (cC (.imm _) (cC (.imm _) (cC (.imm _) .nil)))))) .nil) rfl rfl rfl rfl rfl ?_
 refine .v rfl rfl (OpL.binI rfl rfl rfl rfl) ?_
 refine .nil ?_
 refine W.cond rfl (fun q3 => ?_) (fun q3 => ?_)
 ·have h := ifT q3 h
  refine W.seq ?_
  obtain ⟨t4, b5, h⟩ := bnd1 h
  refine W.pk ?_
  refine .m rfl rfl rfl rfl ?_
  refine .v rfl rfl (O.ldN ty38 rfl rfl rfl) ?_
  refine .call (.i t4) [] 0 (lombardref05_Asset.ok b5) rfl rfl rfl ca51 rfl rfl (cC (.agg _ _ _ _ (cC (.imm _) (cC (.imm _) (cC (.imm _) (cC (.imm _) (cC (.imm _) .nil)))))) .nil) rfl rfl rfl rfl rfl ?_
  refine .a rfl rfl rfl rfl ?_
  refine .a rfl rfl rfl rfl ?_
  refine .nil ?_
  refine W.ret ?_
  cases h
  exact leaves (.inr rfl) rfl (.tup _ _ _ _ (cC (.imm _) (cC (.imm _) .nil))) (cN (cN .nil)) rfl rfl
 ·have h := ifF q3 h
  refine W.skip ?_
  refine W.seq ?_
  refine W.seq ?_
  obtain ⟨t6, b7, h⟩ := bnd1 h
  refine W.pk ?_
  refine .m rfl rfl rfl rfl ?_
  refine .v rfl rfl (O.fld fld38_0 rfl rfl rfl) ?_
  refine .v rfl rfl (O.ld (y := .s x1.ISIN) ty9 rfl rfl rfl) ?_
  refine .call (.i t6) [] 0 (lombardref13_Find.ok b7) rfl rfl rfl ca52 rfl rfl (cC (.imm _) (cC (.imm _) .nil)) rfl rfl rfl rfl rfl ?_
  refine .v rfl rfl (OpL.binI rfl rfl rfl rfl) ?_
  refine .nil ?_
  refine W.cond rfl (fun q8 => ?_) (fun q8 => ?_)
  ·have h := ifT q8 h
   refine W.seq ?_
   refine W.pk ?_
   refine .m rfl rfl rfl rfl ?_
   refine .a rfl rfl rfl rfl ?_
   refine .a rfl rfl rfl rfl ?_
   refine .nil ?_
   refine W.ret ?_
   cases h
   exact leaves (.inr rfl) rfl (.tup _ _ _ _ (cC (.imm _) (cC (.imm _) .nil))) (cN (cN .nil)) rfl rfl
  ·have h := ifF q8 h
   refine W.skip ?_
   refine W.seq ?_
   refine W.seq ?_
   refine W.pk ?_
   refine .m rfl rfl rfl rfl ?_
   refine .v rfl rfl (O.lenR sl60 rfl rfl) ?_
   refine .v rfl rfl (OpL.binI rfl rfl rfl rfl) ?_
   refine .nil ?_
   refine W.cond rfl (fun q9 => ?_) (fun q9 => ?_)
   ·have h := ifT q9 h
    refine W.seq ?_
    refine W.pk ?_
    refine .m rfl rfl rfl rfl ?_
    refine .a rfl rfl rfl rfl ?_
    refine .a rfl rfl rfl rfl ?_
    refine .nil ?_
    refine W.ret ?_
    cases h
    exact leaves (.inr rfl) rfl (.tup _ _ _ _ (cC (.imm _) (cC (.imm _) .nil))) (cN (cN .nil)) rfl rfl
   ·have h := ifF q9 h
    refine W.skip ?_
    refine W.seq ?_
    refine W.pk ?_
    refine .a rfl rfl rfl rfl ?_
    refine .nil ?_
    refine W.seq ?_
    refine W.pk ?_
    refine .a rfl rfl rfl rfl ?_
    refine .nil ?_
    refine W.seq ?_
    refine W.seq ?_
    refine W.pk ?_
    refine .a rfl rfl rfl rfl ?_
    refine .nil ?_
    refine W.ghost (Gives.mintS 6 90 6 rfl) ?_
    obtain ⟨o67, b68, h⟩ := bnd1 h
    refine W.fork (mkSt [(3, some (.ptr 1000 0)), (6, some (.own 1001)), (7, some (.b o67.1))] [(1000, some (.box [.s x1.ISIN, .i x1.Issuer, .i x1.Rating, .i x1.Maturity, .s x1.Currency])), (1001, some (.rows 90 6 (List.map lombardref13_Known.enc o67.2) false))] 1002) ?_ ?_
    ·refine W.seq ?_
     refine W.seq ?_
     refine W.pk ?_
     refine .m rfl rfl rfl rfl ?_
     refine .v rfl rfl (OpL.unV rfl rfl rfl) ?_
     refine .nil ?_
     refine W.cond rfl (fun q83 => ?_) (fun q83 => ?_)
     ·have h := ifT q83 h
      obtain ⟨c84, h⟩ := chk h
      refine W.pk ?_
      refine .m rfl rfl rfl rfl ?_
      refine .v rfl rfl (O.ldN ty38 rfl rfl rfl) ?_
      refine .v rfl rfl (O.build (out := [.s x1.ISIN, .i x1.Issuer, .i x1.Rating, .i x1.Maturity, .s x1.Currency, .i 0]) bl90 rfl rfl rfl rfl (by kernel_rfl)) ?_
      refine .t rfl rfl (O.lit (enc := lombardref13_Known.enc) (l := [(⟨x1, 0⟩ : lombardref13_Known)]) sl60 rfl rfl rfl rfl rfl rfl rfl rfl rfl) ?_
      refine .t rfl rfl (O.appO sl60 lombardref13_Known.ok c84 rfl rfl rfl rfl rfl) ?_
      refine .a rfl rfl rfl rfl ?_
      refine .nil ?_
      refine W.seq ?_
      refine W.pk ?_
      refine .m rfl rfl rfl rfl ?_
      refine .a rfl rfl rfl rfl ?_
      refine .a rfl rfl rfl rfl ?_
      refine .nil ?_
      refine W.ret ?_
      cases h
      exact leaves (.inr rfl) rfl (.tup _ _ _ _ (cC (.lend _ _ _ _ _ rfl) (cC (.imm _) .nil))) (cN (cN .nil)) rfl rfl
     ·have h := ifF q83 h
      refine W.skip ?_
      refine W.seq ?_
      refine W.pk ?_
      refine .m rfl rfl rfl rfl ?_
      refine .a rfl rfl rfl rfl ?_
      refine .a rfl rfl rfl rfl ?_
      refine .nil ?_
      refine W.ret ?_
      cases h
      exact leaves (.inr rfl) rfl (.tup _ _ _ _ (cC (.lend _ _ _ _ _ rfl) (cC (.imm _) .nil))) (cN (cN .nil)) rfl rfl
    ·clear h
     refine W.block ?_
     refine W.loopF (fun (s_ : Bool × Int × (List lombardref13_Known)) => mkSt [(0, some (.imm (.row 6 (List.map lombardref13_Known.enc x0)))), (3, some (.ptr 1000 0)), (6, some (.own 1001)), (7, some (.b s_.1)), (8, some (.i s_.2.1))] [(1000, some (.box [.s x1.ISIN, .i x1.Issuer, .i x1.Rating, .i x1.Maturity, .s x1.Currency])), (1001, some (.rows 90 6 (List.map lombardref13_Known.enc s_.2.2) false))] 1002) b68 (Gives.mkR [] (.r rfl rfl (.r rfl rfl (.r rfl rfl (.r rfl rfl (.r rfl rfl .n))))) (.r rfl rfl rfl (.r rfl rfl rfl .n)) rfl rfl rfl) ?_
     rintro ⟨v37, v38, v39⟩ s_ hr
     have h : lombardref13_Add.b0 x0 x1 v37 v38 v39 = some s_ := hr
     unfold lombardref13_Add.b0 at h
     refine W.seq ?_
     refine W.seq ?_
     refine W.pk ?_
     refine .m rfl rfl rfl rfl ?_
     refine .m rfl rfl rfl rfl ?_
     refine .v rfl rfl (O.lenR sl60 rfl rfl) ?_
     refine .v rfl rfl (OpL.binI rfl rfl rfl rfl) ?_
     refine .nil ?_
     refine W.cond rfl (fun q70 => ?_) (fun q70 => ?_)
     ·have h := ifT q70 h
      refine W.skip ?_
      refine W.seq ?_
      refine W.block ?_
      refine W.seq ?_
      refine W.seq ?_
      obtain ⟨c71, h⟩ := chk h
      refine W.fork (mkSt [(0, some (.imm (.row 6 (List.map lombardref13_Known.enc x0)))), (3, some (.ptr 1000 0)), (6, some (.own 1001)), (7, some (.b v37)), (8, some (.i v38)), (43, some (.b ((!v37) && (!(Go.Op.bytesLess (((nth x0 v38).A).ISIN) x1.ISIN || (((nth x0 v38).A).ISIN) == x1.ISIN)))))] [(1000, some (.box [.s x1.ISIN, .i x1.Issuer, .i x1.Rating, .i x1.Maturity, .s x1.Currency])), (1001, some (.rows 90 6 (List.map lombardref13_Known.enc v39) false))] 1002) ?_ ?_
      ·obtain ⟨o77, b78, h⟩ := bnd1 h
       refine W.fork (mkSt [(0, some (.imm (.row 6 (List.map lombardref13_Known.enc x0)))), (3, some (.ptr 1000 0)), (6, some (.own 1004)), (7, some (.b o77.1)), (8, some (.i v38))] [(1000, some (.box [.s x1.ISIN, .i x1.Issuer, .i x1.Rating, .i x1.Maturity, .s x1.Currency])), (1004, some (.rows 90 6 (List.map lombardref13_Known.enc o77.2) false))] 1005) ?_ ?_
       ·obtain ⟨c81, h⟩ := chk h
        obtain ⟨c82, h⟩ := chk h
        refine W.pk ?_
        refine .m rfl rfl rfl rfl ?_
        refine .m rfl rfl rfl rfl ?_
        refine .m rfl rfl rfl rfl ?_
        refine .v rfl rfl (O.idx sl60 c81 rfl rfl rfl) ?_
        refine .v rfl rfl (O.ldN ty90 rfl rfl rfl) ?_
        refine .t rfl rfl (O.lit (enc := lombardref13_Known.enc) (l := [(⟨((nth x0 v38).A), (nth x0 v38).Price⟩ : lombardref13_Known)]) sl60 rfl rfl rfl rfl rfl rfl rfl rfl rfl) ?_
        refine .t rfl rfl (O.appO sl60 lombardref13_Known.ok c82 rfl rfl rfl rfl rfl) ?_
        refine .a rfl rfl rfl rfl ?_
        refine .nil ?_
        refine W.pk ?_
        refine .m rfl rfl rfl rfl ?_
        refine .v rfl rfl (OpL.binI rfl rfl rfl rfl) ?_
        refine .a rfl rfl rfl rfl ?_
        refine .nil ?_
        cases h
        exact rdN (Gives.mkR [(1001, 1006)] (.r rfl rfl (.r rfl rfl (.r rfl rfl (.r rfl rfl (.r rfl rfl .n))))) (.r rfl rfl rfl (.r rfl rfl rfl .n)) rfl rfl rfl)
       ·clear h
        have h := b78
        refine W.cond rfl (fun q79 => ?_) (fun q79 => ?_)
        ·have h := ifT q79 h
         refine W.seq ?_
         obtain ⟨c80, h⟩ := chk h
         refine W.pk ?_
         refine .m rfl rfl rfl rfl ?_
         refine .v rfl rfl (O.ldN ty38 rfl rfl rfl) ?_
         refine .v rfl rfl (O.build (out := [.s x1.ISIN, .i x1.Issuer, .i x1.Rating, .i x1.Maturity, .s x1.Currency, .i 0]) bl90 rfl rfl rfl rfl (by kernel_rfl)) ?_
         refine .t rfl rfl (O.lit (enc := lombardref13_Known.enc) (l := [(⟨x1, 0⟩ : lombardref13_Known)]) sl60 rfl rfl rfl rfl rfl rfl rfl rfl rfl) ?_
         refine .t rfl rfl (O.appO sl60 lombardref13_Known.ok c80 rfl rfl rfl rfl rfl) ?_
         refine .a rfl rfl rfl rfl ?_
         refine .nil ?_
         refine W.pk ?_
         refine .a rfl rfl rfl rfl ?_
         refine .nil ?_
         cases h
         exact toN (Gives.mkR [(1004, 1003)] (.r rfl rfl (.r rfl rfl (.r rfl rfl (.r rfl rfl (.r rfl rfl .n))))) (.r rfl rfl rfl (.r rfl rfl rfl .n)) rfl rfl rfl)
        ·have h := ifF q79 h
         refine W.skip ?_
         cases h
         exact toN (Gives.mkR [(1004, 1001)] (.r rfl rfl (.r rfl rfl (.r rfl rfl (.r rfl rfl (.r rfl rfl .n))))) (.r rfl rfl rfl (.r rfl rfl rfl .n)) rfl rfl rfl)
      ·clear h
       rcases tf v37 with g72 | g72
       ·refine W.dk (unm 13 [0, 1, 3, 7, 7, 31, 63, 127, 255, 7, 519, 2047, 4095]) rfl (by kernel_rfl) ?_
        refine .m rfl rfl rfl rfl ?_
        refine .v rfl rfl (OpL.unV rfl rfl rfl) ?_
        refine .m rfl rfl rfl rfl ?_
        refine .x rfl (unmet rfl rfl rfl (notT g72)) ?_
        refine .x rfl (unmet rfl rfl rfl (notT g72)) ?_
        refine .x rfl (unmet rfl rfl rfl (notT g72)) ?_
        refine .x rfl (unmet rfl rfl rfl (notT g72)) ?_
        refine .x rfl (unmet rfl rfl rfl (notT g72)) ?_
        refine .x rfl (unmet rfl rfl rfl (notT g72)) ?_
        refine .x rfl (unmet rfl rfl rfl (notT g72)) ?_
        refine .x rfl (unmet rfl rfl rfl (notT g72)) ?_
        refine .x rfl (unmet rfl rfl rfl (notT g72)) ?_
        refine .v rfl rfl (O.pickF (notT g72) rfl rfl rfl) ?_
        refine .nil ?_
        refine ⟨by kernel_rfl, by kernel_rfl, ?_⟩
        exact toN (Gives.mkR [] (.r rfl rfl (.r rfl rfl (.r rfl rfl (.r rfl rfl (.r rfl rfl (.c rfl (sbb (by simp only [g72, Bool.true_or, Bool.or_true, Bool.false_or, Bool.or_false, Bool.true_and, Bool.and_true, Bool.false_and, Bool.and_false, Bool.not_true, Bool.not_false, cond_true, cond_false])) rfl .n)))))) (.r rfl rfl rfl (.r rfl rfl rfl .n)) rfl rfl rfl)
       ·refine W.dk (unm 13 [0, 1, 3, 7, 7, 31, 63, 127, 255, 7, 519, 2047, 4095]) rfl (by kernel_rfl) ?_
        refine .m rfl rfl rfl rfl ?_
        refine .v rfl rfl (OpL.unV rfl rfl rfl) ?_
        refine .m rfl rfl rfl rfl ?_
        refine .m rfl (met rfl rfl rfl (notF g72)) rfl rfl ?_
        refine .m rfl (met rfl rfl rfl (notF g72)) rfl rfl ?_
        refine .v rfl (met rfl rfl rfl (notF g72)) (O.idx sl60 (c71 (by simp only [g72, Bool.true_or, Bool.or_true, Bool.false_or, Bool.or_false, Bool.true_and, Bool.and_true, Bool.false_and, Bool.and_false, Bool.not_true, Bool.not_false, cond_true, cond_false])) rfl rfl rfl) ?_
        refine .v rfl (met rfl rfl rfl (notF g72)) (O.fld fld90_0 rfl rfl rfl) ?_
        refine .v rfl (met rfl rfl rfl (notF g72)) (O.fld fld38_0 rfl rfl rfl) ?_
        refine .v rfl (met rfl rfl rfl (notF g72)) (O.ld (y := .s (((nth x0 v38).A).ISIN)) ty9 rfl rfl rfl) ?_
        refine .v rfl (met rfl rfl rfl (notF g72)) (O.fld fld38_0 rfl rfl rfl) ?_
        refine .v rfl (met rfl rfl rfl (notF g72)) (O.ld (y := .s x1.ISIN) ty9 rfl rfl rfl) ?_
        refine .v rfl (met rfl rfl rfl (notF g72)) (O.cmpS rfl rfl rfl rfl) ?_
        refine .v rfl rfl (O.pickT (notF g72) rfl rfl rfl) ?_
        refine .nil ?_
        refine ⟨by kernel_rfl, by kernel_rfl, ?_⟩
        exact toN (Gives.mkR [] (.r rfl rfl (.r rfl rfl (.r rfl rfl (.r rfl rfl (.r rfl rfl (.c rfl (sbb (by simp only [g72, Bool.true_or, Bool.or_true, Bool.false_or, Bool.or_false, Bool.true_and, Bool.and_true, Bool.false_and, Bool.and_false, Bool.not_true, Bool.not_false, cond_true, cond_false])) rfl .n)))))) (.r rfl rfl rfl (.r rfl rfl rfl .n)) rfl rfl rfl)
     ·have h := ifF q70 h
      refine W.exit ?_
      cases h
      refine rdX fun e_ => ?_
      subst e_
      repeat with_reducible refine thru ?_
      refine hit ?_
      exact toN (Gives.mkR [] (.r rfl rfl (.r rfl rfl (.r rfl rfl .n))) (.r rfl rfl rfl (.r rfl rfl rfl .n)) rfl rfl rfl)

noncomputable def asset_Book_Set.b0 (x0 : asset_Book) (x1 : List api_Price) (v9 : Int) : Option (Int ⊕ ((Int × Int × asset_Book) ⊕ Unit)) :=
  if (decide (v9 < (List.length x1 : Int))) = true then
    if (0 : Int) ≤ v9 ∧ v9 < (List.length x1 : Int) then
    (asset_Book_place.f x0 ((nth x1 v9).ISIN)).bind fun t30 =>
    if (!t30.2) = true then
      some (.inr (.inl (v9, 21, x0)))
    else
      if ((decide (((nth x1 v9).Price) < 1)) || (decide (((nth x1 v9).Price) > 4294967296))) = true then
        some (.inr (.inl (v9, 31, x0)))
      else
        some (.inl (IntKind.wrap .i64 (v9 + 1)))
    else none
  else
    some (.inr (.inr ()))
noncomputable def asset_Book_Set.r0 (x0 : asset_Book) (x1 : List api_Price) (s : Int) : Option (Int ⊕ ((Int × Int × asset_Book) ⊕ Unit)) := asset_Book_Set.b0 x0 x1 s
noncomputable def asset_Book_Set.b1 (x1 : List api_Price) (v48 : Int) (v49 : Bool) (v50 : List api_Asset) (v51 : List Int) : Option ((Int × Bool × (List api_Asset) × (List Int)) ⊕ (Bool × (List api_Asset) × (List Int))) :=
  if (decide (v48 < (List.length x1 : Int))) = true then
    if (0 : Int) ≤ v48 ∧ v48 < (List.length x1 : Int) then
    (asset_Book_place.f (⟨v50, v51, v49⟩ : asset_Book) ((nth x1 v48).ISIN)).bind fun t68 =>
    if (0 : Int) ≤ t68.1 ∧ t68.1 < (List.length ((⟨v50, v51, v49⟩ : asset_Book).prices) : Int) then
    some (.inl ((IntKind.wrap .i64 (v48 + 1)), (⟨v50, v51, v49⟩ : asset_Book).made, (⟨v50, v51, v49⟩ : asset_Book).l, (List.set ((⟨v50, v51, v49⟩ : asset_Book).prices) (Int.toNat t68.1) ((nth x1 v48).Price))))
    else none
    else none
  else
    some (.inr (v49, v50, v51))
noncomputable def asset_Book_Set.r1 (x1 : List api_Price) (s : Int × Bool × (List api_Asset) × (List Int)) : Option ((Int × Bool × (List api_Asset) × (List Int)) ⊕ (Bool × (List api_Asset) × (List Int))) := asset_Book_Set.b1 x1 s.1 s.2.1 s.2.2.1 s.2.2.2
noncomputable def asset_Book_Set.f (x0 : asset_Book) (x1 : List api_Price) : Option (Int × Int × asset_Book) :=
  if (!x0.made) = true then
    some (0, 3, x0)
  else
    (loop (asset_Book_Set.r0 x0 x1) 0).bind fun o25 =>
    match o25 with
    | .inl r35 => some r35
    | .inr w24 =>
      (loop (asset_Book_Set.r1 x1) (0, x0.made, x0.l, x0.prices)).bind fun o63 =>
      some ((List.length x1 : Int), 0, (⟨o63.2.1, o63.2.2, o63.1⟩ : asset_Book))
set_option maxRecDepth 100000 in
set_option maxHeartbeats 4000000 in
theorem asset_Book_Set.ok {x0 : asset_Book} {x1 : List api_Price} {r : Int × Int × asset_Book} (h : asset_Book_Set.f x0 x1 = some r) : Pm.Spec prog 29 [.xbox [.xown 38 5 (List.map api_Asset.enc x0.l), .xown 3 1 (List.map (encI .i64) x0.prices), .imm (.val (.bool x0.made))], .imm (.row 2 (List.map api_Price.enc x1))] (.tup [.imm (.val (.int .i64 r.1)), .imm (.val (.int .i64 r.2.1))]) [some (.xbox [.xown 38 5 (List.map api_Asset.enc r.2.2.l), .xown 3 1 (List.map (encI .i64) r.2.2.prices), .imm (.val (.bool r.2.2.made))]), none] := by
 unfold asset_Book_Set.f at h
 refine Pm.Spec.of_body Try.func29 rfl (by kernel_rfl) (Nat.le_of_ble_eq_true rfl) (Nat.le_of_ble_eq_true rfl) ?_
 refine W.ghost (σ' := (mkSt [(0, some (.ptr 0 0)), (1, some (.imm (.row 2 (List.map api_Price.enc x1))))] [(0, some (.box [.own 1, .own 2, .b x0.made])), (1, some (.rows 38 5 (List.map api_Asset.enc x0.l) false)), (2, some (.rows 3 1 (List.map (encI .i64) x0.prices) false))] 1000)) (Gives.entry (.c rfl (.c rfl .n)) (.c rfl (.c rfl (.c rfl .n)))) ?_
 refine W.ghost (σ' := (mkSt [(0, some (.ptr 0 0)), (1, some (.imm (.row 2 (List.map api_Price.enc x1))))] [(0, some (.box [.own 1000, .own 1001, .b x0.made])), (1000, some (.rows 38 5 (List.map api_Asset.enc x0.l) false)), (1001, some (.rows 3 1 (List.map (encI .i64) x0.prices) false))] 1002)) (Gives.mkR [(1000, 1), (1001, 2)] (.r rfl rfl (.r rfl rfl .n)) (.r rfl rfl rfl (.r rfl rfl rfl (.r rfl rfl rfl .n))) rfl rfl rfl) ?_
 refine W.seq ?_
 refine W.pk ?_
 refine .a rfl rfl rfl rfl ?_
 refine .a rfl rfl rfl rfl ?_
 refine .nil ?_
 refine W.seq ?_
 refine W.seq ?_
 refine W.pk ?_
 refine .m rfl rfl rfl rfl ?_
 refine .v rfl rfl (OpL.eqP rfl u58 rfl rfl rfl) ?_
 refine .m rfl rfl rfl rfl ?_
 refine .m rfl (met rfl rfl rfl rfl) rfl rfl ?_
 refine .v rfl (met rfl rfl rfl rfl) (OpL.nilP rfl rfl rfl) ?_
 refine .v rfl (met rfl rfl rfl rfl) (O.fld fld83_2 rfl rfl rfl) ?_
 refine .v rfl (met rfl rfl rfl rfl) (O.ld (y := .b x0.made) ty4 rfl rfl rfl) ?_
 refine .v rfl (met rfl rfl rfl rfl) (OpL.unV rfl rfl rfl) ?_
 refine .v rfl rfl (O.pickF rfl rfl rfl rfl) ?_
 refine .nil ?_
 refine W.cond rfl (fun q1 => ?_) (fun q1 => ?_)
 ·have h := ifT q1 h
  refine W.seq ?_
  refine W.pk ?_
  refine .a rfl rfl rfl rfl ?_
  refine .a rfl rfl rfl rfl ?_
  refine .nil ?_
  refine W.ret ?_
  cases h
  exact leaves (.inr rfl) rfl (.tup _ _ _ _ (cC (.imm _) (cC (.imm _) .nil))) (cS (.ptr _ _ _ _ _ rfl (cC (.own _ _ _ _ rfl) (cC (.own _ _ _ _ rfl) (cC (.imm _) .nil)))) (cN .nil)) rfl rfl
 ·have h := ifF q1 h
  refine W.skip ?_
  refine W.seq ?_
  refine W.seq ?_
  refine W.pk ?_
  refine .m rfl rfl rfl rfl ?_
  refine .v rfl rfl (O.lenR sl57 rfl rfl) ?_
  refine .m rfl rfl rfl rfl ?_
  refine .nil ?_
  obtain ⟨o25, b26, z27⟩ := bnd1 h
  refine W.fork2 (out := o25) (fun (w24 : Unit) => mkSt [(0, some (.ptr 0 0)), (1, some (.imm (.row 2 (List.map api_Price.enc x1))))] [(0, some (.box [.own 1000, .own 1001, .b x0.made])), (1000, some (.rows 38 5 (List.map api_Asset.enc x0.l) false)), (1001, some (.rows 3 1 (List.map (encI .i64) x0.prices) false))] 1002) ?_ ?_
  ·clear h
   refine W.block ?_
   refine W.loopF (fun (s_ : Int) => mkSt [(0, some (.ptr 0 0)), (1, some (.imm (.row 2 (List.map api_Price.enc x1)))), (23, some (.imm (.row 2 (List.map api_Price.enc x1)))), (24, some (.i (List.length x1 : Int))), (25, some (.i s_))] [(0, some (.box [.own 1000, .own 1001, .b x0.made])), (1000, some (.rows 38 5 (List.map api_Asset.enc x0.l) false)), (1001, some (.rows 3 1 (List.map (encI .i64) x0.prices) false))] 1002) b26 (Gives.mkR [] (.r rfl rfl (.r rfl rfl (.r rfl rfl (.r rfl rfl (.r rfl rfl .n))))) (.r rfl rfl rfl (.r rfl rfl rfl (.r rfl rfl rfl .n))) rfl rfl rfl) ?_
   rintro v9 s_ hr
   have h : asset_Book_Set.b0 x0 x1 v9 = some s_ := hr
   unfold asset_Book_Set.b0 at h
   refine W.seq ?_
   refine W.pk ?_
   refine .v rfl rfl (OpL.binI rfl rfl rfl rfl) ?_
   refine .nil ?_
   refine W.seq ?_
   refine W.cond rfl (fun q28 => ?_) (fun q28 => ?_)
   ·have h := ifT q28 h
    refine W.skip ?_
    refine W.seq ?_
    refine W.block ?_
    refine W.seq ?_
    obtain ⟨c29, h⟩ := chk h
    refine W.pk ?_
    refine .m rfl rfl rfl rfl ?_
    refine .v rfl rfl (O.idx sl57 c29 rfl rfl rfl) ?_
    refine .v rfl rfl (O.ldN ty92 rfl rfl rfl) ?_
    refine .t rfl rfl (O.alloc z92 rfl) ?_
    refine .a rfl rfl rfl rfl ?_
    refine .s rfl rfl (O.st ty92 rfl rfl rfl rfl rfl rfl rfl rfl rfl rfl (all' := [.s ((nth x1 v9).ISIN), .i ((nth x1 v9).Price)]) rfl) ?_
    refine .nil ?_
    refine W.seq ?_
    refine W.seq ?_
    obtain ⟨t30, b31, h⟩ := bnd1 h
    refine W.pk ?_
    refine .m rfl rfl rfl rfl ?_
    refine .v rfl rfl (O.fld fld92_0 rfl rfl rfl) ?_
    refine .v rfl rfl (O.ld (y := .s ((nth x1 v9).ISIN)) ty9 rfl rfl rfl) ?_
    refine .call (.tup [.i t30.1, .b t30.2]) [(0, some (.box [.own 1003, .own 1004, .b x0.made])), (1003, some (.rows 38 5 (List.map api_Asset.enc x0.l) false)), (1004, some (.rows 3 1 (List.map (encI .i64) x0.prices) false)), (0, none), (1000, none), (1001, none)] 2 (asset_Book_place.ok b31) rfl rfl rfl ca48 rfl rfl (cC (.ptr _ _ _ _ _ rfl (cC (.own _ _ _ _ rfl) (cC (.own _ _ _ _ rfl) (cC (.imm _) .nil)))) (cC (.imm _) .nil)) rfl rfl rfl rfl rfl ?_
    refine .m rfl rfl rfl rfl ?_
    refine .v rfl rfl (OpL.extract rfl rfl rfl) ?_
    refine .v rfl rfl (OpL.extract rfl rfl rfl) ?_
    refine .a rfl rfl rfl rfl ?_
    refine .a rfl rfl rfl rfl ?_
    refine .nil ?_
    refine W.seq ?_
    refine W.pk ?_
    refine .m rfl rfl rfl rfl ?_
    refine .v rfl rfl (OpL.unV rfl rfl rfl) ?_
    refine .nil ?_
    refine W.cond rfl (fun q32 => ?_) (fun q32 => ?_)
    ·have h := ifT q32 h
     refine W.seq ?_
     refine W.pk ?_
     refine .m rfl rfl rfl rfl ?_
     refine .a rfl rfl rfl rfl ?_
     refine .a rfl rfl rfl rfl ?_
     refine .nil ?_
     refine W.ret ?_
     cases h
     refine rdR fun e_ => ?_
     subst e_
     have h := z27
     dsimp only at h
     refine fkR ?_
     cases h
     exact leaves (.inr rfl) rfl (.tup _ _ _ _ (cC (.imm _) (cC (.imm _) .nil))) (cS (.ptr _ _ _ _ _ rfl (cC (.own _ _ _ _ rfl) (cC (.own _ _ _ _ rfl) (cC (.imm _) .nil)))) (cN .nil)) rfl rfl
    ·have h := ifF q32 h
     refine W.skip ?_
     refine W.seq ?_
     refine W.fork (mkSt [(0, some (.ptr 0 0)), (1, some (.imm (.row 2 (List.map api_Price.enc x1)))), (6, some (.i v9)), (23, some (.imm (.row 2 (List.map api_Price.enc x1)))), (24, some (.i (List.length x1 : Int))), (25, some (.i v9)), (47, some (.b ((decide (((nth x1 v9).Price) < 1)) || (decide (((nth x1 v9).Price) > 4294967296)))))] [(0, some (.box [.own 1003, .own 1004, .b x0.made])), (1003, some (.rows 38 5 (List.map api_Asset.enc x0.l) false)), (1004, some (.rows 3 1 (List.map (encI .i64) x0.prices) false))] 1005) ?_ ?_
     ·refine W.cond rfl (fun q34 => ?_) (fun q34 => ?_)
      ·have h := ifT q34 h
       refine W.seq ?_
       refine W.pk ?_
       refine .m rfl rfl rfl rfl ?_
       refine .a rfl rfl rfl rfl ?_
       refine .a rfl rfl rfl rfl ?_
       refine .nil ?_
       refine W.ret ?_
       cases h
       refine rdR fun e_ => ?_
       subst e_
       have h := z27
       dsimp only at h
       refine fkR ?_
       cases h
       exact leaves (.inr rfl) rfl (.tup _ _ _ _ (cC (.imm _) (cC (.imm _) .nil))) (cS (.ptr _ _ _ _ _ rfl (cC (.own _ _ _ _ rfl) (cC (.own _ _ _ _ rfl) (cC (.imm _) .nil)))) (cN .nil)) rfl rfl
      ·have h := ifF q34 h
       refine W.skip ?_
       refine W.pk ?_
       refine .v rfl rfl (OpL.binI rfl rfl rfl rfl) ?_
       refine .m rfl rfl rfl rfl ?_
       refine .nil ?_
       cases h
       exact rdN (Gives.mkR [(1000, 1003), (1001, 1004)] (.r rfl rfl (.r rfl rfl (.r rfl rfl (.r rfl rfl (.r rfl rfl .n))))) (.r rfl rfl rfl (.r rfl rfl rfl (.r rfl rfl rfl .n))) rfl rfl rfl)
     ·clear h
      rcases tf (decide (((nth x1 v9).Price) < 1)) with g33 | g33
      ·refine W.pk ?_
       refine .v rfl rfl (O.fld fld92_1 rfl rfl rfl) ?_
       refine .v rfl rfl (O.ld (y := .i ((nth x1 v9).Price)) ty3 rfl rfl rfl) ?_
       refine .v rfl rfl (OpL.binI rfl rfl rfl rfl) ?_
       refine .m rfl rfl rfl rfl ?_
       refine .x rfl (unmet rfl rfl rfl g33) ?_
       refine .x rfl (unmet rfl rfl rfl g33) ?_
       refine .x rfl (unmet rfl rfl rfl g33) ?_
       refine .v rfl rfl (O.pickT g33 rfl rfl rfl) ?_
       refine .nil ?_
       exact toN (Gives.mkR [] (.r rfl rfl (.r rfl rfl (.r rfl rfl (.r rfl rfl (.r rfl rfl (.r rfl rfl (.c rfl (sbb (by simp only [g33, Bool.true_or, Bool.or_true, Bool.false_or, Bool.or_false, Bool.true_and, Bool.and_true, Bool.false_and, Bool.and_false, Bool.not_true, Bool.not_false, cond_true, cond_false])) rfl .n))))))) (.r rfl rfl rfl (.r rfl rfl rfl (.r rfl rfl rfl .n))) rfl rfl rfl)
      ·refine W.pk ?_
       refine .v rfl rfl (O.fld fld92_1 rfl rfl rfl) ?_
       refine .v rfl rfl (O.ld (y := .i ((nth x1 v9).Price)) ty3 rfl rfl rfl) ?_
       refine .v rfl rfl (OpL.binI rfl rfl rfl rfl) ?_
       refine .m rfl rfl rfl rfl ?_
       refine .v rfl (met rfl rfl rfl g33) (O.fld fld92_1 rfl rfl rfl) ?_
       refine .v rfl (met rfl rfl rfl g33) (O.ld (y := .i ((nth x1 v9).Price)) ty3 rfl rfl rfl) ?_
       refine .v rfl (met rfl rfl rfl g33) (OpL.binI rfl rfl rfl rfl) ?_
       refine .v rfl rfl (O.pickF g33 rfl rfl rfl) ?_
       refine .nil ?_
       exact toN (Gives.mkR [] (.r rfl rfl (.r rfl rfl (.r rfl rfl (.r rfl rfl (.r rfl rfl (.r rfl rfl (.c rfl (sbb (by simp only [g33, Bool.true_or, Bool.or_true, Bool.false_or, Bool.or_false, Bool.true_and, Bool.and_true, Bool.false_and, Bool.and_false, Bool.not_true, Bool.not_false, cond_true, cond_false])) rfl .n))))))) (.r rfl rfl rfl (.r rfl rfl rfl (.r rfl rfl rfl .n))) rfl rfl rfl)
   ·have h := ifF q28 h
    refine W.exit ?_
    cases h
    refine rdX fun e_ => ?_
    subst e_
    repeat with_reducible refine thru ?_
    refine hit ?_
    exact fkN (Gives.mkR [] (.r rfl rfl (.r rfl rfl .n)) (.r rfl rfl rfl (.r rfl rfl rfl (.r rfl rfl rfl .n))) rfl rfl rfl)
  ·intro w24 e_
   subst e_
   clear h
   have h := z27
   dsimp only at h
   refine W.seq ?_
   refine W.seq ?_
   refine W.pk ?_
   refine .m rfl rfl rfl rfl ?_
   refine .v rfl rfl (O.lenR sl57 rfl rfl) ?_
   refine .m rfl rfl rfl rfl ?_
   refine .nil ?_
   obtain ⟨o63, b64, h⟩ := bnd1 h
   refine W.fork (mkSt [(1, some (.imm (.row 2 (List.map api_Price.enc x1))))] [(0, some (.box [.own 1000, .own 1001, .b o63.1])), (1000, some (.rows 38 5 (List.map api_Asset.enc o63.2.1) false)), (1001, some (.rows 3 1 (List.map (encI .i64) o63.2.2) false))] 1002) ?_ ?_
   ·refine W.seq ?_
    refine W.pk ?_
    refine .m rfl rfl rfl rfl ?_
    refine .v rfl rfl (O.lenR sl57 rfl rfl) ?_
    refine .a rfl rfl rfl rfl ?_
    refine .a rfl rfl rfl rfl ?_
    refine .nil ?_
    refine W.ret ?_
    cases h
    exact leaves (.inr rfl) rfl (.tup _ _ _ _ (cC (.imm _) (cC (.imm _) .nil))) (cS (.ptr _ _ _ _ _ rfl (cC (.own _ _ _ _ rfl) (cC (.own _ _ _ _ rfl) (cC (.imm _) .nil)))) (cN .nil)) rfl rfl
   ·clear h
    refine W.block ?_
    refine W.loopF (fun (s_ : Int × Bool × (List api_Asset) × (List Int)) => mkSt [(0, some (.ptr 0 0)), (1, some (.imm (.row 2 (List.map api_Price.enc x1)))), (50, some (.imm (.row 2 (List.map api_Price.enc x1)))), (51, some (.i (List.length x1 : Int))), (52, some (.i s_.1))] [(0, some (.box [.own 1000, .own 1001, .b s_.2.1])), (1000, some (.rows 38 5 (List.map api_Asset.enc s_.2.2.1) false)), (1001, some (.rows 3 1 (List.map (encI .i64) s_.2.2.2) false))] 1002) b64 (Gives.mkR [] (.r rfl rfl (.r rfl rfl (.r rfl rfl (.r rfl rfl (.r rfl rfl .n))))) (.r rfl rfl rfl (.r rfl rfl rfl (.r rfl rfl rfl .n))) rfl rfl rfl) ?_
    rintro ⟨v48, v49, v50, v51⟩ s_ hr
    have h : asset_Book_Set.b1 x1 v48 v49 v50 v51 = some s_ := hr
    unfold asset_Book_Set.b1 at h
    refine W.seq ?_
    refine W.pk ?_
    refine .v rfl rfl (OpL.binI rfl rfl rfl rfl) ?_
    refine .nil ?_
    refine W.seq ?_
    refine W.cond rfl (fun q66 => ?_) (fun q66 => ?_)
    ·have h := ifT q66 h
     refine W.skip ?_
     refine W.seq ?_
     refine W.block ?_
     refine W.seq ?_
     obtain ⟨c67, h⟩ := chk h
     refine W.pk ?_
     refine .v rfl rfl (O.idx sl57 c67 rfl rfl rfl) ?_
     refine .v rfl rfl (O.ldN ty92 rfl rfl rfl) ?_
     refine .t rfl rfl (O.alloc z92 rfl) ?_
     refine .s rfl rfl (O.st ty92 rfl rfl rfl rfl rfl rfl rfl rfl rfl rfl (all' := [.s ((nth x1 v48).ISIN), .i ((nth x1 v48).Price)]) rfl) ?_
     refine .nil ?_
     refine W.seq ?_
     obtain ⟨t68, b69, h⟩ := bnd1 h
     refine W.pk ?_
     refine .m rfl rfl rfl rfl ?_
     refine .v rfl rfl (O.fld fld92_0 rfl rfl rfl) ?_
     refine .v rfl rfl (O.ld (y := .s ((nth x1 v48).ISIN)) ty9 rfl rfl rfl) ?_
     refine .call (.tup [.i t68.1, .b t68.2]) [(0, some (.box [.own 1003, .own 1004, .b ((⟨v50, v51, v49⟩ : asset_Book).made)])), (1003, some (.rows 38 5 (List.map api_Asset.enc ((⟨v50, v51, v49⟩ : asset_Book).l)) false)), (1004, some (.rows 3 1 (List.map (encI .i64) ((⟨v50, v51, v49⟩ : asset_Book).prices)) false)), (0, none), (1000, none), (1001, none)] 2 (asset_Book_place.ok b69) rfl rfl rfl ca48 rfl rfl (cC (.ptr _ _ _ _ _ rfl (cC (.own _ _ _ _ rfl) (cC (.own _ _ _ _ rfl) (cC (.imm _) .nil)))) (cC (.imm _) .nil)) rfl rfl rfl rfl rfl ?_
     refine .m rfl rfl rfl rfl ?_
     refine .v rfl rfl (OpL.extract rfl rfl rfl) ?_
     refine .v rfl rfl (OpL.extract rfl rfl rfl) ?_
     refine .a rfl rfl rfl rfl ?_
     refine .a rfl rfl rfl rfl ?_
     refine .nil ?_
     obtain ⟨c70, h⟩ := chk h
     refine W.dk (unm 9 [0, 1, 3, 7, 0, 0, 32, 127, 255]) rfl (by kernel_rfl) ?_
     refine .m rfl rfl rfl rfl ?_
     refine .v rfl rfl (OpL.nilP rfl rfl rfl) ?_
     refine .v rfl rfl (O.fld fld83_1 rfl rfl rfl) ?_
     refine .v rfl rfl (O.ld (y := .own 1004) ty34 rfl rfl rfl) ?_
     refine .m rfl rfl rfl rfl ?_
     refine .v rfl rfl (O.fld fld92_1 rfl rfl rfl) ?_
     refine .v rfl rfl (O.ld (y := .i ((nth x1 v48).Price)) ty3 rfl rfl rfl) ?_
     refine .v rfl rfl (O.idxO sl34 c70 rfl rfl rfl rfl) ?_
     refine .s rfl rfl (O.stE (x' := (nth x1 v48).Price) ty3 c70 rfl rfl rfl rfl rfl rfl rfl rfl rfl rfl rfl) ?_
     refine .nil ?_
     refine ⟨by kernel_rfl, by kernel_rfl, ?_⟩
     refine W.pk ?_
     refine .v rfl rfl (OpL.binI rfl rfl rfl rfl) ?_
     refine .m rfl rfl rfl rfl ?_
     refine .nil ?_
     cases h
     exact rdN (Gives.mkR [(1000, 1003), (1001, 1004)] (.r rfl rfl (.r rfl rfl (.r rfl rfl (.r rfl rfl (.r rfl rfl .n))))) (.r rfl rfl rfl (.r rfl rfl rfl (.r rfl rfl rfl .n))) rfl rfl rfl)
    ·have h := ifF q66 h
     refine W.exit ?_
     cases h
     refine rdX fun e_ => ?_
     subst e_
     repeat with_reducible refine thru ?_
     refine hit ?_
     exact toN (Gives.mkR [] (.r rfl rfl .n) (.r rfl rfl rfl (.r rfl rfl rfl (.r rfl rfl rfl .n))) rfl rfl rfl)
end Go.Proofs.Ytdcpdnfalnelkaa
