/- Shows what functions of the program come to, each as a plain function: written by a program of the author's for this claim. -/
import Derived.Test.YtkcjlpiaaklnkaaGx9
namespace Go.Proofs.Ytkcjlpiaaklnkaa
open Go Go.Pm
set_option linter.unusedVariables false
set_option linter.unusedSimpArgs false
set_option maxRecDepth 100000 in
set_option maxHeartbeats 4000000 in
theorem lombardref01_Add_v2.ok {x0 : List Int} {x1 : List Int} {r : List Int} (h : lombardref01_Add.f x0 x1 = some r) : Pm.Spec prog 58 [.imm (.row 1 (List.map (encI .u64) x0)), .xown 88 1 (List.map (encI .u64) x1)] (.imm (.row 1 (List.map (encI .u64) r))) [none, some (.xown 88 1 (List.map (encI .u64) x1))] := by
 unfold lombardref01_Add.f at h
 refine Pm.Spec.of_body Try.func58 rfl (by kernel_rfl) (Nat.le_of_ble_eq_true rfl) (Nat.le_of_ble_eq_true rfl) ?_
 refine W.ghost (σ' := (mkSt [(0, some (.imm (.row 1 (List.map (encI .u64) x0)))), (1, some (.own 0))] [(0, some (.rows 88 1 (List.map (encI .u64) x1) false))] 1000)) (Gives.entry (.c rfl (.c rfl .n)) (.c rfl .n)) ?_
 refine W.seq ?_
 refine W.pk ?_
 refine .a rfl rfl rfl rfl ?_
 refine .nil ?_
 refine W.seq ?_
 refine W.pk ?_
 refine .a rfl rfl rfl rfl ?_
 refine .nil ?_
 refine W.seq ?_
 refine W.pk ?_
 refine .a rfl rfl rfl rfl ?_
 refine .nil ?_
 refine W.seq ?_
 refine W.seq ?_
 refine W.pk ?_
 refine .a rfl rfl rfl rfl ?_
 refine .nil ?_
 refine W.ghost (Gives.mintS 5 88 1 rfl) ?_
 obtain ⟨o79, b80, h⟩ := bnd1 h
 refine W.fork (mkSt [(5, some (.own 1000))] [(0, some (.rows 88 1 (List.map (encI .u64) x1) false)), (1000, some (.rows 88 1 (List.map (encI .u64) o79) false))] 1001) ?_ ?_
 ·refine W.seq ?_
  obtain ⟨t100, b101, h⟩ := bnd1 h
  refine W.pk ?_
  refine .m rfl rfl rfl rfl ?_
  refine .call (.imm (.row 1 (List.map (encI .u64) t100))) [(1000, none)] 0 (lombardref01_trim.ok b101) rfl rfl rfl ca70 rfl rfl (cC (.own _ _ _ _ rfl) .nil) rfl rfl rfl rfl rfl ?_
  refine .a rfl rfl rfl rfl ?_
  refine .nil ?_
  refine W.ret ?_
  cases h
  exact leaves (.inr rfl) rfl (.imm _) (cN (cS (.own _ _ _ _ rfl) .nil)) rfl rfl
 ·clear h
  refine W.block ?_
  refine W.loopF (fun (s_ : Int × Int × (List Int)) => mkSt [(0, some (.imm (.row 1 (List.map (encI .u64) x0)))), (1, some (.own 0)), (5, some (.own 1000)), (6, some (.imm (.val (.int .u64 s_.1)))), (7, some (.i s_.2.1))] [(0, some (.rows 88 1 (List.map (encI .u64) x1) false)), (1000, some (.rows 88 1 (List.map (encI .u64) s_.2.2) false))] 1001) b80 (Gives.mkR [] (.r rfl rfl (.r rfl rfl (.r rfl rfl (.r rfl rfl (.r rfl rfl .n))))) (.r rfl rfl rfl (.r rfl rfl rfl .n)) rfl rfl rfl) ?_
  rintro ⟨v39, v40, v41⟩ s_ hr
  have h : lombardref01_Add.b0 x0 x1 v39 v40 v41 = some s_ := hr
  unfold lombardref01_Add.b0 at h
  refine W.seq ?_
  refine W.seq ?_
  refine W.fork (mkSt [(0, some (.imm (.row 1 (List.map (encI .u64) x0)))), (1, some (.own 0)), (5, some (.own 1000)), (6, some (.imm (.val (.int .u64 v39)))), (7, some (.i v40)), (22, some (.b (((decide (v40 < (List.length x0 : Int))) || (decide (v40 < (List.length x1 : Int)))) || (decide (v39 > 0)))))] [(0, some (.rows 88 1 (List.map (encI .u64) x1) false)), (1000, some (.rows 88 1 (List.map (encI .u64) v41) false))] 1001) ?_ ?_
  ·refine W.cond rfl (fun q84 => ?_) (fun q84 => ?_)
   ·have h := ifT q84 h
    refine W.skip ?_
    refine W.seq ?_
    refine W.block ?_
    refine W.seq ?_
    refine W.pk ?_
    refine .m rfl rfl rfl rfl ?_
    refine .a rfl rfl rfl rfl ?_
    refine .nil ?_
    refine W.seq ?_
    refine W.seq ?_
    refine W.pk ?_
    refine .m rfl rfl rfl rfl ?_
    refine .m rfl rfl rfl rfl ?_
    refine .v rfl rfl (O.lenR sl103 rfl rfl) ?_
    refine .v rfl rfl (OpL.binI rfl rfl rfl rfl) ?_
    refine .nil ?_
    obtain ⟨o88, b89, h⟩ := bnd1 h
    refine W.fork (mkSt [(0, some (.imm (.row 1 (List.map (encI .u64) x0)))), (1, some (.own 0)), (5, some (.own 1000)), (7, some (.i v40)), (8, some (.imm (.val (.int .u64 o88))))] [(0, some (.rows 88 1 (List.map (encI .u64) x1) false)), (1000, some (.rows 88 1 (List.map (encI .u64) v41) false))] 1001) ?_ ?_
    ·refine W.seq ?_
     refine W.seq ?_
     refine W.pk ?_
     refine .m rfl rfl rfl rfl ?_
     refine .m rfl rfl rfl rfl ?_
     refine .v rfl rfl (O.lenO sl103 rfl rfl rfl) ?_
     refine .v rfl rfl (OpL.binI rfl rfl rfl rfl) ?_
     refine .nil ?_
     obtain ⟨o95, b96, h⟩ := bnd1 h
     refine W.fork (mkSt [(0, some (.imm (.row 1 (List.map (encI .u64) x0)))), (1, some (.own 0)), (5, some (.own 1000)), (7, some (.i v40)), (8, some (.imm (.val (.int .u64 o95))))] [(0, some (.rows 88 1 (List.map (encI .u64) x1) false)), (1000, some (.rows 88 1 (List.map (encI .u64) v41) false))] 1001) ?_ ?_
     ·refine W.seq ?_
      obtain ⟨c99, h⟩ := chk h
      refine W.pk ?_
      refine .m rfl rfl rfl rfl ?_
      refine .m rfl rfl rfl rfl ?_
      refine .v rfl rfl (O.rem rfl rfl rfl (by decide)) ?_
      refine .t rfl rfl (O.lit (enc := (encI .u64)) (l := [(Int.tmod o95 65536)]) sl103 rfl rfl rfl rfl rfl rfl rfl rfl rfl) ?_
      refine .t rfl rfl (O.appO sl103 (EncOk.int .u64) c99 rfl rfl rfl rfl rfl) ?_
      refine .a rfl rfl rfl rfl ?_
      refine .nil ?_
      refine W.pk ?_
      refine .m rfl rfl rfl rfl ?_
      refine .v rfl rfl (O.quo rfl rfl rfl (by decide)) ?_
      refine .a rfl rfl rfl rfl ?_
      refine .nil ?_
      refine W.pk ?_
      refine .m rfl rfl rfl rfl ?_
      refine .v rfl rfl (OpL.binI rfl rfl rfl rfl) ?_
      refine .a rfl rfl rfl rfl ?_
      refine .nil ?_
      cases h
      exact rdN (Gives.mkR [(1000, 1002)] (.r rfl rfl (.r rfl rfl (.r rfl rfl (.r rfl rfl (.r rfl rfl .n))))) (.r rfl rfl rfl (.r rfl rfl rfl .n)) rfl rfl rfl)
     ·clear h
      have h := b96
      refine W.cond rfl (fun q97 => ?_) (fun q97 => ?_)
      ·have h := ifT q97 h
       obtain ⟨c98, h⟩ := chk h
       refine W.pk ?_
       refine .m rfl rfl rfl rfl ?_
       refine .m rfl rfl rfl rfl ?_
       refine .m rfl rfl rfl rfl ?_
       refine .v rfl rfl (O.idxO sl103 c98 rfl rfl rfl rfl) ?_
       refine .v rfl rfl (O.ldE (c := (.val (.int .u64 (nth x1 v40)))) ty88 c98 rfl rfl rfl rfl rfl) ?_
       refine .v rfl rfl (OpL.binI rfl rfl rfl rfl) ?_
       refine .a rfl rfl rfl rfl ?_
       refine .nil ?_
       cases h
       exact toN (Gives.mkR [] (.r rfl rfl (.r rfl rfl (.r rfl rfl (.r rfl rfl (.r rfl rfl .n))))) (.r rfl rfl rfl (.r rfl rfl rfl .n)) rfl rfl rfl)
      ·have h := ifF q97 h
       refine W.skip ?_
       cases h
       exact toN (Gives.mkR [] (.r rfl rfl (.r rfl rfl (.r rfl rfl (.r rfl rfl (.r rfl rfl .n))))) (.r rfl rfl rfl (.r rfl rfl rfl .n)) rfl rfl rfl)
    ·clear h
     have h := b89
     refine W.cond rfl (fun q90 => ?_) (fun q90 => ?_)
     ·have h := ifT q90 h
      obtain ⟨c91, h⟩ := chk h
      refine W.pk ?_
      refine .m rfl rfl rfl rfl ?_
      refine .m rfl rfl rfl rfl ?_
      refine .m rfl rfl rfl rfl ?_
      refine .v rfl rfl (O.idx sl103 c91 rfl rfl rfl) ?_
      refine .v rfl rfl (O.ld (y := .imm (.val (.int .u64 (nth x0 v40)))) ty88 rfl rfl rfl) ?_
      refine .v rfl rfl (OpL.binI rfl rfl rfl rfl) ?_
      refine .a rfl rfl rfl rfl ?_
      refine .nil ?_
      cases h
      exact toN (Gives.mkR [] (.r rfl rfl (.r rfl rfl (.r rfl rfl (.r rfl rfl (.r rfl rfl .n))))) (.r rfl rfl rfl (.r rfl rfl rfl .n)) rfl rfl rfl)
     ·have h := ifF q90 h
      refine W.skip ?_
      cases h
      exact toN (Gives.mkR [] (.r rfl rfl (.r rfl rfl (.r rfl rfl (.r rfl rfl (.r rfl rfl .n))))) (.r rfl rfl rfl (.r rfl rfl rfl .n)) rfl rfl rfl)
   ·have h := ifF q84 h
    refine W.exit ?_
    cases h
    refine rdX fun e_ => ?_
    subst e_
    repeat with_reducible refine thru ?_
    refine hit ?_
    exact toN (Gives.mkR [] (.r rfl rfl .n) (.r rfl rfl rfl (.r rfl rfl rfl .n)) rfl rfl rfl)
  ·clear h
   rcases tf (decide (v40 < (List.length x0 : Int))) with g82 | g82
   ·refine W.pk ?_
    refine .m rfl rfl rfl rfl ?_
    refine .m rfl rfl rfl rfl ?_
    refine .v rfl rfl (O.lenR sl103 rfl rfl) ?_
    refine .v rfl rfl (OpL.binI rfl rfl rfl rfl) ?_
    refine .m rfl rfl rfl rfl ?_
    refine .x rfl (unmet rfl rfl rfl g82) ?_
    refine .x rfl (unmet rfl rfl rfl g82) ?_
    refine .x rfl (unmet rfl rfl rfl g82) ?_
    refine .x rfl (unmet rfl rfl rfl g82) ?_
    refine .v rfl rfl (O.pickT g82 rfl rfl rfl) ?_
    refine .m rfl rfl rfl rfl ?_
    refine .x rfl (unmet rfl rfl rfl rfl) ?_
    refine .x rfl (unmet rfl rfl rfl rfl) ?_
    refine .v rfl rfl (O.pickT rfl rfl rfl rfl) ?_
    refine .nil ?_
    exact toN (Gives.mkR [] (.r rfl rfl (.r rfl rfl (.r rfl rfl (.r rfl rfl (.r rfl rfl (.c rfl (sbb (by simp only [g82, Bool.true_or, Bool.or_true, Bool.false_or, Bool.or_false, Bool.true_and, Bool.and_true, Bool.false_and, Bool.and_false, Bool.not_true, Bool.not_false, cond_true, cond_false])) rfl .n)))))) (.r rfl rfl rfl (.r rfl rfl rfl .n)) rfl rfl rfl)
   ·rcases tf (decide (v40 < (List.length x1 : Int))) with g83 | g83
    ·refine W.pk ?_
     refine .m rfl rfl rfl rfl ?_
     refine .m rfl rfl rfl rfl ?_
     refine .v rfl rfl (O.lenR sl103 rfl rfl) ?_
     refine .v rfl rfl (OpL.binI rfl rfl rfl rfl) ?_
     refine .m rfl rfl rfl rfl ?_
     refine .m rfl (met rfl rfl rfl g82) rfl rfl ?_
     refine .m rfl (met rfl rfl rfl g82) rfl rfl ?_
     refine .v rfl (met rfl rfl rfl g82) (O.lenO sl103 rfl rfl rfl) ?_
     refine .v rfl (met rfl rfl rfl g82) (OpL.binI rfl rfl rfl rfl) ?_
     refine .v rfl rfl (O.pickF g82 rfl rfl rfl) ?_
     refine .m rfl rfl rfl rfl ?_
     refine .x rfl (unmet rfl rfl rfl g83) ?_
     refine .x rfl (unmet rfl rfl rfl g83) ?_
     refine .v rfl rfl (O.pickT g83 rfl rfl rfl) ?_
     refine .nil ?_
     exact toN (Gives.mkR [] (.r rfl rfl (.r rfl rfl (.r rfl rfl (.r rfl rfl (.r rfl rfl (.c rfl (sbb (by first | (simp only [g82, g83, Bool.true_or, Bool.or_true, Bool.false_or, Bool.or_false, Bool.true_and, Bool.and_true, Bool.false_and, Bool.and_false, Bool.not_true, Bool.not_false, cond_true, cond_false]; done) | (repeat (first | rw [g82] | rw [g83])) <;> simp only [Bool.true_or, Bool.or_true, Bool.false_or, Bool.or_false, Bool.true_and, Bool.and_true, Bool.false_and, Bool.and_false, Bool.not_true, Bool.not_false, cond_true, cond_false])) rfl .n)))))) (.r rfl rfl rfl (.r rfl rfl rfl .n)) rfl rfl rfl)
    ·refine W.pk ?_
     refine .m rfl rfl rfl rfl ?_
     refine .m rfl rfl rfl rfl ?_
     refine .v rfl rfl (O.lenR sl103 rfl rfl) ?_
     refine .v rfl rfl (OpL.binI rfl rfl rfl rfl) ?_
     refine .m rfl rfl rfl rfl ?_
     refine .m rfl (met rfl rfl rfl g82) rfl rfl ?_
     refine .m rfl (met rfl rfl rfl g82) rfl rfl ?_
     refine .v rfl (met rfl rfl rfl g82) (O.lenO sl103 rfl rfl rfl) ?_
     refine .v rfl (met rfl rfl rfl g82) (OpL.binI rfl rfl rfl rfl) ?_
     refine .v rfl rfl (O.pickF g82 rfl rfl rfl) ?_
     refine .m rfl rfl rfl rfl ?_
     refine .m rfl (met rfl rfl rfl g83) rfl rfl ?_
     refine .v rfl (met rfl rfl rfl g83) (OpL.binI rfl rfl rfl rfl) ?_
     refine .v rfl rfl (O.pickF g83 rfl rfl rfl) ?_
     refine .nil ?_
     exact toN (Gives.mkR [] (.r rfl rfl (.r rfl rfl (.r rfl rfl (.r rfl rfl (.r rfl rfl (.c rfl (sbb (by first | (simp only [g82, g83, Bool.true_or, Bool.or_true, Bool.false_or, Bool.or_false, Bool.true_and, Bool.and_true, Bool.false_and, Bool.and_false, Bool.not_true, Bool.not_false, cond_true, cond_false]; done) | (repeat (first | rw [g82] | rw [g83])) <;> simp only [Bool.true_or, Bool.or_true, Bool.false_or, Bool.or_false, Bool.true_and, Bool.and_true, Bool.false_and, Bool.and_false, Bool.not_true, Bool.not_false, cond_true, cond_false])) rfl .n)))))) (.r rfl rfl rfl (.r rfl rfl rfl .n)) rfl rfl rfl)

noncomputable def lombardref01_Halves.b0 (x0 : List Int) (v6 : Int) (v7 : Int) (v8 : Int) : Option ((Int × Int × Int) ⊕ (Int × Int)) :=
  if (decide (v8 ≥ 0)) = true then
    if (decide (v8 ≥ 4)) = true then
      if (0 : Int) ≤ v8 ∧ v8 < (List.length x0 : Int) then
      some (.inl ((IntKind.wrap .u64 ((IntKind.wrap .u64 (v6 * 65536)) + (nth x0 v8))), v7, (IntKind.wrap .i64 (v8 - 1))))
      else none
    else
      if (0 : Int) ≤ v8 ∧ v8 < (List.length x0 : Int) then
      some (.inl (v6, (IntKind.wrap .u64 ((IntKind.wrap .u64 (v7 * 65536)) + (nth x0 v8))), (IntKind.wrap .i64 (v8 - 1))))
      else none
  else
    some (.inr (v6, v7))
noncomputable def lombardref01_Halves.r0 (x0 : List Int) (s : Int × Int × Int) : Option ((Int × Int × Int) ⊕ (Int × Int)) := lombardref01_Halves.b0 x0 s.1 s.2.1 s.2.2
noncomputable def lombardref01_Halves.f (x0 : List Int) : Option (Int × Int × Bool) :=
  if (decide ((List.length x0 : Int) > 8)) = true then
    some (0, 0, false)
  else
    (loop (lombardref01_Halves.r0 x0) (0, 0, (IntKind.wrap .i64 ((List.length x0 : Int) - 1)))).bind fun o18 =>
    some (o18.1, o18.2, true)
set_option maxRecDepth 100000 in
set_option maxHeartbeats 4000000 in
theorem lombardref01_Halves.ok {x0 : List Int} {r : Int × Int × Bool} (h : lombardref01_Halves.f x0 = some r) : Pm.Spec prog 60 [.imm (.row 1 (List.map (encI .u64) x0))] (.tup [.imm (.val (.int .u64 r.1)), .imm (.val (.int .u64 r.2.1)), .imm (.val (.bool r.2.2))]) [none] := by
 unfold lombardref01_Halves.f at h
 refine Pm.Spec.of_body Try.func60 rfl (by kernel_rfl) (Nat.le_of_ble_eq_true rfl) (Nat.le_of_ble_eq_true rfl) ?_
 refine W.ghost (σ' := (mkSt [(0, some (.imm (.row 1 (List.map (encI .u64) x0))))] [] 1000)) (Gives.entry (.c rfl .n) .n) ?_
 refine W.seq ?_
 refine W.pk ?_
 refine .a rfl rfl rfl rfl ?_
 refine .a rfl rfl rfl rfl ?_
 refine .a rfl rfl rfl rfl ?_
 refine .nil ?_
 refine W.seq ?_
 refine W.seq ?_
 refine W.pk ?_
 refine .m rfl rfl rfl rfl ?_
 refine .v rfl rfl (O.lenR sl103 rfl rfl) ?_
 refine .v rfl rfl (OpL.binI rfl rfl rfl rfl) ?_
 refine .nil ?_
 refine W.cond rfl (fun q1 => ?_) (fun q1 => ?_)
 ·have h := ifT q1 h
  refine W.seq ?_
  refine W.pk ?_
  refine .a rfl rfl rfl rfl ?_
  refine .a rfl rfl rfl rfl ?_
  refine .a rfl rfl rfl rfl ?_
  refine .nil ?_
  refine W.ret ?_
  cases h
  exact leaves (.inr rfl) rfl (.tup _ _ _ _ (cC (.imm _) (cC (.imm _) (cC (.imm _) .nil)))) (cN .nil) rfl rfl
 ·have h := ifF q1 h
  refine W.skip ?_
  refine W.seq ?_
  refine W.pk ?_
  refine .a rfl rfl rfl rfl ?_
  refine .a rfl rfl rfl rfl ?_
  refine .nil ?_
  refine W.seq ?_
  refine W.seq ?_
  refine W.pk ?_
  refine .m rfl rfl rfl rfl ?_
  refine .v rfl rfl (O.lenR sl103 rfl rfl) ?_
  refine .v rfl rfl (OpL.binI rfl rfl rfl rfl) ?_
  refine .a rfl rfl rfl rfl ?_
  refine .nil ?_
  obtain ⟨o18, b19, h⟩ := bnd1 h
  refine W.fork (mkSt [(5, some (.imm (.val (.int .u64 o18.1)))), (6, some (.imm (.val (.int .u64 o18.2))))] [] 1000) ?_ ?_
  ·refine W.seq ?_
   refine W.pk ?_
   refine .m rfl rfl rfl rfl ?_
   refine .m rfl rfl rfl rfl ?_
   refine .a rfl rfl rfl rfl ?_
   refine .a rfl rfl rfl rfl ?_
   refine .a rfl rfl rfl rfl ?_
   refine .nil ?_
   refine W.ret ?_
   cases h
   exact leaves (.inr rfl) rfl (.tup _ _ _ _ (cC (.imm _) (cC (.imm _) (cC (.imm _) .nil)))) (cN .nil) rfl rfl
  ·clear h
   refine W.block ?_
   refine W.loopF (fun (s_ : Int × Int × Int) => mkSt [(0, some (.imm (.row 1 (List.map (encI .u64) x0)))), (5, some (.imm (.val (.int .u64 s_.1)))), (6, some (.imm (.val (.int .u64 s_.2.1)))), (7, some (.i s_.2.2))] [] 1000) b19 (Gives.mkR [] (.r rfl rfl (.r rfl rfl (.r rfl rfl (.r rfl rfl .n)))) .n rfl rfl rfl) ?_
   rintro ⟨v6, v7, v8⟩ s_ hr
   have h : lombardref01_Halves.b0 x0 v6 v7 v8 = some s_ := hr
   unfold lombardref01_Halves.b0 at h
   refine W.seq ?_
   refine W.seq ?_
   refine W.pk ?_
   refine .m rfl rfl rfl rfl ?_
   refine .v rfl rfl (OpL.binI rfl rfl rfl rfl) ?_
   refine .nil ?_
   refine W.cond rfl (fun q21 => ?_) (fun q21 => ?_)
   ·have h := ifT q21 h
    refine W.skip ?_
    refine W.seq ?_
    refine W.block ?_
    refine W.seq ?_
    refine W.pk ?_
    refine .m rfl rfl rfl rfl ?_
    refine .v rfl rfl (OpL.binI rfl rfl rfl rfl) ?_
    refine .nil ?_
    refine W.cond rfl (fun q22 => ?_) (fun q22 => ?_)
    ·have h := ifT q22 h
     obtain ⟨c23, h⟩ := chk h
     refine W.pk ?_
     refine .m rfl rfl rfl rfl ?_
     refine .v rfl rfl (OpL.binI rfl rfl rfl rfl) ?_
     refine .m rfl rfl rfl rfl ?_
     refine .m rfl rfl rfl rfl ?_
     refine .v rfl rfl (O.idx sl103 c23 rfl rfl rfl) ?_
     refine .v rfl rfl (O.ld (y := .imm (.val (.int .u64 (nth x0 v8)))) ty88 rfl rfl rfl) ?_
     refine .v rfl rfl (OpL.binI rfl rfl rfl rfl) ?_
     refine .a rfl rfl rfl rfl ?_
     refine .nil ?_
     refine W.pk ?_
     refine .m rfl rfl rfl rfl ?_
     refine .v rfl rfl (OpL.binI rfl rfl rfl rfl) ?_
     refine .a rfl rfl rfl rfl ?_
     refine .nil ?_
     cases h
     exact rdN (Gives.mkR [] (.r rfl rfl (.r rfl rfl (.r rfl rfl (.r rfl rfl .n)))) .n rfl rfl rfl)
    ·have h := ifF q22 h
     obtain ⟨c24, h⟩ := chk h
     refine W.pk ?_
     refine .m rfl rfl rfl rfl ?_
     refine .v rfl rfl (OpL.binI rfl rfl rfl rfl) ?_
     refine .m rfl rfl rfl rfl ?_
     refine .m rfl rfl rfl rfl ?_
     refine .v rfl rfl (O.idx sl103 c24 rfl rfl rfl) ?_
     refine .v rfl rfl (O.ld (y := .imm (.val (.int .u64 (nth x0 v8)))) ty88 rfl rfl rfl) ?_
     refine .v rfl rfl (OpL.binI rfl rfl rfl rfl) ?_
     refine .a rfl rfl rfl rfl ?_
     refine .nil ?_
     refine W.pk ?_
     refine .m rfl rfl rfl rfl ?_
     refine .v rfl rfl (OpL.binI rfl rfl rfl rfl) ?_
     refine .a rfl rfl rfl rfl ?_
     refine .nil ?_
     cases h
     exact rdN (Gives.mkR [] (.r rfl rfl (.r rfl rfl (.r rfl rfl (.r rfl rfl .n)))) .n rfl rfl rfl)
   ·have h := ifF q21 h
    refine W.exit ?_
    cases h
    refine rdX fun e_ => ?_
    subst e_
    repeat with_reducible refine thru ?_
    refine hit ?_
    exact toN (Gives.mkR [] (.r rfl rfl (.r rfl rfl .n)) .n rfl rfl rfl)
end Go.Proofs.Ytkcjlpiaaklnkaa
