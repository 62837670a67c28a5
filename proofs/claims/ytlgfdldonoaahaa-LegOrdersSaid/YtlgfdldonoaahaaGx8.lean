/- Shows what functions of the program come to, each as a plain function: written by a program of the author's for this claim. -/
import Derived.Test.YtlgfdldonoaahaaGx7
namespace Go.Proofs.Ytlgfdldonoaahaa
open Go Go.Pm
set_option linter.unusedVariables false
set_option linter.unusedSimpArgs false
noncomputable def lombardref01_size.f (x0 : Int) : Option (List Int) :=
  if (x0 == (-9223372036854775808)) = true then
    (lombardref01_Of.f 9223372036854775808).bind fun t2 =>
    some t2
  else
    if (decide (x0 < 0)) = true then
      (lombardref01_Of.f (IntKind.wrap .u64 (IntKind.wrap .i64 (0 - x0)))).bind fun t5 =>
      some t5
    else
      (lombardref01_Of.f (IntKind.wrap .u64 x0)).bind fun t7 =>
      some t7
set_option maxRecDepth 100000 in
set_option maxHeartbeats 4000000 in
theorem lombardref01_size.ok {x0 : Int} {r : List Int} (h : lombardref01_size.f x0 = some r) : Pm.Spec prog 72 [.imm (.val (.int .i64 x0))] (.xown 102 1 (List.map (encI .u64) r)) [none] := by
 unfold lombardref01_size.f at h; refine Pm.Spec.of_body Try.func72 rfl (by kernel_rfl) (Nat.le_of_ble_eq_true rfl) (Nat.le_of_ble_eq_true rfl) ?_; refine W.ghost (σ' := (mkSt [(0, some (.i x0))] [] 1000)) (Gives.entry (.c rfl .n) .n) ?_; refine W.seq ?_; refine W.pk ?_; refine .a rfl rfl rfl rfl ?_; refine .nil ?_; (iterate 2 refine W.seq ?_); refine W.pk ?_; refine .m rfl rfl rfl rfl ?_; refine .v rfl rfl (OpL.binI rfl rfl rfl rfl) ?_; refine .nil ?_; refine W.cond rfl (fun q1 => ?_) (fun q1 => ?_)
 ·have h := ifT q1 h; refine W.seq ?_; obtain ⟨t2, b3, h⟩ := bnd1 h; refine W.pk ?_; refine .call (.own 1000) [(1000, some (.rows 102 1 (List.map (encI .u64) t2) false))] 1 (lombardref01_Of.ok b3) rfl rfl rfl ca75 rfl rfl (cC (.imm _) .nil) rfl rfl rfl rfl rfl ?_; refine .a rfl rfl rfl rfl ?_; refine .nil ?_; refine W.ret ?_; cases h; exact leaves (.inr rfl) rfl (.own _ _ _ _ rfl) (cN .nil) rfl rfl
 ·have h := ifF q1 h; refine W.skip ?_; (iterate 2 refine W.seq ?_); refine W.pk ?_; refine .m rfl rfl rfl rfl ?_; refine .v rfl rfl (OpL.binI rfl rfl rfl rfl) ?_; refine .nil ?_; refine W.cond rfl (fun q4 => ?_) (fun q4 => ?_)
  ·have h := ifT q4 h; refine W.seq ?_; obtain ⟨t5, b6, h⟩ := bnd1 h; refine W.pk ?_; refine .m rfl rfl rfl rfl ?_; refine .v rfl rfl (OpL.binI rfl rfl rfl rfl) ?_; refine .v rfl rfl (O.conv h3 u102 rfl rfl) ?_; refine .call (.own 1000) [(1000, some (.rows 102 1 (List.map (encI .u64) t5) false))] 1 (lombardref01_Of.ok b6) rfl rfl rfl ca75 rfl rfl (cC (.imm _) .nil) rfl rfl rfl rfl rfl ?_; refine .a rfl rfl rfl rfl ?_; refine .nil ?_; refine W.ret ?_; cases h; exact leaves (.inr rfl) rfl (.own _ _ _ _ rfl) (cN .nil) rfl rfl
  ·have h := ifF q4 h; refine W.skip ?_; refine W.seq ?_; obtain ⟨t7, b8, h⟩ := bnd1 h; refine W.pk ?_; refine .m rfl rfl rfl rfl ?_; refine .v rfl rfl (O.conv h3 u102 rfl rfl) ?_; refine .call (.own 1000) [(1000, some (.rows 102 1 (List.map (encI .u64) t7) false))] 1 (lombardref01_Of.ok b8) rfl rfl rfl ca75 rfl rfl (cC (.imm _) .nil) rfl rfl rfl rfl rfl ?_; refine .a rfl rfl rfl rfl ?_; refine .nil ?_; refine W.ret ?_; cases h; exact leaves (.inr rfl) rfl (.own _ _ _ _ rfl) (cN .nil) rfl rfl

noncomputable def lombardref01_trim.b0 (x0 : List Int) (v4 : Int) : Option (Int ⊕ Int) :=
  if ((decide (v4 > 0)) = true → (0 : Int) ≤ (IntKind.wrap .i64 (v4 - 1)) ∧ (IntKind.wrap .i64 (v4 - 1)) < (List.length x0 : Int)) then
  if ((decide (v4 > 0)) && ((nth x0 (IntKind.wrap .i64 (v4 - 1))) == 0)) = true then
    some (.inl (IntKind.wrap .i64 (v4 - 1)))
  else
    some (.inr v4)
  else none
noncomputable def lombardref01_trim.r0 (x0 : List Int) (s : Int) : Option (Int ⊕ Int) := lombardref01_trim.b0 x0 s
noncomputable def lombardref01_trim.f (x0 : List Int) : Option (List Int) :=
  (loop (lombardref01_trim.r0 x0) (List.length x0 : Int)).bind fun o12 =>
  if (0 : Int) ≤ 0 ∧ 0 ≤ o12 ∧ o12 ≤ (List.length x0 : Int) then
  some ((x0.drop (Int.toNat 0)).take (Int.toNat o12 - Int.toNat 0))
  else none
set_option maxRecDepth 100000 in
set_option maxHeartbeats 4000000 in
theorem lombardref01_trim.ok {x0 : List Int} {r : List Int} (h : lombardref01_trim.f x0 = some r) : Pm.Spec prog 81 [.xown 102 1 (List.map (encI .u64) x0)] (.imm (.row 1 (List.map (encI .u64) r))) [none] := by
 unfold lombardref01_trim.f at h; refine Pm.Spec.of_body Try.func81 rfl (by kernel_rfl) (Nat.le_of_ble_eq_true rfl) (Nat.le_of_ble_eq_true rfl) ?_; refine W.ghost (σ' := (mkSt [(0, some (.own 0))] [(0, some (.rows 102 1 (List.map (encI .u64) x0) false))] 1000)) (Gives.entry (.c rfl .n) (.c rfl .n)) ?_; refine W.seq ?_; refine W.pk ?_; refine .a rfl rfl rfl rfl ?_; refine .nil ?_; refine W.seq ?_; refine W.pk ?_; refine .m rfl rfl rfl rfl ?_; refine .v rfl rfl (O.lenO sl96 rfl rfl rfl) ?_; refine .a rfl rfl rfl rfl ?_; refine .nil ?_; refine W.seq ?_; obtain ⟨o12, b13, h⟩ := bnd1 h; refine W.fork (mkSt [(0, some (.own 0)), (3, some (.i o12))] [(0, some (.rows 102 1 (List.map (encI .u64) x0) false))] 1000) ?_ ?_
 ·refine W.seq ?_; obtain ⟨c18, h⟩ := chk h; refine W.pk ?_; (iterate 2 refine .m rfl rfl rfl rfl ?_); refine .v rfl rfl (O.partO sl96 c18 rfl rfl rfl rfl rfl) ?_; refine .a rfl rfl rfl rfl ?_; refine .nil ?_; refine W.ret ?_; cases h; exact leaves (.inr rfl) rfl (cfView rfl c18) (cN .nil) rfl rfl
 ·clear h; refine W.block ?_; refine W.loopF (fun (s_ : Int) => mkSt [(0, some (.own 0)), (3, some (.i s_))] [(0, some (.rows 102 1 (List.map (encI .u64) x0) false))] 1000) b13 (Gives.mkR [] (.e rfl rfl) (.r rfl rfl rfl .n) rfl rfl rfl) ?_; rintro v4 s_ hr; have h : lombardref01_trim.b0 x0 v4 = some s_ := hr; unfold lombardref01_trim.b0 at h; (iterate 2 refine W.seq ?_); obtain ⟨c15, h⟩ := chk h; refine W.fork (mkSt [(0, some (.own 0)), (3, some (.i v4)), (15, some (.b ((decide (v4 > 0)) && ((nth x0 (IntKind.wrap .i64 (v4 - 1))) == 0))))] [(0, some (.rows 102 1 (List.map (encI .u64) x0) false))] 1000) ?_ ?_
  ·refine W.cond rfl (fun q17 => ?_) (fun q17 => ?_)
   ·have h := ifT q17 h; refine W.skip ?_; refine W.block ?_; refine W.pk ?_; refine .m rfl rfl rfl rfl ?_; refine .v rfl rfl (OpL.binI rfl rfl rfl rfl) ?_; refine .a rfl rfl rfl rfl ?_; refine .nil ?_; cases h; exact rdN (Gives.mkR [] (.e rfl rfl) (.r rfl rfl rfl .n) rfl rfl rfl)
   ·have h := ifF q17 h; refine W.exit ?_; cases h; refine rdX fun e_ => ?_; subst e_; (repeat with_reducible refine thru ?_); refine hit ?_; exact toN (Gives.mkR [] (.e rfl rfl) (.r rfl rfl rfl .n) rfl rfl rfl)
  ·clear h; refine W.pk ?_; refine .m rfl rfl rfl rfl ?_; refine .v rfl rfl (OpL.binI rfl rfl rfl rfl) ?_; refine .m rfl rfl rfl rfl ?_; rcases tf (decide (v4 > 0)) with g16 | g16
   ·(iterate 2 refine .m rfl (met rfl rfl rfl g16) rfl rfl ?_); refine .v rfl (met rfl rfl rfl g16) (OpL.binI rfl rfl rfl rfl) ?_; refine .v rfl (met rfl rfl rfl g16) (O.idxO sl96 (c15 (by simp only [g16, BL])) rfl rfl rfl rfl) ?_; refine .v rfl (met rfl rfl rfl g16) (O.ldE (c := (.val (.int .u64 (nth x0 (IntKind.wrap .i64 (v4 - 1)))))) ty102 (c15 (by simp only [g16, BL])) rfl rfl rfl rfl rfl) ?_; refine .v rfl (met rfl rfl rfl g16) (OpL.binI rfl rfl rfl rfl) ?_; refine .v rfl rfl (O.pickT g16 rfl rfl rfl) ?_; refine .nil ?_; exact toN (Gives.mkR [] (.r rfl rfl (.r rfl rfl (.c rfl (sbb (by simp only [g16, BL])) rfl .n))) (.r rfl rfl rfl .n) rfl rfl rfl)
   ·(iterate 6 refine .x rfl (unmet rfl rfl rfl g16) ?_); refine .v rfl rfl (O.pickF g16 rfl rfl rfl) ?_; refine .nil ?_; exact toN (Gives.mkR [] (.r rfl rfl (.r rfl rfl (.c rfl (sbb (by simp only [g16, BL])) rfl .n))) (.r rfl rfl rfl .n) rfl rfl rfl)

noncomputable def lombardref01_Mul.b1 (x0 : List Int) (x1 : List Int) (v62 : Int) (v202 : Int) (v203 : Int) (v204 : List Int) : Option ((Int × Int × (List Int)) ⊕ (List Int)) :=
  if ((decide (v203 < (List.length x1 : Int))) || (decide (v202 > 0))) = true then
    if (0 : Int) ≤ (IntKind.wrap .i64 (v62 + v203)) ∧ (IntKind.wrap .i64 (v62 + v203)) < (List.length v204 : Int) then
    ((
      if (decide (v203 < (List.length x1 : Int))) = true then
        if (0 : Int) ≤ v62 ∧ v62 < (List.length x0 : Int) then
        if (0 : Int) ≤ v203 ∧ v203 < (List.length x1 : Int) then
        some (IntKind.wrap .u64 ((IntKind.wrap .u64 ((nth v204 (IntKind.wrap .i64 (v62 + v203))) + v202)) + (IntKind.wrap .u64 ((nth x0 v62) * (nth x1 v203)))))
        else none
        else none
      else
        some (IntKind.wrap .u64 ((nth v204 (IntKind.wrap .i64 (v62 + v203))) + v202)) : Option (Int))).bind fun o242 =>
    if (0 : Int) ≤ (IntKind.wrap .i64 (v62 + v203)) ∧ (IntKind.wrap .i64 (v62 + v203)) < (List.length v204 : Int) then
    some (.inl ((IntKind.wrap .u64 (Int.tdiv o242 65536)), (IntKind.wrap .i64 (v203 + 1)), (List.set v204 (Int.toNat (IntKind.wrap .i64 (v62 + v203))) (Int.tmod o242 65536))))
    else none
    else none
  else
    some (.inr v204)
noncomputable def lombardref01_Mul.r1 (x0 : List Int) (x1 : List Int) (v62 : Int) (s : Int × Int × (List Int)) : Option ((Int × Int × (List Int)) ⊕ (List Int)) := lombardref01_Mul.b1 x0 x1 v62 s.1 s.2.1 s.2.2
noncomputable def lombardref01_Mul.b0 (x0 : List Int) (x1 : List Int) (v62 : Int) (v63 : List Int) : Option ((Int × (List Int)) ⊕ (List Int)) :=
  if (decide (v62 < (List.length x0 : Int))) = true then
    (loop (lombardref01_Mul.r1 x0 x1 v62) (0, 0, v63)).bind fun o232 =>
    some (.inl ((IntKind.wrap .i64 (v62 + 1)), o232))
  else
    some (.inr v63)
noncomputable def lombardref01_Mul.r0 (x0 : List Int) (x1 : List Int) (s : Int × (List Int)) : Option ((Int × (List Int)) ⊕ (List Int)) := lombardref01_Mul.b0 x0 x1 s.1 s.2
noncomputable def lombardref01_Mul.f (x0 : List Int) (x1 : List Int) : Option (List Int) :=
  if (0 : Int) ≤ (IntKind.wrap .i64 ((IntKind.wrap .i64 ((List.length x0 : Int) + (List.length x1 : Int))) + 1)) ∧ (IntKind.wrap .i64 ((IntKind.wrap .i64 ((List.length x0 : Int) + (List.length x1 : Int))) + 1)) ≤ (IntKind.wrap .i64 ((IntKind.wrap .i64 ((List.length x0 : Int) + (List.length x1 : Int))) + 1)) ∧ (8 : Int) * (IntKind.wrap .i64 ((IntKind.wrap .i64 ((List.length x0 : Int) + (List.length x1 : Int))) + 1)) ≤ 281474976710656 then
  (loop (lombardref01_Mul.r0 x0 x1) (0, (List.replicate (Int.toNat (IntKind.wrap .i64 ((IntKind.wrap .i64 ((List.length x0 : Int) + (List.length x1 : Int))) + 1))) (0 : Int)))).bind fun o185 =>
  (lombardref01_trim.f o185).bind fun t248 =>
  some t248
  else none
set_option maxRecDepth 100000 in
set_option maxHeartbeats 4000000 in
theorem lombardref01_Mul.ok {x0 : List Int} {x1 : List Int} {r : List Int} (h : lombardref01_Mul.f x0 x1 = some r) : Pm.Spec prog 71 [.xown 102 1 (List.map (encI .u64) x0), .xown 102 1 (List.map (encI .u64) x1)] (.imm (.row 1 (List.map (encI .u64) r))) [some (.xown 102 1 (List.map (encI .u64) x0)), some (.xown 102 1 (List.map (encI .u64) x1))] := by
 unfold lombardref01_Mul.f at h; refine Pm.Spec.of_body Try.func71 rfl (by kernel_rfl) (Nat.le_of_ble_eq_true rfl) (Nat.le_of_ble_eq_true rfl) ?_; refine W.ghost (σ' := (mkSt [(0, some (.own 0)), (1, some (.own 1))] [(0, some (.rows 102 1 (List.map (encI .u64) x0) false)), (1, some (.rows 102 1 (List.map (encI .u64) x1) false))] 1000)) (Gives.entry (.c rfl (.c rfl .n)) (.c rfl (.c rfl .n))) ?_; refine W.seq ?_; refine W.pk ?_; refine .a rfl rfl rfl rfl ?_; refine .nil ?_; refine W.seq ?_; obtain ⟨c1, h⟩ := chk h; refine W.pk ?_; refine .m rfl rfl rfl rfl ?_; refine .v rfl rfl (O.lenO sl96 rfl rfl rfl) ?_; refine .m rfl rfl rfl rfl ?_; refine .v rfl rfl (O.lenO sl96 rfl rfl rfl) ?_; (iterate 2 refine .v rfl rfl (OpL.binI rfl rfl rfl rfl) ?_); refine .t rfl rfl (O.make (enc := (encI .u64)) (z := (0 : Int)) sl96 c1 rfl rfl rfl rfl rfl) ?_; refine .a rfl rfl rfl rfl ?_; refine .nil ?_; (iterate 2 refine W.seq ?_); refine W.pk ?_; refine .a rfl rfl rfl rfl ?_; refine .nil ?_; obtain ⟨o185, b186, h⟩ := bnd1 h; refine W.fork (mkSt [(5, some (.own 1000))] [(0, some (.rows 102 1 (List.map (encI .u64) x0) false)), (1, some (.rows 102 1 (List.map (encI .u64) x1) false)), (1000, some (.rows 102 1 (List.map (encI .u64) o185) false))] 1001) ?_ ?_
 ·refine W.seq ?_; obtain ⟨t248, b249, h⟩ := bnd1 h; refine W.pk ?_; refine .m rfl rfl rfl rfl ?_; refine .call (.imm (.row 1 (List.map (encI .u64) t248))) [(1000, none)] 0 (lombardref01_trim.ok b249) rfl rfl rfl ca81 rfl rfl (cC (.own _ _ _ _ rfl) .nil) rfl rfl rfl rfl rfl ?_; refine .a rfl rfl rfl rfl ?_; refine .nil ?_; refine W.ret ?_; cases h; exact leaves (.inr rfl) rfl (.imm _) (cS (.own _ _ _ _ rfl) (cS (.own _ _ _ _ rfl) .nil)) rfl rfl
 ·clear h; refine W.block ?_; refine W.loopF (fun (s_ : Int × (List Int)) => mkSt [(0, some (.own 0)), (1, some (.own 1)), (5, some (.own 1000)), (6, some (.i s_.1))] [(0, some (.rows 102 1 (List.map (encI .u64) x0) false)), (1, some (.rows 102 1 (List.map (encI .u64) x1) false)), (1000, some (.rows 102 1 (List.map (encI .u64) s_.2) false))] 1001) b186 (Gives.mkR [] (.e rfl rfl) (.e rfl rfl) rfl rfl rfl) ?_; rintro ⟨v62, v63⟩ s_ hr; have h : lombardref01_Mul.b0 x0 x1 v62 v63 = some s_ := hr; unfold lombardref01_Mul.b0 at h; (iterate 2 refine W.seq ?_); refine W.pk ?_; (iterate 2 refine .m rfl rfl rfl rfl ?_); refine .v rfl rfl (O.lenO sl96 rfl rfl rfl) ?_; refine .v rfl rfl (OpL.binI rfl rfl rfl rfl) ?_; refine .nil ?_; refine W.cond rfl (fun q188 => ?_) (fun q188 => ?_)
  ·have h := ifT q188 h; refine W.skip ?_; refine W.seq ?_; refine W.block ?_; refine W.seq ?_; refine W.pk ?_; refine .a rfl rfl rfl rfl ?_; refine .nil ?_; refine W.seq ?_; refine W.pk ?_; refine .a rfl rfl rfl rfl ?_; refine .nil ?_; obtain ⟨o232, b233, h⟩ := bnd1 h; refine W.fork (mkSt [(0, some (.own 0)), (1, some (.own 1)), (5, some (.own 1000)), (6, some (.i v62))] [(0, some (.rows 102 1 (List.map (encI .u64) x0) false)), (1, some (.rows 102 1 (List.map (encI .u64) x1) false)), (1000, some (.rows 102 1 (List.map (encI .u64) o232) false))] 1001) ?_ ?_
   ·refine W.pk ?_; refine .m rfl rfl rfl rfl ?_; refine .v rfl rfl (OpL.binI rfl rfl rfl rfl) ?_; refine .a rfl rfl rfl rfl ?_; refine .nil ?_; cases h; exact rdN (Gives.mkR [] (.e rfl rfl) (.e rfl rfl) rfl rfl rfl)
   ·clear h; refine W.block ?_; refine W.loopF (fun (s_ : Int × Int × (List Int)) => mkSt [(0, some (.own 0)), (1, some (.own 1)), (5, some (.own 1000)), (6, some (.i v62)), (7, some (.imm (.val (.int .u64 s_.1)))), (8, some (.i s_.2.1))] [(0, some (.rows 102 1 (List.map (encI .u64) x0) false)), (1, some (.rows 102 1 (List.map (encI .u64) x1) false)), (1000, some (.rows 102 1 (List.map (encI .u64) s_.2.2) false))] 1001) b233 (Gives.mkR [] (.e rfl rfl) (.e rfl rfl) rfl rfl rfl) ?_; rintro ⟨v202, v203, v204⟩ s_ hr; have h : lombardref01_Mul.b1 x0 x1 v62 v202 v203 v204 = some s_ := hr; unfold lombardref01_Mul.b1 at h; (iterate 2 refine W.seq ?_); refine W.fork (mkSt [(0, some (.own 0)), (1, some (.own 1)), (5, some (.own 1000)), (6, some (.i v62)), (7, some (.imm (.val (.int .u64 v202)))), (8, some (.i v203)), (30, some (.b ((decide (v203 < (List.length x1 : Int))) || (decide (v202 > 0)))))] [(0, some (.rows 102 1 (List.map (encI .u64) x0) false)), (1, some (.rows 102 1 (List.map (encI .u64) x1) false)), (1000, some (.rows 102 1 (List.map (encI .u64) v204) false))] 1001) ?_ ?_
    ·refine W.cond rfl (fun q236 => ?_) (fun q236 => ?_)
     ·have h := ifT q236 h; refine W.skip ?_; refine W.seq ?_; refine W.block ?_; refine W.seq ?_; obtain ⟨c237, h⟩ := chk h; refine W.pk ?_; (iterate 3 refine .m rfl rfl rfl rfl ?_); refine .v rfl rfl (OpL.binI rfl rfl rfl rfl) ?_; refine .v rfl rfl (O.idxO sl96 c237 rfl rfl rfl rfl) ?_; refine .v rfl rfl (O.ldE (c := (.val (.int .u64 (nth v204 (IntKind.wrap .i64 (v62 + v203)))))) ty102 c237 rfl rfl rfl rfl rfl) ?_; refine .m rfl rfl rfl rfl ?_; refine .v rfl rfl (OpL.binI rfl rfl rfl rfl) ?_; refine .a rfl rfl rfl rfl ?_; refine .nil ?_; (iterate 2 refine W.seq ?_); refine W.pk ?_; (iterate 2 refine .m rfl rfl rfl rfl ?_); refine .v rfl rfl (O.lenO sl96 rfl rfl rfl) ?_; refine .v rfl rfl (OpL.binI rfl rfl rfl rfl) ?_; refine .nil ?_; obtain ⟨o242, b243, h⟩ := bnd1 h; refine W.fork (mkSt [(0, some (.own 0)), (1, some (.own 1)), (5, some (.own 1000)), (6, some (.i v62)), (8, some (.i v203)), (9, some (.imm (.val (.int .u64 o242))))] [(0, some (.rows 102 1 (List.map (encI .u64) x0) false)), (1, some (.rows 102 1 (List.map (encI .u64) x1) false)), (1000, some (.rows 102 1 (List.map (encI .u64) v204) false))] 1001) ?_ ?_
      ·refine W.seq ?_; obtain ⟨c247, h⟩ := chk h; refine W.pk ?_; (iterate 3 refine .m rfl rfl rfl rfl ?_); refine .v rfl rfl (OpL.binI rfl rfl rfl rfl) ?_; refine .m rfl rfl rfl rfl ?_; refine .v rfl rfl (O.rem rfl rfl rfl (by decide)) ?_; refine .v rfl rfl (O.idxO sl96 c247 rfl rfl rfl rfl) ?_; refine .s rfl rfl (O.stE (x' := (Int.tmod o242 65536)) ty102 c247 rfl rfl rfl rfl rfl rfl rfl rfl rfl rfl rfl) ?_; refine .nil ?_; refine W.pk ?_; refine .m rfl rfl rfl rfl ?_; refine .v rfl rfl (O.quo rfl rfl rfl (by decide)) ?_; refine .a rfl rfl rfl rfl ?_; refine .nil ?_; refine W.pk ?_; refine .m rfl rfl rfl rfl ?_; refine .v rfl rfl (OpL.binI rfl rfl rfl rfl) ?_; refine .a rfl rfl rfl rfl ?_; refine .nil ?_; cases h; exact rdN (Gives.mkR [] (.e rfl rfl) (.e rfl rfl) rfl rfl rfl)
      ·clear h; have h := b243; refine W.cond rfl (fun q244 => ?_) (fun q244 => ?_)
       ·have h := ifT q244 h; obtain ⟨c245, h⟩ := chk h; obtain ⟨c246, h⟩ := chk h; refine W.dk (unm 12 [0, 0, 0, 6, 14, 0, 0, 96, 224, 510, 1023, 2047]) rfl (by kernel_rfl) ?_; (iterate 3 refine .m rfl rfl rfl rfl ?_); refine .v rfl rfl (O.idxO sl96 c245 rfl rfl rfl rfl) ?_; refine .v rfl rfl (O.ldE (c := (.val (.int .u64 (nth x0 v62)))) ty102 c245 rfl rfl rfl rfl rfl) ?_; (iterate 2 refine .m rfl rfl rfl rfl ?_); refine .v rfl rfl (O.idxO sl96 c246 rfl rfl rfl rfl) ?_; refine .v rfl rfl (O.ldE (c := (.val (.int .u64 (nth x1 v203)))) ty102 c246 rfl rfl rfl rfl rfl) ?_; (iterate 2 refine .v rfl rfl (OpL.binI rfl rfl rfl rfl) ?_); refine .a rfl rfl rfl rfl ?_; refine .nil ?_; refine ⟨by kernel_rfl, by kernel_rfl, ?_⟩; cases h; exact toN (Gives.mkR [] (.e rfl rfl) (.e rfl rfl) rfl rfl rfl)
       ·have h := ifF q244 h; refine W.skip ?_; cases h; exact toN (Gives.mkR [] (.e rfl rfl) (.e rfl rfl) rfl rfl rfl)
     ·have h := ifF q236 h; refine W.exit ?_; cases h; refine rdX fun e_ => ?_; subst e_; (repeat with_reducible refine thru ?_); refine hit ?_; exact toN (Gives.mkR [] (.e rfl rfl) (.e rfl rfl) rfl rfl rfl)
    ·clear h; refine W.pk ?_; (iterate 2 refine .m rfl rfl rfl rfl ?_); refine .v rfl rfl (O.lenO sl96 rfl rfl rfl) ?_; refine .v rfl rfl (OpL.binI rfl rfl rfl rfl) ?_; refine .m rfl rfl rfl rfl ?_; rcases tf (decide (v203 < (List.length x1 : Int))) with g235 | g235
     ·(iterate 2 refine .x rfl (unmet rfl rfl rfl g235) ?_); refine .v rfl rfl (O.pickT g235 rfl rfl rfl) ?_; refine .nil ?_; exact toN (Gives.mkR [] (.r rfl rfl (.r rfl rfl (.r rfl rfl (.r rfl rfl (.r rfl rfl (.r rfl rfl (.c rfl (sbb (by simp only [g235, BL])) rfl .n))))))) (.e rfl rfl) rfl rfl rfl)
     ·refine .m rfl (met rfl rfl rfl g235) rfl rfl ?_; refine .v rfl (met rfl rfl rfl g235) (OpL.binI rfl rfl rfl rfl) ?_; refine .v rfl rfl (O.pickF g235 rfl rfl rfl) ?_; refine .nil ?_; exact toN (Gives.mkR [] (.r rfl rfl (.r rfl rfl (.r rfl rfl (.r rfl rfl (.r rfl rfl (.r rfl rfl (.c rfl (sbb (by simp only [g235, BL])) rfl .n))))))) (.e rfl rfl) rfl rfl rfl)
  ·have h := ifF q188 h; refine W.exit ?_; cases h; refine rdX fun e_ => ?_; subst e_; (repeat with_reducible refine thru ?_); refine hit ?_; exact toN (Gives.mkR [] (.r rfl rfl .n) (.e rfl rfl) rfl rfl rfl)

noncomputable def lombardref01_Compare.b0 (x0 : List Int) (x1 : List Int) (v9 : Int) : Option (Int ⊕ (Int ⊕ Unit)) :=
  if (decide (v9 ≥ 0)) = true then
    if (0 : Int) ≤ v9 ∧ v9 < (List.length x0 : Int) then
    if (0 : Int) ≤ v9 ∧ v9 < (List.length x1 : Int) then
    if (decide ((nth x0 v9) < (nth x1 v9))) = true then
      some (.inr (.inl (-1)))
    else
      if (0 : Int) ≤ v9 ∧ v9 < (List.length x0 : Int) then
      if (0 : Int) ≤ v9 ∧ v9 < (List.length x1 : Int) then
      if (decide ((nth x0 v9) > (nth x1 v9))) = true then
        some (.inr (.inl 1))
      else
        some (.inl (IntKind.wrap .i64 (v9 - 1)))
      else none
      else none
    else none
    else none
  else
    some (.inr (.inr ()))
noncomputable def lombardref01_Compare.r0 (x0 : List Int) (x1 : List Int) (s : Int) : Option (Int ⊕ (Int ⊕ Unit)) := lombardref01_Compare.b0 x0 x1 s
noncomputable def lombardref01_Compare.f (x0 : List Int) (x1 : List Int) : Option (Int) :=
  if ((List.length x0 : Int) != (List.length x1 : Int)) = true then
    some (IntKind.wrap .i64 ((List.length x0 : Int) - (List.length x1 : Int)))
  else
    (loop (lombardref01_Compare.r0 x0 x1) (IntKind.wrap .i64 ((List.length x0 : Int) - 1))).bind fun o25 =>
    match o25 with
    | .inl r35 => some r35
    | .inr w24 =>
      some 0
set_option maxRecDepth 100000 in
set_option maxHeartbeats 4000000 in
theorem lombardref01_Compare.ok {x0 : List Int} {x1 : List Int} {r : Int} (h : lombardref01_Compare.f x0 x1 = some r) : Pm.Spec prog 73 [.imm (.row 1 (List.map (encI .u64) x0)), .imm (.row 1 (List.map (encI .u64) x1))] (.imm (.val (.int .i64 r))) [none, none] := by
 unfold lombardref01_Compare.f at h; refine Pm.Spec.of_body Try.func73 rfl (by kernel_rfl) (Nat.le_of_ble_eq_true rfl) (Nat.le_of_ble_eq_true rfl) ?_; refine W.ghost (σ' := (mkSt [(0, some (.imm (.row 1 (List.map (encI .u64) x0)))), (1, some (.imm (.row 1 (List.map (encI .u64) x1))))] [] 1000)) (Gives.entry (.c rfl (.c rfl .n)) .n) ?_; refine W.seq ?_; refine W.pk ?_; refine .a rfl rfl rfl rfl ?_; refine .nil ?_; (iterate 2 refine W.seq ?_); refine W.pk ?_; refine .m rfl rfl rfl rfl ?_; refine .v rfl rfl (O.lenR sl96 rfl rfl) ?_; refine .m rfl rfl rfl rfl ?_; refine .v rfl rfl (O.lenR sl96 rfl rfl) ?_; refine .v rfl rfl (OpL.binI rfl rfl rfl rfl) ?_; refine .nil ?_; refine W.cond rfl (fun q1 => ?_) (fun q1 => ?_)
 ·have h := ifT q1 h; refine W.seq ?_; refine W.pk ?_; refine .m rfl rfl rfl rfl ?_; refine .v rfl rfl (O.lenR sl96 rfl rfl) ?_; refine .m rfl rfl rfl rfl ?_; refine .v rfl rfl (O.lenR sl96 rfl rfl) ?_; refine .v rfl rfl (OpL.binI rfl rfl rfl rfl) ?_; refine .a rfl rfl rfl rfl ?_; refine .nil ?_; refine W.ret ?_; cases h; exact leaves (.inr rfl) rfl (.imm _) (cN (cN .nil)) rfl rfl
 ·have h := ifF q1 h; refine W.skip ?_; (iterate 2 refine W.seq ?_); refine W.pk ?_; refine .m rfl rfl rfl rfl ?_; refine .v rfl rfl (O.lenR sl96 rfl rfl) ?_; refine .v rfl rfl (OpL.binI rfl rfl rfl rfl) ?_; refine .a rfl rfl rfl rfl ?_; refine .nil ?_; obtain ⟨o25, b26, z27⟩ := bnd1 h; refine W.fork2 (out := o25) (fun (w24 : Unit) => mkSt [] [] 1000) ?_ ?_
  ·clear h; refine W.block ?_; refine W.loopF (fun (s_ : Int) => mkSt [(0, some (.imm (.row 1 (List.map (encI .u64) x0)))), (1, some (.imm (.row 1 (List.map (encI .u64) x1)))), (5, some (.i s_))] [] 1000) b26 (Gives.mkR [] (.e rfl rfl) .n rfl rfl rfl) ?_; rintro v9 s_ hr; have h : lombardref01_Compare.b0 x0 x1 v9 = some s_ := hr; unfold lombardref01_Compare.b0 at h; (iterate 2 refine W.seq ?_); refine W.pk ?_; refine .m rfl rfl rfl rfl ?_; refine .v rfl rfl (OpL.binI rfl rfl rfl rfl) ?_; refine .nil ?_; refine W.cond rfl (fun q28 => ?_) (fun q28 => ?_)
   ·have h := ifT q28 h; refine W.skip ?_; refine W.seq ?_; refine W.block ?_; (iterate 2 refine W.seq ?_); obtain ⟨c29, h⟩ := chk h; obtain ⟨c30, h⟩ := chk h; refine W.dk (unm 9 [0, 0, 3, 7, 0, 0, 48, 112, 255]) rfl (by kernel_rfl) ?_; (iterate 2 refine .m rfl rfl rfl rfl ?_); refine .v rfl rfl (O.idx sl96 c29 rfl rfl rfl) ?_; refine .v rfl rfl (O.ld (y := .imm (.val (.int .u64 (nth x0 v9)))) ty102 rfl rfl rfl) ?_; (iterate 2 refine .m rfl rfl rfl rfl ?_); refine .v rfl rfl (O.idx sl96 c30 rfl rfl rfl) ?_; refine .v rfl rfl (O.ld (y := .imm (.val (.int .u64 (nth x1 v9)))) ty102 rfl rfl rfl) ?_; refine .v rfl rfl (OpL.binI rfl rfl rfl rfl) ?_; refine .nil ?_; refine ⟨by kernel_rfl, by kernel_rfl, ?_⟩; refine W.cond rfl (fun q31 => ?_) (fun q31 => ?_)
    ·have h := ifT q31 h; refine W.seq ?_; refine W.pk ?_; refine .a rfl rfl rfl rfl ?_; refine .nil ?_; refine W.ret ?_; cases h; refine rdR fun e_ => ?_; subst e_; have h := z27; dsimp only at h; refine fkR ?_; cases h; exact leaves (.inr rfl) rfl (.imm _) (cN (cN .nil)) rfl rfl
    ·have h := ifF q31 h; refine W.skip ?_; refine W.seq ?_; obtain ⟨c32, h⟩ := chk h; obtain ⟨c33, h⟩ := chk h; refine W.dk (unm 9 [0, 0, 3, 7, 0, 0, 48, 112, 255]) rfl (by kernel_rfl) ?_; (iterate 2 refine .m rfl rfl rfl rfl ?_); refine .v rfl rfl (O.idx sl96 c32 rfl rfl rfl) ?_; refine .v rfl rfl (O.ld (y := .imm (.val (.int .u64 (nth x0 v9)))) ty102 rfl rfl rfl) ?_; (iterate 2 refine .m rfl rfl rfl rfl ?_); refine .v rfl rfl (O.idx sl96 c33 rfl rfl rfl) ?_; refine .v rfl rfl (O.ld (y := .imm (.val (.int .u64 (nth x1 v9)))) ty102 rfl rfl rfl) ?_; refine .v rfl rfl (OpL.binI rfl rfl rfl rfl) ?_; refine .nil ?_; refine ⟨by kernel_rfl, by kernel_rfl, ?_⟩; refine W.cond rfl (fun q34 => ?_) (fun q34 => ?_)
     ·have h := ifT q34 h; refine W.seq ?_; refine W.pk ?_; refine .a rfl rfl rfl rfl ?_; refine .nil ?_; refine W.ret ?_; cases h; refine rdR fun e_ => ?_; subst e_; have h := z27; dsimp only at h; refine fkR ?_; cases h; exact leaves (.inr rfl) rfl (.imm _) (cN (cN .nil)) rfl rfl
     ·have h := ifF q34 h; refine W.skip ?_; refine W.pk ?_; refine .m rfl rfl rfl rfl ?_; refine .v rfl rfl (OpL.binI rfl rfl rfl rfl) ?_; refine .a rfl rfl rfl rfl ?_; refine .nil ?_; cases h; exact rdN (Gives.mkR [] (.e rfl rfl) .n rfl rfl rfl)
   ·have h := ifF q28 h; refine W.exit ?_; cases h; refine rdX fun e_ => ?_; subst e_; (repeat with_reducible refine thru ?_); refine hit ?_; exact fkN (Gives.mkR [] .n .n rfl rfl rfl)
  ·intro w24 e_; subst e_; clear h; have h := z27; dsimp only at h; refine W.seq ?_; refine W.pk ?_; refine .a rfl rfl rfl rfl ?_; refine .nil ?_; refine W.ret ?_; cases h; exact leaves (.inr rfl) rfl (.imm _) (cN (cN .nil)) rfl rfl

noncomputable def lombardref01_Sub.b0 (x0 : List Int) (x1 : List Int) (v23 : Int) (v24 : Int) (v25 : List Int) : Option ((Int × Int × (List Int)) ⊕ (List Int)) :=
  if (decide (v24 < (List.length x0 : Int))) = true then
    if (0 : Int) ≤ v24 ∧ v24 < (List.length x0 : Int) then
    ((
      if (decide (v24 < (List.length x1 : Int))) = true then
        if (0 : Int) ≤ v24 ∧ v24 < (List.length x1 : Int) then
        some (IntKind.wrap .u64 ((IntKind.wrap .u64 ((IntKind.wrap .u64 ((nth x0 v24) + 65536)) - v23)) - (nth x1 v24)))
        else none
      else
        some (IntKind.wrap .u64 ((IntKind.wrap .u64 ((nth x0 v24) + 65536)) - v23)) : Option (Int))).bind fun o55 =>
    if (List.length v25 + List.length [(Int.tmod o55 65536)]) * 8 ≤ 140737488355328 then
    some (.inl ((IntKind.wrap .u64 (1 - (IntKind.wrap .u64 (Int.tdiv o55 65536)))), (IntKind.wrap .i64 (v24 + 1)), (v25 ++ [(Int.tmod o55 65536)])))
    else none
    else none
  else
    some (.inr v25)
noncomputable def lombardref01_Sub.r0 (x0 : List Int) (x1 : List Int) (s : Int × Int × (List Int)) : Option ((Int × Int × (List Int)) ⊕ (List Int)) := lombardref01_Sub.b0 x0 x1 s.1 s.2.1 s.2.2
noncomputable def lombardref01_Sub.f (x0 : List Int) (x1 : List Int) : Option (List Int) :=
  (loop (lombardref01_Sub.r0 x0 x1) (0, 0, [])).bind fun o47 =>
  (lombardref01_trim.f o47).bind fun t60 =>
  some t60
set_option maxRecDepth 100000 in
set_option maxHeartbeats 4000000 in
theorem lombardref01_Sub.ok {x0 : List Int} {x1 : List Int} {r : List Int} (h : lombardref01_Sub.f x0 x1 = some r) : Pm.Spec prog 82 [.imm (.row 1 (List.map (encI .u64) x0)), .imm (.row 1 (List.map (encI .u64) x1))] (.imm (.row 1 (List.map (encI .u64) r))) [none, none] := by
 unfold lombardref01_Sub.f at h; refine Pm.Spec.of_body Try.func82 rfl (by kernel_rfl) (Nat.le_of_ble_eq_true rfl) (Nat.le_of_ble_eq_true rfl) ?_; refine W.ghost (σ' := (mkSt [(0, some (.imm (.row 1 (List.map (encI .u64) x0)))), (1, some (.imm (.row 1 (List.map (encI .u64) x1))))] [] 1000)) (Gives.entry (.c rfl (.c rfl .n)) .n) ?_; refine W.seq ?_; refine W.pk ?_; refine .a rfl rfl rfl rfl ?_; refine .nil ?_; refine W.seq ?_; refine W.pk ?_; refine .a rfl rfl rfl rfl ?_; refine .nil ?_; refine W.seq ?_; refine W.pk ?_; refine .a rfl rfl rfl rfl ?_; refine .nil ?_; (iterate 2 refine W.seq ?_); refine W.pk ?_; refine .a rfl rfl rfl rfl ?_; refine .nil ?_; refine W.ghost (Gives.mintS 5 102 1 rfl) ?_; obtain ⟨o47, b48, h⟩ := bnd1 h; refine W.fork (mkSt [(5, some (.own 1000))] [(1000, some (.rows 102 1 (List.map (encI .u64) o47) false))] 1001) ?_ ?_
 ·refine W.seq ?_; obtain ⟨t60, b61, h⟩ := bnd1 h; refine W.pk ?_; refine .m rfl rfl rfl rfl ?_; refine .call (.imm (.row 1 (List.map (encI .u64) t60))) [(1000, none)] 0 (lombardref01_trim.ok b61) rfl rfl rfl ca81 rfl rfl (cC (.own _ _ _ _ rfl) .nil) rfl rfl rfl rfl rfl ?_; refine .a rfl rfl rfl rfl ?_; refine .nil ?_; refine W.ret ?_; cases h; exact leaves (.inr rfl) rfl (.imm _) (cN (cN .nil)) rfl rfl
 ·clear h; refine W.block ?_; refine W.loopF (fun (s_ : Int × Int × (List Int)) => mkSt [(0, some (.imm (.row 1 (List.map (encI .u64) x0)))), (1, some (.imm (.row 1 (List.map (encI .u64) x1)))), (5, some (.own 1000)), (6, some (.imm (.val (.int .u64 s_.1)))), (7, some (.i s_.2.1))] [(1000, some (.rows 102 1 (List.map (encI .u64) s_.2.2) false))] 1001) b48 (Gives.mkR [] (.e rfl rfl) (.r rfl rfl rfl .n) rfl rfl rfl) ?_; rintro ⟨v23, v24, v25⟩ s_ hr; have h : lombardref01_Sub.b0 x0 x1 v23 v24 v25 = some s_ := hr; unfold lombardref01_Sub.b0 at h; (iterate 2 refine W.seq ?_); refine W.pk ?_; (iterate 2 refine .m rfl rfl rfl rfl ?_); refine .v rfl rfl (O.lenR sl96 rfl rfl) ?_; refine .v rfl rfl (OpL.binI rfl rfl rfl rfl) ?_; refine .nil ?_; refine W.cond rfl (fun q50 => ?_) (fun q50 => ?_)
  ·have h := ifT q50 h; refine W.skip ?_; refine W.seq ?_; refine W.block ?_; refine W.seq ?_; obtain ⟨c51, h⟩ := chk h; refine W.pk ?_; (iterate 2 refine .m rfl rfl rfl rfl ?_); refine .v rfl rfl (O.idx sl96 c51 rfl rfl rfl) ?_; refine .v rfl rfl (O.ld (y := .imm (.val (.int .u64 (nth x0 v24)))) ty102 rfl rfl rfl) ?_; refine .v rfl rfl (OpL.binI rfl rfl rfl rfl) ?_; refine .m rfl rfl rfl rfl ?_; refine .v rfl rfl (OpL.binI rfl rfl rfl rfl) ?_; refine .a rfl rfl rfl rfl ?_; refine .nil ?_; (iterate 2 refine W.seq ?_); refine W.pk ?_; (iterate 2 refine .m rfl rfl rfl rfl ?_); refine .v rfl rfl (O.lenR sl96 rfl rfl) ?_; refine .v rfl rfl (OpL.binI rfl rfl rfl rfl) ?_; refine .nil ?_; obtain ⟨o55, b56, h⟩ := bnd1 h; refine W.fork (mkSt [(0, some (.imm (.row 1 (List.map (encI .u64) x0)))), (1, some (.imm (.row 1 (List.map (encI .u64) x1)))), (5, some (.own 1000)), (7, some (.i v24)), (8, some (.imm (.val (.int .u64 o55))))] [(1000, some (.rows 102 1 (List.map (encI .u64) v25) false))] 1001) ?_ ?_
   ·refine W.seq ?_; obtain ⟨c59, h⟩ := chk h; refine W.pk ?_; (iterate 2 refine .m rfl rfl rfl rfl ?_); refine .v rfl rfl (O.rem rfl rfl rfl (by decide)) ?_; refine .t rfl rfl (O.lit (enc := (encI .u64)) (l := [(Int.tmod o55 65536)]) sl96 rfl rfl rfl rfl rfl rfl rfl rfl rfl) ?_; refine .t rfl rfl (O.appO sl96 (EncOk.int .u64) c59 rfl rfl rfl rfl rfl) ?_; refine .a rfl rfl rfl rfl ?_; refine .nil ?_; refine W.pk ?_; refine .m rfl rfl rfl rfl ?_; refine .v rfl rfl (O.quo rfl rfl rfl (by decide)) ?_; refine .v rfl rfl (OpL.binI rfl rfl rfl rfl) ?_; refine .a rfl rfl rfl rfl ?_; refine .nil ?_; refine W.pk ?_; refine .m rfl rfl rfl rfl ?_; refine .v rfl rfl (OpL.binI rfl rfl rfl rfl) ?_; refine .a rfl rfl rfl rfl ?_; refine .nil ?_; cases h; exact rdN (Gives.mkR [(1000, 1002)] (.e rfl rfl) (.r rfl rfl rfl .n) rfl rfl rfl)
   ·clear h; have h := b56; refine W.cond rfl (fun q57 => ?_) (fun q57 => ?_)
    ·have h := ifT q57 h; obtain ⟨c58, h⟩ := chk h; refine W.pk ?_; (iterate 3 refine .m rfl rfl rfl rfl ?_); refine .v rfl rfl (O.idx sl96 c58 rfl rfl rfl) ?_; refine .v rfl rfl (O.ld (y := .imm (.val (.int .u64 (nth x1 v24)))) ty102 rfl rfl rfl) ?_; refine .v rfl rfl (OpL.binI rfl rfl rfl rfl) ?_; refine .a rfl rfl rfl rfl ?_; refine .nil ?_; cases h; exact toN (Gives.mkR [] (.e rfl rfl) (.r rfl rfl rfl .n) rfl rfl rfl)
    ·have h := ifF q57 h; refine W.skip ?_; cases h; exact toN (Gives.mkR [] (.e rfl rfl) (.r rfl rfl rfl .n) rfl rfl rfl)
  ·have h := ifF q50 h; refine W.exit ?_; cases h; refine rdX fun e_ => ?_; subst e_; (repeat with_reducible refine thru ?_); refine hit ?_; exact toN (Gives.mkR [] (.r rfl rfl .n) (.r rfl rfl rfl .n) rfl rfl rfl)

noncomputable def lombardref01_Div.b1 (x1 : List Int) (t162 : List Int) (v172 : Int) (v173 : Int) : Option ((Int × Int) ⊕ Int) :=
  if (decide ((IntKind.wrap .u64 (v173 - v172)) > 1)) = true then
    (lombardref01_Of.f (IntKind.wrap .u64 (Int.tdiv (IntKind.wrap .u64 (v172 + v173)) 2))).bind fun t195 =>
    (lombardref01_Mul.f t195 x1).bind fun t197 =>
    (lombardref01_Compare.f t197 t162).bind fun t199 =>
    if (decide (t199 ≤ 0)) = true then
      some (.inl ((IntKind.wrap .u64 (Int.tdiv (IntKind.wrap .u64 (v172 + v173)) 2)), v173))
    else
      some (.inl (v172, (IntKind.wrap .u64 (Int.tdiv (IntKind.wrap .u64 (v172 + v173)) 2))))
  else
    some (.inr v172)
noncomputable def lombardref01_Div.r1 (x1 : List Int) (t162 : List Int) (s : Int × Int) : Option ((Int × Int) ⊕ Int) := lombardref01_Div.b1 x1 t162 s.1 s.2
noncomputable def lombardref01_Div.b0 (x0 : List Int) (x1 : List Int) (v52 : List Int) (v53 : Int) (v54 : List Int) : Option (((List Int) × Int × (List Int)) ⊕ ((List Int) × (List Int))) :=
  if (decide (v53 ≥ 0)) = true then
    if (0 : Int) ≤ v53 ∧ v53 < (List.length x0 : Int) then
    if (List.length [(nth x0 v53)] + List.length v52) * 8 ≤ 140737488355328 then
    (lombardref01_trim.f ([(nth x0 v53)] ++ v52)).bind fun t162 =>
    (loop (lombardref01_Div.r1 x1 t162) (0, 65536)).bind fun o191 =>
    if (0 : Int) ≤ v53 ∧ v53 < (List.length v54 : Int) then
    (lombardref01_Of.f o191).bind fun t203 =>
    (lombardref01_Mul.f t203 x1).bind fun t205 =>
    (lombardref01_Sub.f t162 t205).bind fun t207 =>
    some (.inl (t207, (IntKind.wrap .i64 (v53 - 1)), (List.set v54 (Int.toNat v53) o191)))
    else none
    else none
    else none
  else
    some (.inr (v52, v54))
noncomputable def lombardref01_Div.r0 (x0 : List Int) (x1 : List Int) (s : (List Int) × Int × (List Int)) : Option (((List Int) × Int × (List Int)) ⊕ ((List Int) × (List Int))) := lombardref01_Div.b0 x0 x1 s.1 s.2.1 s.2.2
noncomputable def lombardref01_Div.f (x0 : List Int) (x1 : List Int) : Option ((List Int) × (List Int)) :=
  if (0 : Int) ≤ (List.length x0 : Int) ∧ (List.length x0 : Int) ≤ (List.length x0 : Int) ∧ (8 : Int) * (List.length x0 : Int) ≤ 281474976710656 then
  (loop (lombardref01_Div.r0 x0 x1) ([], (IntKind.wrap .i64 ((List.length x0 : Int) - 1)), (List.replicate (Int.toNat (List.length x0 : Int)) (0 : Int)))).bind fun o156 =>
  (lombardref01_trim.f o156.2).bind fun t209 =>
  some (t209, o156.1)
  else none
set_option maxRecDepth 100000 in
set_option maxHeartbeats 4000000 in
theorem lombardref01_Div.ok {x0 : List Int} {x1 : List Int} {r : (List Int) × (List Int)} (h : lombardref01_Div.f x0 x1 = some r) : Pm.Spec prog 70 [.imm (.row 1 (List.map (encI .u64) x0)), .xown 102 1 (List.map (encI .u64) x1)] (.tup [.imm (.row 1 (List.map (encI .u64) r.1)), .imm (.row 1 (List.map (encI .u64) r.2))]) [none, some (.xown 102 1 (List.map (encI .u64) x1))] := by
 unfold lombardref01_Div.f at h; refine Pm.Spec.of_body Try.func70 rfl (by kernel_rfl) (Nat.le_of_ble_eq_true rfl) (Nat.le_of_ble_eq_true rfl) ?_; refine W.ghost (σ' := (mkSt [(0, some (.imm (.row 1 (List.map (encI .u64) x0)))), (1, some (.own 0))] [(0, some (.rows 102 1 (List.map (encI .u64) x1) false))] 1000)) (Gives.entry (.c rfl (.c rfl .n)) (.c rfl .n)) ?_; refine W.seq ?_; refine W.pk ?_; (iterate 2 refine .a rfl rfl rfl rfl ?_); refine .nil ?_; refine W.seq ?_; obtain ⟨c1, h⟩ := chk h; refine W.pk ?_; refine .m rfl rfl rfl rfl ?_; refine .v rfl rfl (O.lenR sl96 rfl rfl) ?_; refine .t rfl rfl (O.make (enc := (encI .u64)) (z := (0 : Int)) sl96 c1 rfl rfl rfl rfl rfl) ?_; refine .a rfl rfl rfl rfl ?_; refine .nil ?_; refine W.seq ?_; refine W.pk ?_; refine .a rfl rfl rfl rfl ?_; refine .nil ?_; (iterate 2 refine W.seq ?_); refine W.pk ?_; refine .m rfl rfl rfl rfl ?_; refine .v rfl rfl (O.lenR sl96 rfl rfl) ?_; refine .v rfl rfl (OpL.binI rfl rfl rfl rfl) ?_; refine .a rfl rfl rfl rfl ?_; refine .nil ?_; obtain ⟨o156, b157, h⟩ := bnd1 h; refine W.fork (mkSt [(6, some (.own 1000)), (7, some (.imm (.row 1 (List.map (encI .u64) o156.1))))] [(0, some (.rows 102 1 (List.map (encI .u64) x1) false)), (1000, some (.rows 102 1 (List.map (encI .u64) o156.2) false))] 1001) ?_ ?_
 ·refine W.seq ?_; obtain ⟨t209, b210, h⟩ := bnd1 h; refine W.pk ?_; refine .m rfl rfl rfl rfl ?_; refine .call (.imm (.row 1 (List.map (encI .u64) t209))) [(1000, none)] 0 (lombardref01_trim.ok b210) rfl rfl rfl ca81 rfl rfl (cC (.own _ _ _ _ rfl) .nil) rfl rfl rfl rfl rfl ?_; refine .m rfl rfl rfl rfl ?_; (iterate 2 refine .a rfl rfl rfl rfl ?_); refine .nil ?_; refine W.ret ?_; cases h; exact leaves (.inr rfl) rfl (.tup _ _ _ _ (cC (.imm _) (cC (.imm _) .nil))) (cN (cS (.own _ _ _ _ rfl) .nil)) rfl rfl
 ·clear h; refine W.block ?_; refine W.loopF (fun (s_ : (List Int) × Int × (List Int)) => mkSt [(0, some (.imm (.row 1 (List.map (encI .u64) x0)))), (1, some (.own 0)), (6, some (.own 1000)), (7, some (.imm (.row 1 (List.map (encI .u64) s_.1)))), (8, some (.i s_.2.1))] [(0, some (.rows 102 1 (List.map (encI .u64) x1) false)), (1000, some (.rows 102 1 (List.map (encI .u64) s_.2.2) false))] 1001) b157 (Gives.mkR [] (.r rfl rfl (.r rfl rfl (.r rfl rfl (.c rfl (.nil _) rfl (.r rfl rfl .n))))) (.e rfl rfl) rfl rfl rfl) ?_; rintro ⟨v52, v53, v54⟩ s_ hr; have h : lombardref01_Div.b0 x0 x1 v52 v53 v54 = some s_ := hr; unfold lombardref01_Div.b0 at h; (iterate 2 refine W.seq ?_); refine W.pk ?_; refine .m rfl rfl rfl rfl ?_; refine .v rfl rfl (OpL.binI rfl rfl rfl rfl) ?_; refine .nil ?_; refine W.cond rfl (fun q159 => ?_) (fun q159 => ?_)
  ·have h := ifT q159 h; refine W.skip ?_; refine W.seq ?_; refine W.block ?_; refine W.seq ?_; obtain ⟨c160, h⟩ := chk h; obtain ⟨c161, h⟩ := chk h; obtain ⟨t162, b163, h⟩ := bnd1 h; refine W.pk ?_; (iterate 2 refine .m rfl rfl rfl rfl ?_); refine .v rfl rfl (O.idx sl96 c160 rfl rfl rfl) ?_; refine .v rfl rfl (O.ld (y := .imm (.val (.int .u64 (nth x0 v53)))) ty102 rfl rfl rfl) ?_; refine .t rfl rfl (O.lit (enc := (encI .u64)) (l := [(nth x0 v53)]) sl96 rfl rfl rfl rfl rfl rfl rfl rfl rfl) ?_; refine .m rfl rfl rfl rfl ?_; refine .t rfl rfl (O.app sl96 (EncOk.int .u64) c161 rfl rfl rfl rfl) ?_; refine .call (.imm (.row 1 (List.map (encI .u64) t162))) [(1002, none)] 0 (lombardref01_trim.ok b163) rfl rfl rfl ca81 rfl rfl (cC (.own _ _ _ _ rfl) .nil) rfl rfl rfl rfl rfl ?_; refine .a rfl rfl rfl rfl ?_; refine .nil ?_; refine W.seq ?_; refine W.pk ?_; (iterate 2 refine .a rfl rfl rfl rfl ?_); refine .nil ?_; refine W.seq ?_; obtain ⟨o191, b192, h⟩ := bnd1 h; refine W.fork (mkSt [(0, some (.imm (.row 1 (List.map (encI .u64) x0)))), (1, some (.own 0)), (6, some (.own 1000)), (7, some (.imm (.row 1 (List.map (encI .u64) t162)))), (8, some (.i v53)), (9, some (.imm (.val (.int .u64 o191))))] [(0, some (.rows 102 1 (List.map (encI .u64) x1) false)), (1000, some (.rows 102 1 (List.map (encI .u64) v54) false))] 1003) ?_ ?_
   ·refine W.seq ?_; obtain ⟨c202, h⟩ := chk h; refine W.pk ?_; (iterate 3 refine .m rfl rfl rfl rfl ?_); refine .v rfl rfl (O.idxO sl96 c202 rfl rfl rfl rfl) ?_; refine .s rfl rfl (O.stE (x' := o191) ty102 c202 rfl rfl rfl rfl rfl rfl rfl rfl rfl rfl rfl) ?_; refine .nil ?_; obtain ⟨t203, b204, h⟩ := bnd1 h; obtain ⟨t205, b206, h⟩ := bnd1 h; obtain ⟨t207, b208, h⟩ := bnd1 h; refine W.pk ?_; (iterate 2 refine .m rfl rfl rfl rfl ?_); refine .call (.own 1003) [(1003, some (.rows 102 1 (List.map (encI .u64) t203) false))] 1 (lombardref01_Of.ok b204) rfl rfl rfl ca75 rfl rfl (cC (.imm _) .nil) rfl rfl rfl rfl rfl ?_; refine .m rfl rfl rfl rfl ?_; refine .call (.imm (.row 1 (List.map (encI .u64) t205))) [(1003, some (.rows 102 1 (List.map (encI .u64) t203) false)), (0, some (.rows 102 1 (List.map (encI .u64) x1) false)), (1003, none), (0, none)] 0 (lombardref01_Mul.ok b206) rfl rfl rfl ca71 rfl rfl (cC (.own _ _ _ _ rfl) (cC (.own _ _ _ _ rfl) .nil)) rfl rfl rfl rfl rfl ?_; refine .call (.imm (.row 1 (List.map (encI .u64) t207))) [] 0 (lombardref01_Sub.ok b208) rfl rfl rfl ca82 rfl rfl (cC (.imm _) (cC (.imm _) .nil)) rfl rfl rfl rfl rfl ?_; refine .a rfl rfl rfl rfl ?_; refine .nil ?_; refine W.pk ?_; refine .m rfl rfl rfl rfl ?_; refine .v rfl rfl (OpL.binI rfl rfl rfl rfl) ?_; refine .a rfl rfl rfl rfl ?_; refine .nil ?_; cases h; exact rdN (Gives.mkR [] (.e rfl rfl) (.e rfl rfl) rfl rfl rfl)
   ·clear h; refine W.block ?_; refine W.loopF (fun (s_ : Int × Int) => mkSt [(0, some (.imm (.row 1 (List.map (encI .u64) x0)))), (1, some (.own 0)), (6, some (.own 1000)), (7, some (.imm (.row 1 (List.map (encI .u64) t162)))), (8, some (.i v53)), (9, some (.imm (.val (.int .u64 s_.1)))), (10, some (.imm (.val (.int .u64 s_.2))))] [(0, some (.rows 102 1 (List.map (encI .u64) x1) false)), (1000, some (.rows 102 1 (List.map (encI .u64) v54) false))] 1003) b192 (Gives.mkR [] (.e rfl rfl) (.e rfl rfl) rfl rfl rfl) ?_; rintro ⟨v172, v173⟩ s_ hr; have h : lombardref01_Div.b1 x1 t162 v172 v173 = some s_ := hr; unfold lombardref01_Div.b1 at h; (iterate 2 refine W.seq ?_); refine W.pk ?_; (iterate 2 refine .m rfl rfl rfl rfl ?_); (iterate 2 refine .v rfl rfl (OpL.binI rfl rfl rfl rfl) ?_); refine .nil ?_; refine W.cond rfl (fun q194 => ?_) (fun q194 => ?_)
    ·have h := ifT q194 h; refine W.skip ?_; refine W.block ?_; refine W.seq ?_; refine W.pk ?_; (iterate 2 refine .m rfl rfl rfl rfl ?_); refine .v rfl rfl (OpL.binI rfl rfl rfl rfl) ?_; refine .v rfl rfl (O.quo rfl rfl rfl (by decide)) ?_; refine .a rfl rfl rfl rfl ?_; refine .nil ?_; refine W.seq ?_; obtain ⟨t195, b196, h⟩ := bnd1 h; obtain ⟨t197, b198, h⟩ := bnd1 h; obtain ⟨t199, b200, h⟩ := bnd1 h; refine W.pk ?_; refine .m rfl rfl rfl rfl ?_; refine .call (.own 1003) [(1003, some (.rows 102 1 (List.map (encI .u64) t195) false))] 1 (lombardref01_Of.ok b196) rfl rfl rfl ca75 rfl rfl (cC (.imm _) .nil) rfl rfl rfl rfl rfl ?_; refine .m rfl rfl rfl rfl ?_; refine .call (.imm (.row 1 (List.map (encI .u64) t197))) [(1003, some (.rows 102 1 (List.map (encI .u64) t195) false)), (0, some (.rows 102 1 (List.map (encI .u64) x1) false)), (1003, none), (0, none)] 0 (lombardref01_Mul.ok b198) rfl rfl rfl ca71 rfl rfl (cC (.own _ _ _ _ rfl) (cC (.own _ _ _ _ rfl) .nil)) rfl rfl rfl rfl rfl ?_; refine .m rfl rfl rfl rfl ?_; refine .call (.i t199) [] 0 (lombardref01_Compare.ok b200) rfl rfl rfl ca73 rfl rfl (cC (.imm _) (cC (.imm _) .nil)) rfl rfl rfl rfl rfl ?_; refine .v rfl rfl (OpL.binI rfl rfl rfl rfl) ?_; refine .nil ?_; refine W.cond rfl (fun q201 => ?_) (fun q201 => ?_)
     ·have h := ifT q201 h; refine W.pk ?_; refine .m rfl rfl rfl rfl ?_; refine .a rfl rfl rfl rfl ?_; refine .nil ?_; cases h; exact rdN (Gives.mkR [] (.e rfl rfl) (.e rfl rfl) rfl rfl rfl)
     ·have h := ifF q201 h; refine W.pk ?_; refine .m rfl rfl rfl rfl ?_; refine .a rfl rfl rfl rfl ?_; refine .nil ?_; cases h; exact rdN (Gives.mkR [] (.e rfl rfl) (.e rfl rfl) rfl rfl rfl)
    ·have h := ifF q194 h; refine W.exit ?_; cases h; refine rdX fun e_ => ?_; subst e_; (repeat with_reducible refine thru ?_); refine hit ?_; exact toN (Gives.mkR [] (.e rfl rfl) (.e rfl rfl) rfl rfl rfl)
  ·have h := ifF q159 h; refine W.exit ?_; cases h; refine rdX fun e_ => ?_; subst e_; (repeat with_reducible refine thru ?_); refine hit ?_; exact toN (Gives.mkR [] (.e rfl rfl) (.e rfl rfl) rfl rfl rfl)

noncomputable def lombardref01_Add.b0 (x0 : List Int) (x1 : List Int) (v39 : Int) (v40 : Int) (v41 : List Int) : Option ((Int × Int × (List Int)) ⊕ (List Int)) :=
  if (((decide (v40 < (List.length x0 : Int))) || (decide (v40 < (List.length x1 : Int)))) || (decide (v39 > 0))) = true then
    ((
      if (decide (v40 < (List.length x0 : Int))) = true then
        if (0 : Int) ≤ v40 ∧ v40 < (List.length x0 : Int) then
        some (IntKind.wrap .u64 (v39 + (nth x0 v40)))
        else none
      else
        some v39 : Option (Int))).bind fun o88 =>
    ((
      if (decide (v40 < (List.length x1 : Int))) = true then
        if (0 : Int) ≤ v40 ∧ v40 < (List.length x1 : Int) then
        some (IntKind.wrap .u64 (o88 + (nth x1 v40)))
        else none
      else
        some o88 : Option (Int))).bind fun o95 =>
    if (List.length v41 + List.length [(Int.tmod o95 65536)]) * 8 ≤ 140737488355328 then
    some (.inl ((IntKind.wrap .u64 (Int.tdiv o95 65536)), (IntKind.wrap .i64 (v40 + 1)), (v41 ++ [(Int.tmod o95 65536)])))
    else none
  else
    some (.inr v41)
noncomputable def lombardref01_Add.r0 (x0 : List Int) (x1 : List Int) (s : Int × Int × (List Int)) : Option ((Int × Int × (List Int)) ⊕ (List Int)) := lombardref01_Add.b0 x0 x1 s.1 s.2.1 s.2.2
noncomputable def lombardref01_Add.f (x0 : List Int) (x1 : List Int) : Option (List Int) :=
  (loop (lombardref01_Add.r0 x0 x1) (0, 0, [])).bind fun o79 =>
  (lombardref01_trim.f o79).bind fun t100 =>
  some t100
set_option maxRecDepth 100000 in
set_option maxHeartbeats 4000000 in
theorem lombardref01_Add.ok {x0 : List Int} {x1 : List Int} {r : List Int} (h : lombardref01_Add.f x0 x1 = some r) : Pm.Spec prog 74 [.imm (.row 1 (List.map (encI .u64) x0)), .imm (.row 1 (List.map (encI .u64) x1))] (.imm (.row 1 (List.map (encI .u64) r))) [none, none] := by
 unfold lombardref01_Add.f at h; refine Pm.Spec.of_body Try.func74 rfl (by kernel_rfl) (Nat.le_of_ble_eq_true rfl) (Nat.le_of_ble_eq_true rfl) ?_; refine W.ghost (σ' := (mkSt [(0, some (.imm (.row 1 (List.map (encI .u64) x0)))), (1, some (.imm (.row 1 (List.map (encI .u64) x1))))] [] 1000)) (Gives.entry (.c rfl (.c rfl .n)) .n) ?_; refine W.seq ?_; refine W.pk ?_; refine .a rfl rfl rfl rfl ?_; refine .nil ?_; refine W.seq ?_; refine W.pk ?_; refine .a rfl rfl rfl rfl ?_; refine .nil ?_; refine W.seq ?_; refine W.pk ?_; refine .a rfl rfl rfl rfl ?_; refine .nil ?_; (iterate 2 refine W.seq ?_); refine W.pk ?_; refine .a rfl rfl rfl rfl ?_; refine .nil ?_; refine W.ghost (Gives.mintS 5 102 1 rfl) ?_; obtain ⟨o79, b80, h⟩ := bnd1 h; refine W.fork (mkSt [(5, some (.own 1000))] [(1000, some (.rows 102 1 (List.map (encI .u64) o79) false))] 1001) ?_ ?_
 ·refine W.seq ?_; obtain ⟨t100, b101, h⟩ := bnd1 h; refine W.pk ?_; refine .m rfl rfl rfl rfl ?_; refine .call (.imm (.row 1 (List.map (encI .u64) t100))) [(1000, none)] 0 (lombardref01_trim.ok b101) rfl rfl rfl ca81 rfl rfl (cC (.own _ _ _ _ rfl) .nil) rfl rfl rfl rfl rfl ?_; refine .a rfl rfl rfl rfl ?_; refine .nil ?_; refine W.ret ?_; cases h; exact leaves (.inr rfl) rfl (.imm _) (cN (cN .nil)) rfl rfl
 ·clear h; refine W.block ?_; refine W.loopF (fun (s_ : Int × Int × (List Int)) => mkSt [(0, some (.imm (.row 1 (List.map (encI .u64) x0)))), (1, some (.imm (.row 1 (List.map (encI .u64) x1)))), (5, some (.own 1000)), (6, some (.imm (.val (.int .u64 s_.1)))), (7, some (.i s_.2.1))] [(1000, some (.rows 102 1 (List.map (encI .u64) s_.2.2) false))] 1001) b80 (Gives.mkR [] (.e rfl rfl) (.r rfl rfl rfl .n) rfl rfl rfl) ?_; rintro ⟨v39, v40, v41⟩ s_ hr; have h : lombardref01_Add.b0 x0 x1 v39 v40 v41 = some s_ := hr; unfold lombardref01_Add.b0 at h; (iterate 2 refine W.seq ?_); refine W.fork (mkSt [(0, some (.imm (.row 1 (List.map (encI .u64) x0)))), (1, some (.imm (.row 1 (List.map (encI .u64) x1)))), (5, some (.own 1000)), (6, some (.imm (.val (.int .u64 v39)))), (7, some (.i v40)), (22, some (.b (((decide (v40 < (List.length x0 : Int))) || (decide (v40 < (List.length x1 : Int)))) || (decide (v39 > 0)))))] [(1000, some (.rows 102 1 (List.map (encI .u64) v41) false))] 1001) ?_ ?_
  ·refine W.cond rfl (fun q84 => ?_) (fun q84 => ?_)
   ·have h := ifT q84 h; refine W.skip ?_; refine W.seq ?_; refine W.block ?_; refine W.seq ?_; refine W.pk ?_; refine .m rfl rfl rfl rfl ?_; refine .a rfl rfl rfl rfl ?_; refine .nil ?_; (iterate 2 refine W.seq ?_); refine W.pk ?_; (iterate 2 refine .m rfl rfl rfl rfl ?_); refine .v rfl rfl (O.lenR sl96 rfl rfl) ?_; refine .v rfl rfl (OpL.binI rfl rfl rfl rfl) ?_; refine .nil ?_; obtain ⟨o88, b89, h⟩ := bnd1 h; refine W.fork (mkSt [(0, some (.imm (.row 1 (List.map (encI .u64) x0)))), (1, some (.imm (.row 1 (List.map (encI .u64) x1)))), (5, some (.own 1000)), (7, some (.i v40)), (8, some (.imm (.val (.int .u64 o88))))] [(1000, some (.rows 102 1 (List.map (encI .u64) v41) false))] 1001) ?_ ?_
    ·(iterate 2 refine W.seq ?_); refine W.pk ?_; (iterate 2 refine .m rfl rfl rfl rfl ?_); refine .v rfl rfl (O.lenR sl96 rfl rfl) ?_; refine .v rfl rfl (OpL.binI rfl rfl rfl rfl) ?_; refine .nil ?_; obtain ⟨o95, b96, h⟩ := bnd1 h; refine W.fork (mkSt [(0, some (.imm (.row 1 (List.map (encI .u64) x0)))), (1, some (.imm (.row 1 (List.map (encI .u64) x1)))), (5, some (.own 1000)), (7, some (.i v40)), (8, some (.imm (.val (.int .u64 o95))))] [(1000, some (.rows 102 1 (List.map (encI .u64) v41) false))] 1001) ?_ ?_
     ·refine W.seq ?_; obtain ⟨c99, h⟩ := chk h; refine W.pk ?_; (iterate 2 refine .m rfl rfl rfl rfl ?_); refine .v rfl rfl (O.rem rfl rfl rfl (by decide)) ?_; refine .t rfl rfl (O.lit (enc := (encI .u64)) (l := [(Int.tmod o95 65536)]) sl96 rfl rfl rfl rfl rfl rfl rfl rfl rfl) ?_; refine .t rfl rfl (O.appO sl96 (EncOk.int .u64) c99 rfl rfl rfl rfl rfl) ?_; refine .a rfl rfl rfl rfl ?_; refine .nil ?_; refine W.pk ?_; refine .m rfl rfl rfl rfl ?_; refine .v rfl rfl (O.quo rfl rfl rfl (by decide)) ?_; refine .a rfl rfl rfl rfl ?_; refine .nil ?_; refine W.pk ?_; refine .m rfl rfl rfl rfl ?_; refine .v rfl rfl (OpL.binI rfl rfl rfl rfl) ?_; refine .a rfl rfl rfl rfl ?_; refine .nil ?_; cases h; exact rdN (Gives.mkR [(1000, 1002)] (.e rfl rfl) (.r rfl rfl rfl .n) rfl rfl rfl)
     ·clear h; have h := b96; refine W.cond rfl (fun q97 => ?_) (fun q97 => ?_)
      ·have h := ifT q97 h; obtain ⟨c98, h⟩ := chk h; refine W.pk ?_; (iterate 3 refine .m rfl rfl rfl rfl ?_); refine .v rfl rfl (O.idx sl96 c98 rfl rfl rfl) ?_; refine .v rfl rfl (O.ld (y := .imm (.val (.int .u64 (nth x1 v40)))) ty102 rfl rfl rfl) ?_; refine .v rfl rfl (OpL.binI rfl rfl rfl rfl) ?_; refine .a rfl rfl rfl rfl ?_; refine .nil ?_; cases h; exact toN (Gives.mkR [] (.e rfl rfl) (.r rfl rfl rfl .n) rfl rfl rfl)
      ·have h := ifF q97 h; refine W.skip ?_; cases h; exact toN (Gives.mkR [] (.e rfl rfl) (.r rfl rfl rfl .n) rfl rfl rfl)
    ·clear h; have h := b89; refine W.cond rfl (fun q90 => ?_) (fun q90 => ?_)
     ·have h := ifT q90 h; obtain ⟨c91, h⟩ := chk h; refine W.pk ?_; (iterate 3 refine .m rfl rfl rfl rfl ?_); refine .v rfl rfl (O.idx sl96 c91 rfl rfl rfl) ?_; refine .v rfl rfl (O.ld (y := .imm (.val (.int .u64 (nth x0 v40)))) ty102 rfl rfl rfl) ?_; refine .v rfl rfl (OpL.binI rfl rfl rfl rfl) ?_; refine .a rfl rfl rfl rfl ?_; refine .nil ?_; cases h; exact toN (Gives.mkR [] (.e rfl rfl) (.r rfl rfl rfl .n) rfl rfl rfl)
     ·have h := ifF q90 h; refine W.skip ?_; cases h; exact toN (Gives.mkR [] (.e rfl rfl) (.r rfl rfl rfl .n) rfl rfl rfl)
   ·have h := ifF q84 h; refine W.exit ?_; cases h; refine rdX fun e_ => ?_; subst e_; (repeat with_reducible refine thru ?_); refine hit ?_; exact toN (Gives.mkR [] (.r rfl rfl .n) (.r rfl rfl rfl .n) rfl rfl rfl)
  ·clear h; refine W.pk ?_; (iterate 2 refine .m rfl rfl rfl rfl ?_); refine .v rfl rfl (O.lenR sl96 rfl rfl) ?_; refine .v rfl rfl (OpL.binI rfl rfl rfl rfl) ?_; refine .m rfl rfl rfl rfl ?_; rcases tf (decide (v40 < (List.length x0 : Int))) with g82 | g82
   ·(iterate 4 refine .x rfl (unmet rfl rfl rfl g82) ?_); refine .v rfl rfl (O.pickT g82 rfl rfl rfl) ?_; refine .m rfl rfl rfl rfl ?_; (iterate 2 refine .x rfl (unmet rfl rfl rfl rfl) ?_); refine .v rfl rfl (O.pickT rfl rfl rfl rfl) ?_; refine .nil ?_; exact toN (Gives.mkR [] (.r rfl rfl (.r rfl rfl (.r rfl rfl (.r rfl rfl (.r rfl rfl (.c rfl (sbb (by simp only [g82, BL])) rfl .n)))))) (.r rfl rfl rfl .n) rfl rfl rfl)
   ·(iterate 2 refine .m rfl (met rfl rfl rfl g82) rfl rfl ?_); refine .v rfl (met rfl rfl rfl g82) (O.lenR sl96 rfl rfl) ?_; refine .v rfl (met rfl rfl rfl g82) (OpL.binI rfl rfl rfl rfl) ?_; refine .v rfl rfl (O.pickF g82 rfl rfl rfl) ?_; refine .m rfl rfl rfl rfl ?_; rcases tf (decide (v40 < (List.length x1 : Int))) with g83 | g83
    ·(iterate 2 refine .x rfl (unmet rfl rfl rfl g83) ?_); refine .v rfl rfl (O.pickT g83 rfl rfl rfl) ?_; refine .nil ?_; exact toN (Gives.mkR [] (.r rfl rfl (.r rfl rfl (.r rfl rfl (.r rfl rfl (.r rfl rfl (.c rfl (sbb (by first | (simp only [g82, g83, BL]; done) | (repeat (first | rw [g82] | rw [g83])) <;> simp only [BL])) rfl .n)))))) (.r rfl rfl rfl .n) rfl rfl rfl)
    ·refine .m rfl (met rfl rfl rfl g83) rfl rfl ?_; refine .v rfl (met rfl rfl rfl g83) (OpL.binI rfl rfl rfl rfl) ?_; refine .v rfl rfl (O.pickF g83 rfl rfl rfl) ?_; refine .nil ?_; exact toN (Gives.mkR [] (.r rfl rfl (.r rfl rfl (.r rfl rfl (.r rfl rfl (.r rfl rfl (.c rfl (sbb (by first | (simp only [g82, g83, BL]; done) | (repeat (first | rw [g82] | rw [g83])) <;> simp only [BL])) rfl .n)))))) (.r rfl rfl rfl .n) rfl rfl rfl)

set_option maxRecDepth 100000 in
set_option maxHeartbeats 4000000 in
theorem lombardref01_Compare_v2.ok {x0 : List Int} {x1 : List Int} {r : Int} (h : lombardref01_Compare.f x0 x1 = some r) : Pm.Spec prog 73 [.imm (.row 1 (List.map (encI .u64) x0)), .xown 102 1 (List.map (encI .u64) x1)] (.imm (.val (.int .i64 r))) [none, some (.xown 102 1 (List.map (encI .u64) x1))] := by
 unfold lombardref01_Compare.f at h; refine Pm.Spec.of_body Try.func73 rfl (by kernel_rfl) (Nat.le_of_ble_eq_true rfl) (Nat.le_of_ble_eq_true rfl) ?_; refine W.ghost (σ' := (mkSt [(0, some (.imm (.row 1 (List.map (encI .u64) x0)))), (1, some (.own 0))] [(0, some (.rows 102 1 (List.map (encI .u64) x1) false))] 1000)) (Gives.entry (.c rfl (.c rfl .n)) (.c rfl .n)) ?_; refine W.seq ?_; refine W.pk ?_; refine .a rfl rfl rfl rfl ?_; refine .nil ?_; (iterate 2 refine W.seq ?_); refine W.pk ?_; refine .m rfl rfl rfl rfl ?_; refine .v rfl rfl (O.lenR sl96 rfl rfl) ?_; refine .m rfl rfl rfl rfl ?_; refine .v rfl rfl (O.lenO sl96 rfl rfl rfl) ?_; refine .v rfl rfl (OpL.binI rfl rfl rfl rfl) ?_; refine .nil ?_; refine W.cond rfl (fun q1 => ?_) (fun q1 => ?_)
 ·have h := ifT q1 h; refine W.seq ?_; refine W.pk ?_; refine .m rfl rfl rfl rfl ?_; refine .v rfl rfl (O.lenR sl96 rfl rfl) ?_; refine .m rfl rfl rfl rfl ?_; refine .v rfl rfl (O.lenO sl96 rfl rfl rfl) ?_; refine .v rfl rfl (OpL.binI rfl rfl rfl rfl) ?_; refine .a rfl rfl rfl rfl ?_; refine .nil ?_; refine W.ret ?_; cases h; exact leaves (.inr rfl) rfl (.imm _) (cN (cS (.own _ _ _ _ rfl) .nil)) rfl rfl
 ·have h := ifF q1 h; refine W.skip ?_; (iterate 2 refine W.seq ?_); refine W.pk ?_; refine .m rfl rfl rfl rfl ?_; refine .v rfl rfl (O.lenR sl96 rfl rfl) ?_; refine .v rfl rfl (OpL.binI rfl rfl rfl rfl) ?_; refine .a rfl rfl rfl rfl ?_; refine .nil ?_; obtain ⟨o25, b26, z27⟩ := bnd1 h; refine W.fork2 (out := o25) (fun (w24 : Unit) => mkSt [] [(0, some (.rows 102 1 (List.map (encI .u64) x1) false))] 1000) ?_ ?_
  ·clear h; refine W.block ?_; refine W.loopF (fun (s_ : Int) => mkSt [(0, some (.imm (.row 1 (List.map (encI .u64) x0)))), (1, some (.own 0)), (5, some (.i s_))] [(0, some (.rows 102 1 (List.map (encI .u64) x1) false))] 1000) b26 (Gives.mkR [] (.e rfl rfl) (.r rfl rfl rfl .n) rfl rfl rfl) ?_; rintro v9 s_ hr; have h : lombardref01_Compare.b0 x0 x1 v9 = some s_ := hr; unfold lombardref01_Compare.b0 at h; (iterate 2 refine W.seq ?_); refine W.pk ?_; refine .m rfl rfl rfl rfl ?_; refine .v rfl rfl (OpL.binI rfl rfl rfl rfl) ?_; refine .nil ?_; refine W.cond rfl (fun q28 => ?_) (fun q28 => ?_)
   ·have h := ifT q28 h; refine W.skip ?_; refine W.seq ?_; refine W.block ?_; (iterate 2 refine W.seq ?_); obtain ⟨c29, h⟩ := chk h; obtain ⟨c30, h⟩ := chk h; refine W.dk (unm 9 [0, 0, 3, 7, 0, 0, 48, 112, 255]) rfl (by kernel_rfl) ?_; (iterate 2 refine .m rfl rfl rfl rfl ?_); refine .v rfl rfl (O.idx sl96 c29 rfl rfl rfl) ?_; refine .v rfl rfl (O.ld (y := .imm (.val (.int .u64 (nth x0 v9)))) ty102 rfl rfl rfl) ?_; (iterate 2 refine .m rfl rfl rfl rfl ?_); refine .v rfl rfl (O.idxO sl96 c30 rfl rfl rfl rfl) ?_; refine .v rfl rfl (O.ldE (c := (.val (.int .u64 (nth x1 v9)))) ty102 c30 rfl rfl rfl rfl rfl) ?_; refine .v rfl rfl (OpL.binI rfl rfl rfl rfl) ?_; refine .nil ?_; refine ⟨by kernel_rfl, by kernel_rfl, ?_⟩; refine W.cond rfl (fun q31 => ?_) (fun q31 => ?_)
    ·have h := ifT q31 h; refine W.seq ?_; refine W.pk ?_; refine .a rfl rfl rfl rfl ?_; refine .nil ?_; refine W.ret ?_; cases h; refine rdR fun e_ => ?_; subst e_; have h := z27; dsimp only at h; refine fkR ?_; cases h; exact leaves (.inr rfl) rfl (.imm _) (cN (cS (.own _ _ _ _ rfl) .nil)) rfl rfl
    ·have h := ifF q31 h; refine W.skip ?_; refine W.seq ?_; obtain ⟨c32, h⟩ := chk h; obtain ⟨c33, h⟩ := chk h; refine W.dk (unm 9 [0, 0, 3, 7, 0, 0, 48, 112, 255]) rfl (by kernel_rfl) ?_; (iterate 2 refine .m rfl rfl rfl rfl ?_); refine .v rfl rfl (O.idx sl96 c32 rfl rfl rfl) ?_; refine .v rfl rfl (O.ld (y := .imm (.val (.int .u64 (nth x0 v9)))) ty102 rfl rfl rfl) ?_; (iterate 2 refine .m rfl rfl rfl rfl ?_); refine .v rfl rfl (O.idxO sl96 c33 rfl rfl rfl rfl) ?_; refine .v rfl rfl (O.ldE (c := (.val (.int .u64 (nth x1 v9)))) ty102 c33 rfl rfl rfl rfl rfl) ?_; refine .v rfl rfl (OpL.binI rfl rfl rfl rfl) ?_; refine .nil ?_; refine ⟨by kernel_rfl, by kernel_rfl, ?_⟩; refine W.cond rfl (fun q34 => ?_) (fun q34 => ?_)
     ·have h := ifT q34 h; refine W.seq ?_; refine W.pk ?_; refine .a rfl rfl rfl rfl ?_; refine .nil ?_; refine W.ret ?_; cases h; refine rdR fun e_ => ?_; subst e_; have h := z27; dsimp only at h; refine fkR ?_; cases h; exact leaves (.inr rfl) rfl (.imm _) (cN (cS (.own _ _ _ _ rfl) .nil)) rfl rfl
     ·have h := ifF q34 h; refine W.skip ?_; refine W.pk ?_; refine .m rfl rfl rfl rfl ?_; refine .v rfl rfl (OpL.binI rfl rfl rfl rfl) ?_; refine .a rfl rfl rfl rfl ?_; refine .nil ?_; cases h; exact rdN (Gives.mkR [] (.e rfl rfl) (.r rfl rfl rfl .n) rfl rfl rfl)
   ·have h := ifF q28 h; refine W.exit ?_; cases h; refine rdX fun e_ => ?_; subst e_; (repeat with_reducible refine thru ?_); refine hit ?_; exact fkN (Gives.mkR [] .n (.r rfl rfl rfl .n) rfl rfl rfl)
  ·intro w24 e_; subst e_; clear h; have h := z27; dsimp only at h; refine W.seq ?_; refine W.pk ?_; refine .a rfl rfl rfl rfl ?_; refine .nil ?_; refine W.ret ?_; cases h; exact leaves (.inr rfl) rfl (.imm _) (cN (cS (.own _ _ _ _ rfl) .nil)) rfl rfl
end Go.Proofs.Ytlgfdldonoaahaa
