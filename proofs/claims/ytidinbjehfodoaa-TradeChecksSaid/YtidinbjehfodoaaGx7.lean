/- Shows what functions of the program come to, each as a plain function: written by a program of the author's for this claim. -/
import Derived.Test.YtidinbjehfodoaaGx6
namespace Go.Proofs.Ytidinbjehfodoaa
open Go Go.Pm
set_option linter.unusedVariables false
set_option linter.unusedSimpArgs false
noncomputable def lombardref23_Resets.b0 (x0 : List api_Reset) (x1 : List api_Reset) (v6 : Int) : Option (Int ⊕ (Bool ⊕ Unit)) :=
  if (decide (v6 < (List.length x0 : Int))) = true then
    if (0 : Int) ≤ v6 ∧ v6 < (List.length x0 : Int) then
    if (0 : Int) ≤ v6 ∧ v6 < (List.length x1 : Int) then
    if (!((((nth x0 v6).Day) == ((nth x1 v6).Day)) && (((nth x0 v6).Rate) == ((nth x1 v6).Rate)))) = true then
      some (.inr (.inl false))
    else
      some (.inl (IntKind.wrap .i64 (v6 + 1)))
    else none
    else none
  else
    some (.inr (.inr ()))
noncomputable def lombardref23_Resets.r0 (x0 : List api_Reset) (x1 : List api_Reset) (s : Int) : Option (Int ⊕ (Bool ⊕ Unit)) := lombardref23_Resets.b0 x0 x1 s
noncomputable def lombardref23_Resets.f (x0 : List api_Reset) (x1 : List api_Reset) : Option (Bool) :=
  if ((List.length x0 : Int) != (List.length x1 : Int)) = true then
    some false
  else
    (loop (lombardref23_Resets.r0 x0 x1) 0).bind fun o16 =>
    match o16 with
    | .inl r23 => some r23
    | .inr w15 =>
      some true
set_option maxRecDepth 100000 in
set_option maxHeartbeats 4000000 in
theorem lombardref23_Resets.ok {x0 : List api_Reset} {x1 : List api_Reset} {r : Bool} (h : lombardref23_Resets.f x0 x1 = some r) : Pm.Spec prog 41 [.imm (.row 2 (List.map api_Reset.enc x0)), .imm (.row 2 (List.map api_Reset.enc x1))] (.imm (.val (.bool r))) [none, none] := by
  unfold lombardref23_Resets.f at h
  refine Pm.Spec.of_body Try.func41 rfl (by kernel_rfl) (Nat.le_of_ble_eq_true rfl) (Nat.le_of_ble_eq_true rfl) ?_
  refine W.ghost (σ' := (mkSt [(0, some (.imm (.row 2 (List.map api_Reset.enc x0)))), (1, some (.imm (.row 2 (List.map api_Reset.enc x1))))] [] 1000)) (Gives.entry (.c rfl (.c rfl .n)) .n) ?_
  refine W.seq ?_
  refine W.pk ?_
  refine .v rfl rfl (OpL.move (.inr rfl) rfl) ?_
  refine .nil ?_
  refine W.seq ?_
  refine W.seq ?_
  refine W.pk ?_
  refine .v rfl rfl (OpL.move (.inl rfl) rfl) ?_
  refine .v rfl rfl (O.lenR sl24 rfl rfl) ?_
  refine .v rfl rfl (OpL.move (.inl rfl) rfl) ?_
  refine .v rfl rfl (O.lenR sl24 rfl rfl) ?_
  refine .v rfl rfl (OpL.binI rfl rfl rfl rfl) ?_
  refine .nil ?_
  refine W.cond rfl (fun q1 => ?_) (fun q1 => ?_)
  · have h := ifT q1 h
    refine W.seq ?_
    refine W.pk ?_
    refine .v rfl rfl (OpL.move (.inr rfl) rfl) ?_
    refine .nil ?_
    refine W.ret ?_
    cases h
    exact leaves (.inr rfl) rfl (.imm _) (cN (cN .nil)) rfl rfl
  · have h := ifF q1 h
    refine W.skip ?_
    refine W.seq ?_
    refine W.seq ?_
    refine W.pk ?_
    refine .v rfl rfl (OpL.move (.inr rfl) rfl) ?_
    refine .nil ?_
    obtain ⟨o16, b17, z18⟩ := bnd1 h
    refine W.fork2 (out := o16) (fun (w15 : Unit) => mkSt [] [] 1000) ?_ ?_
    · clear h
      refine W.block ?_
      refine W.loopF (fun (s_ : Int) => mkSt [(0, some (.imm (.row 2 (List.map api_Reset.enc x0)))), (1, some (.imm (.row 2 (List.map api_Reset.enc x1)))), (5, some (.i s_))] [] 1000) b17 (Gives.mkR [] (.c rfl (.rfl _) rfl (.c rfl (.rfl _) rfl (.c rfl (.rfl _) rfl .n))) .n rfl rfl rfl) ?_
      rintro v6 s_ hr
      have h : lombardref23_Resets.b0 x0 x1 v6 = some s_ := hr
      unfold lombardref23_Resets.b0 at h
      refine W.seq ?_
      refine W.seq ?_
      refine W.pk ?_
      refine .v rfl rfl (OpL.move (.inl rfl) rfl) ?_
      refine .v rfl rfl (OpL.move (.inl rfl) rfl) ?_
      refine .v rfl rfl (O.lenR sl24 rfl rfl) ?_
      refine .v rfl rfl (OpL.binI rfl rfl rfl rfl) ?_
      refine .nil ?_
      refine W.cond rfl (fun q19 => ?_) (fun q19 => ?_)
      · have h := ifT q19 h
        refine W.skip ?_
        refine W.seq ?_
        refine W.block ?_
        refine W.seq ?_
        obtain ⟨c20, h⟩ := chk h
        obtain ⟨c21, h⟩ := chk h
        refine W.dk [[], [], [0, 1], [0, 1, 2], [], [], [4, 5], [4, 5, 6], [0, 1, 2, 3, 4, 5, 6, 7]] rfl (by kernel_rfl) ?_
        refine .v rfl rfl (OpL.move (.inl rfl) rfl) ?_
        refine .v rfl rfl (OpL.move (.inl rfl) rfl) ?_
        refine .v rfl rfl (O.idx sl24 c20 rfl rfl rfl) ?_
        refine .v rfl rfl (O.ldN ty60 rfl rfl rfl) ?_
        refine .v rfl rfl (OpL.move (.inl rfl) rfl) ?_
        refine .v rfl rfl (OpL.move (.inl rfl) rfl) ?_
        refine .v rfl rfl (O.idx sl24 c21 rfl rfl rfl) ?_
        refine .v rfl rfl (O.ldN ty60 rfl rfl rfl) ?_
        refine .v rfl rfl (O.neS (r := ((((nth x0 v6).Day) == ((nth x1 v6).Day)) && (((nth x0 v6).Rate) == ((nth x1 v6).Rate)))) fl60 rfl rfl rfl rfl rfl rfl) ?_
        refine .nil ?_
        refine ⟨by kernel_rfl, by kernel_rfl, ?_⟩
        refine W.cond rfl (fun q22 => ?_) (fun q22 => ?_)
        · have h := ifT q22 h
          refine W.seq ?_
          refine W.pk ?_
          refine .v rfl rfl (OpL.move (.inr rfl) rfl) ?_
          refine .nil ?_
          refine W.ret ?_
          cases h
          refine rdR fun e_ => ?_
          subst e_
          have h := z18
          dsimp only at h
          refine fkR ?_
          cases h
          exact leaves (.inr rfl) rfl (.imm _) (cN (cN .nil)) rfl rfl
        · have h := ifF q22 h
          refine W.skip ?_
          refine W.pk ?_
          refine .v rfl rfl (OpL.move (.inl rfl) rfl) ?_
          refine .v rfl rfl (OpL.binI rfl rfl rfl rfl) ?_
          refine .v rfl rfl (OpL.move (.inr rfl) rfl) ?_
          refine .nil ?_
          cases h
          exact rdN (Gives.mkR [] (.c rfl (.rfl _) rfl (.c rfl (.rfl _) rfl (.c rfl (.rfl _) rfl .n))) .n rfl rfl rfl)
      · have h := ifF q19 h
        refine W.exit ?_
        cases h
        refine rdX fun e_ => ?_
        subst e_
        repeat with_reducible refine thru ?_
        refine hit ?_
        exact fkN (Gives.mkR [] .n .n rfl rfl rfl)
    · intro w15 e_
      subst e_
      clear h
      have h := z18
      dsimp only at h
      refine W.seq ?_
      refine W.pk ?_
      refine .v rfl rfl (OpL.move (.inr rfl) rfl) ?_
      refine .nil ?_
      refine W.ret ?_
      cases h
      exact leaves (.inr rfl) rfl (.imm _) (cN (cN .nil)) rfl rfl
end Go.Proofs.Ytidinbjehfodoaa
