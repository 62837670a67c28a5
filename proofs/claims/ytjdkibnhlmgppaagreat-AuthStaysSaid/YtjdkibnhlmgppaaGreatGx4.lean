/- Shows what functions of the program come to, each as a plain function: written by a program of the author's for this claim. -/
import Derived.Test.YtjdkibnhlmgppaaGreatGx3
namespace Go.Proofs.YtjdkibnhlmgppaaGreat
open Go Go.Pm
set_option linter.unusedVariables false
set_option maxRecDepth 100000
set_option maxHeartbeats 4000000
set_option linter.unusedSimpArgs false
theorem lombardlaw30_Told_v2.ok {x0 : List auth_Member} {r : List lombardref30_Member} (h : lombardlaw30_Told.f x0 = some r) : Pm.Spec prog 16 [.imm (.row 5 (List.map auth_Member.enc x0))] (.xown 31 5 (List.map lombardref30_Member.enc r)) [none] := by
 unfold lombardlaw30_Told.f at h; refine Pm.Spec.of_body Tryz.func16 Z (by kernel_rfl) (L Z) (L Z) ?_; refine W.ghost (σ' := (mkSt [(0, some (.imm (.row 5 (List.map auth_Member.enc x0))))] [] 1000)) (Gives.entry (.c Z .n) .n) (W.seq (W.pk (.A Z (.nil (W.seq (W.pk (.A Z (.nil (W.seq (W.seq (W.pk ?_))))))))))); refine .A Z (.nil (W.ghost (Gives.mintS 3 31 5 Z) ?_)); obtain ⟨o33, b34, h⟩ := bnd1 h; refine W.fork (mkSt [(3, some (.own 1000))] [(1000, some (.rows 31 5 (List.map lombardref30_Member.enc o33) false))] 1001) ?_ ?_
 ·refine W.seq (W.pk (.M Z (.A Z (.nil (W.ret ?_))))); cases h; exact leaves (.inr Z) Z (.own _ _ _ _ Z) (cN .nil) Z Z
 ·clear h; refine W.block (W.loopF (fun (s_ : Int × (List lombardref30_Member)) => mkSt [(0, some (.imm (.row 5 (List.map auth_Member.enc x0)))), (3, some (.own 1000)), (4, some (.i s_.1))] [(1000, some (.rows 31 5 (List.map lombardref30_Member.enc s_.2) false))] 1001) b34 (Gm [] (.e Z Z) (.r Z Z Z .n) Z) ?_); rintro ⟨v16, v17⟩ s_ hr; have h : lombardlaw30_Told.b0 x0 v16 v17 = some s_ := hr; unfold lombardlaw30_Told.b0 at h; refine W.seq (W.seq (W.pk (.M Z (.M Z (.V Z (O.lenR sl29 Z Z) (.B Z (.nil (W.cnd Z h (fun q36 h => ?_) (fun q36 h => ?_)))))))))
  ·refine W.skip (W.seq (W.block ?_)); obtain ⟨c37, h⟩ := chk h; obtain ⟨c38, h⟩ := chk h; obtain ⟨c39, h⟩ := chk h; obtain ⟨c40, h⟩ := chk h; obtain ⟨c41, h⟩ := chk h; obtain ⟨c42, h⟩ := chk h; refine W.dk (unm 30 [0, 0, 0, 6, 14, 30, 0, 0, 192, 448, 960, 0, 0, 6144, 14336, 30720, 0, 0, 196608, 458752, 983040, 0, 0, 6291456, 14680064, 31457280, 67108862, 134217726, 268435455, 536870911]) Z (by kernel_rfl) ?_; refine .M Z (.M Z (.M Z (.V Z (O.idx sl29 c37 Z Z Z) (.F fld32_0 Z (.V Z (O.ld (y := .i ((nth x0 v16).ID)) ty3 Z Z Z) (.M Z (.M Z (.V Z (O.idx sl29 c38 Z Z Z) (.F fld32_1 Z (.V Z (O.ld (y := .s ((nth x0 v16).Name)) ty9 Z Z Z) (.M Z ?_))))))))))); refine .M Z (.V Z (O.idx sl29 c39 Z Z Z) (.F fld32_2 Z (.V Z (O.ld (y := .i ((nth x0 v16).State)) ty3 Z Z Z) (.M Z (.M Z (.V Z (O.idx sl29 c40 Z Z Z) (.F fld32_3 Z (.V Z (O.ld (y := .i ((nth x0 v16).Bound)) ty3 Z Z Z) (.M Z (.M Z (.V Z (O.idx sl29 c41 Z Z Z) ?_))))))))))); refine .F fld32_4 Z (.V Z (O.ld (y := .b ((nth x0 v16).Late)) ty4 Z Z Z) (.V Z (O.build (out := [.i ((nth x0 v16).ID), .s ((nth x0 v16).Name), .i ((nth x0 v16).State), .i ((nth x0 v16).Bound), .b ((nth x0 v16).Late)]) bl31 Z Z Z Z (by kernel_rfl)) ?_)); refine .t Z Z (O.lit (enc := lombardref30_Member.enc) (l := [(⟨(nth x0 v16).ID, (nth x0 v16).Name, (nth x0 v16).State, (nth x0 v16).Bound, (nth x0 v16).Late⟩ : lombardref30_Member)]) sl24 Z Z Z Z Z Z Z Z Z) (.t Z Z (O.appO sl24 lombardref30_Member.ok c42 Z Z Z Z Z) (.A Z (.nil ?_))); refine ⟨by kernel_rfl, by kernel_rfl, ?_⟩; refine W.pk (.M Z (.B Z (.A Z (.nil ?_)))); cases h; exact rdN (Gm [(1000, 1002)] (.e Z Z) (.r Z Z Z .n) Z)
  ·refine W.exit ?_; cases h; refine rdX fun e_ => ?_; subst e_; (repeat with_reducible refine thru ?_); exact hit (toN (Gm [] (.r Z Z .n) (.r Z Z Z .n) Z))

theorem lombardref30_Same_v2.ok {x0 : List lombardref30_Member} {x1 : List lombardref30_Member} {r : Bool} (h : lombardref30_Same.f x0 x1 = some r) : Pm.Spec prog 15 [.xown 31 5 (List.map lombardref30_Member.enc x0), .imm (.row 5 (List.map lombardref30_Member.enc x1))] (.imm (.val (.bool r))) [some (.xown 31 5 (List.map lombardref30_Member.enc x0)), none] := by
 unfold lombardref30_Same.f at h; refine Pm.Spec.of_body Tryz.func15 Z (by kernel_rfl) (L Z) (L Z) ?_; refine W.ghost (σ' := (mkSt [(0, some (.own 0)), (1, some (.imm (.row 5 (List.map lombardref30_Member.enc x1))))] [(0, some (.rows 31 5 (List.map lombardref30_Member.enc x0) false))] 1000)) (Gives.entry (.c Z (.c Z .n)) (.c Z .n)) (W.seq (W.pk (.A Z (.nil (W.seq (W.seq (W.pk (.M Z (.V Z (O.lenO sl24 Z Z Z) (.M Z (.V Z (O.lenR sl24 Z Z) ?_))))))))))); refine .B Z (.nil (W.cnd Z h (fun q1 h => ?_) (fun q1 h => ?_)))
 ·refine W.seq (W.pk (.A Z (.nil (W.ret ?_)))); cases h; exact leaves (.inr Z) Z (.imm _) (cS (.own _ _ _ _ Z) (cN .nil)) Z Z
 ·refine W.skip (W.seq (W.seq (W.pk (.A Z (.nil ?_))))); obtain ⟨o16, b17, z18⟩ := bnd1 h; refine W.fork2 (out := o16) (fun (w15 : Unit) => mkSt [] [(0, some (.rows 31 5 (List.map lombardref30_Member.enc x0) false))] 1000) ?_ ?_
  ·clear h; refine W.block (W.loopF (fun (s_ : Int) => mkSt [(0, some (.own 0)), (1, some (.imm (.row 5 (List.map lombardref30_Member.enc x1)))), (5, some (.i s_))] [(0, some (.rows 31 5 (List.map lombardref30_Member.enc x0) false))] 1000) b17 (Gm [] (.e Z Z) (.r Z Z Z .n) Z) ?_); rintro v6 s_ hr; have h : lombardref30_Same.b0 x0 x1 v6 = some s_ := hr; unfold lombardref30_Same.b0 at h; refine W.seq (W.seq (W.pk (.M Z (.M Z (.V Z (O.lenO sl24 Z Z Z) (.B Z (.nil (W.cnd Z h (fun q19 h => ?_) (fun q19 h => ?_)))))))))
   ·refine W.skip (W.seq (W.block (W.seq ?_))); obtain ⟨c20, h⟩ := chk h; obtain ⟨c21, h⟩ := chk h; refine W.dk (unm 9 [0, 0, 3, 7, 0, 0, 48, 112, 255]) Z (by kernel_rfl) ?_; refine .M Z (.M Z (.V Z (O.idxO sl24 c20 Z Z Z Z) (.V Z (O.ldEN ty31 c20 Z Z Z Z Z) (.M Z (.M Z (.V Z (O.idx sl24 c21 Z Z Z) (.V Z (O.ldN ty31 Z Z Z) (.V Z (O.neS (r := ((((nth x0 v6).ID) == ((nth x1 v6).ID)) && ((((nth x0 v6).Name) == ((nth x1 v6).Name)) && ((((nth x0 v6).State) == ((nth x1 v6).State)) && ((((nth x0 v6).Bound) == ((nth x1 v6).Bound)) && (((nth x0 v6).Late) == ((nth x1 v6).Late))))))) fl31 Z Z Z Z Z Z) (.nil ?_))))))))); refine ⟨by kernel_rfl, by kernel_rfl, ?_⟩; refine W.cnd Z h (fun q22 h => ?_) (fun q22 h => ?_)
    ·refine W.seq (W.pk (.A Z (.nil (W.ret ?_)))); cases h; refine rdR fun e_ => ?_; subst e_; have h := z18; dsimp only at h; refine fkR ?_; cases h; exact leaves (.inr Z) Z (.imm _) (cS (.own _ _ _ _ Z) (cN .nil)) Z Z
    ·refine W.skip (W.pk (.M Z (.B Z (.A Z (.nil ?_))))); cases h; exact rdN (Gm [] (.e Z Z) (.r Z Z Z .n) Z)
   ·refine W.exit ?_; cases h; refine rdX fun e_ => ?_; subst e_; (repeat with_reducible refine thru ?_); exact hit (fkN (Gm [] .n (.r Z Z Z .n) Z))
  ·intro w15 e_; subst e_; clear h; have h := z18; dsimp only at h; refine W.seq (W.pk (.A Z (.nil (W.ret ?_)))); cases h; exact leaves (.inr Z) Z (.imm _) (cS (.own _ _ _ _ Z) (cN .nil)) Z Z

noncomputable def auth_List_Clone_v2.f (x0 : auth_List) : Option (Option auth_List) :=
 if (!x0.made) = true then
 some none
 else (slices_Clone_auth_Member.f x0.l).bind fun t2 =>
 some (some (⟨t2, true⟩ : auth_List))
theorem auth_List_Clone_v2.ok {x0 : auth_List} {r : Option auth_List} (h : auth_List_Clone_v2.f x0 = some r) : Pm.Spec prog 12 [.xbox [.xown 32 5 (List.map auth_Member.enc x0.l), .imm (.val (.bool x0.made))]] ((match (generalizing := false) r with | none => .imm (.val (.pointer none)) | some v_ => .xbox [.xown 32 5 (List.map auth_Member.enc v_.l), .imm (.val (.bool v_.made))])) [some (.xbox [.xown 32 5 (List.map auth_Member.enc x0.l), .imm (.val (.bool x0.made))])] := by
 unfold auth_List_Clone_v2.f at h; refine Pm.Spec.of_body Tryz.func12 Z (by kernel_rfl) (L Z) (L Z) ?_; refine W.ghost (σ' := (mkSt [(0, some (.ptr 0 0))] [(0, some (.box [.own 1, .b x0.made])), (1, some (.rows 32 5 (List.map auth_Member.enc x0.l) false))] 1000)) (Gives.entry (.c Z .n) (.c Z (.c Z .n))) (W.ghost (σ' := (mkSt [(0, some (.ptr 0 0))] [(0, some (.box [.own 1000, .b x0.made])), (1000, some (.rows 32 5 (List.map auth_Member.enc x0.l) false))] 1001)) (Gm [(1000, 1)] (.r Z Z .n) (.e Z Z) Z) (W.seq (W.pk (.A Z (.nil (W.seq (W.seq (W.pk (.M Z (.V Z (OpL.eqP Z u23 Z Z Z) (.M Z ?_))))))))))); refine .N Z Z (.U Z Z (OpL.nilP Z Z Z) (.H fld79_1 Z Z Z (.U Z Z (O.ld (y := .b x0.made) ty4 Z Z Z) (.U Z Z (OpL.unV Z Z Z) (.E Z Z (.nil (W.cnd Z h (fun q1 h => ?_) (fun q1 h => ?_))))))))
 ·refine W.seq (W.pk (.A Z (.nil (W.ret ?_)))); cases h; exact leaves (.inr Z) Z (.imm _) (cS (.ptr _ _ _ _ _ Z (cC (.own _ _ _ _ Z) (cI .nil))) .nil) Z Z
 ·refine W.skip (W.seq ?_); obtain ⟨t2, b3, h⟩ := bnd1 h; refine W.pk (.M Z (.V Z (OpL.nilP Z Z Z) (.F fld79_0 Z (.V Z (O.ld (y := .own 1000) ty29 Z Z Z) (.C (.own 1001) [(1001, some (.rows 32 5 (List.map auth_Member.enc t2) false)), (1000, some (.rows 32 5 (List.map auth_Member.enc x0.l) false)), (1000, none)] 1 (slices_Clone_auth_Member.ok b3) ca32 Z (cC (.own _ _ _ _ Z) .nil) Z ?_))))); refine .V Z (O.build (out := [.own 1001, .b true]) bl79 Z Z Z Z (by kernel_rfl)) ?_; refine .t Z Z (O.box Z Z Z Z Z) (.A Z (.nil (W.ret ?_))); cases h; exact leaves (.inr Z) Z (.ptr _ _ _ _ _ Z (cC (.own _ _ _ _ Z) (cI .nil))) (cS (.ptr _ _ _ _ _ Z (cC (.own _ _ _ _ Z) (cI .nil))) .nil) Z Z

noncomputable def lombardlaw30_AuthLoads.b0 (x0 : List lombardref30_Member) (v27 : Int) (v28 : List auth_Member) : Option ((Int × (List auth_Member)) ⊕ (Bool ⊕ (List auth_Member))) :=
 if (decide (v27 < (List.length x0 : Int))) = true then
 if (0 : Int) ≤ v27 ∧ v27 < (List.length x0 : Int) then
 if (decide ((List.length ((nth x0 v27).Name) : Int) > 600)) = true then
 (lombardlaw30_awake.f).bind fun t58 =>
 some (.inr (.inl t58))
 else if (0 : Int) ≤ v27 ∧ v27 < (List.length x0 : Int) then
 if (0 : Int) ≤ v27 ∧ v27 < (List.length x0 : Int) then
 if (0 : Int) ≤ v27 ∧ v27 < (List.length x0 : Int) then
 if (0 : Int) ≤ v27 ∧ v27 < (List.length x0 : Int) then
 if (0 : Int) ≤ v27 ∧ v27 < (List.length x0 : Int) then
 if (List.length v28 + List.length [(⟨(nth x0 v27).ID, (nth x0 v27).Name, (nth x0 v27).State, (nth x0 v27).Bound, (nth x0 v27).Late⟩ : auth_Member)]) * 48 ≤ 140737488355328 then
 some (.inl ((IntKind.wrap .i64 (v27 + 1)), (v28 ++ [(⟨(nth x0 v27).ID, (nth x0 v27).Name, (nth x0 v27).State, (nth x0 v27).Bound, (nth x0 v27).Late⟩ : auth_Member)])))
 else none
 else none
 else none
 else none
 else none
 else none
 else none
 else some (.inr (.inr v28))
noncomputable def lombardlaw30_AuthLoads.r0 (x0 : List lombardref30_Member) (s : Int × (List auth_Member)) : Option ((Int × (List auth_Member)) ⊕ (Bool ⊕ (List auth_Member))) := lombardlaw30_AuthLoads.b0 x0 s.1 s.2
noncomputable def lombardlaw30_AuthLoads.f (x0 : List lombardref30_Member) : Option (Bool) :=
 if (decide ((List.length x0 : Int) > 50)) = true then
 (lombardlaw30_awake.f).bind fun t2 =>
 some t2
 else (loop (lombardlaw30_AuthLoads.r0 x0) (0, [])).bind fun o52 =>
 match o52 with
 | .inl r66 => some r66
 | .inr w51 =>
 (auth_Load.f w51).bind fun t67 =>
 match t67.1 with
 | none =>
 (lombardref30_Load.f x0).bind fun t71 =>
 if ((t67.2 != t71) || (!(false == (t67.2 == 0)))) = true then
 some false
 else if (t67.2 != 0) = true then
 (lombardlaw30_awake.f).bind fun t76 =>
 some t76
 else (auth_List_Clone.f).bind fun t78 =>
 (auth_List_Join_v2.f 31 [79, 116, 104, 101, 114]).bind fun t80 =>
 (auth_List_Default_v2.f 1).bind fun t82 =>
 (auth_List_All_v2.f).bind fun t84 =>
 (lombardlaw30_Told.f t84).bind fun t86 =>
 (lombardref30_Same.f t86 x0).bind fun t88 =>
 (if t88 = true then lombardlaw30_awake.f else some default).bind fun t90 =>
 some (t88 && t90)
 | some v70 =>
 (lombardref30_Load.f x0).bind fun t93 =>
 if ((t67.2 != t93) || (!(true == (t67.2 == 0)))) = true then
 some false
 else if (t67.2 != 0) = true then
 (lombardlaw30_awake.f).bind fun t98 =>
 some t98
 else (auth_List_Clone_v2.f v70).bind fun t100 =>
 match t100 with
 | none =>
 (auth_List_Join.f v70 31 [79, 116, 104, 101, 114]).bind fun t104 =>
 (auth_List_Default.f t104.2 1).bind fun t106 =>
 (auth_List_All_v2.f).bind fun t108 =>
 (lombardlaw30_Told.f t108).bind fun t110 =>
 (lombardref30_Same.f t110 x0).bind fun t112 =>
 (if t112 = true then lombardlaw30_awake.f else some default).bind fun t114 =>
 some (t112 && t114)
 | some v103 =>
 (auth_List_Join.f v70 31 [79, 116, 104, 101, 114]).bind fun t117 =>
 (auth_List_Default.f t117.2 1).bind fun t119 =>
 (auth_List_All.f v103).bind fun t121 =>
 (lombardlaw30_Told.f t121).bind fun t123 =>
 (lombardref30_Same.f t123 x0).bind fun t125 =>
 (if t125 = true then lombardlaw30_awake.f else some default).bind fun t127 =>
 some (t125 && t127)
theorem lombardlaw30_AuthLoads.ok {x0 : List lombardref30_Member} {r : Bool} (h : lombardlaw30_AuthLoads.f x0 = some r) : Pm.Spec prog 4 [.imm (.row 5 (List.map lombardref30_Member.enc x0))] (.imm (.val (.bool r))) [none] := by
 unfold lombardlaw30_AuthLoads.f at h; refine Pm.Spec.of_body Tryz.func4 Z (by kernel_rfl) (L Z) (L Z) ?_; refine W.ghost (σ' := (mkSt [(0, some (.imm (.row 5 (List.map lombardref30_Member.enc x0))))] [] 1000)) (Gives.entry (.c Z .n) .n) (W.seq (W.pk (.A Z (.nil (W.seq (W.seq (W.pk (.M Z (.V Z (O.lenR sl24 Z Z) (.B Z (.nil ?_))))))))))); refine W.cnd Z h (fun q1 h => ?_) (fun q1 h => ?_)
 ·refine W.seq ?_; obtain ⟨t2, b3, h⟩ := bnd1 h; refine W.pk (.C (.b t2) [] 0 (lombardlaw30_awake.ok b3) ca9 Z .nil Z ?_); refine .A Z (.nil (W.ret ?_)); cases h; exact lv Z Z
 ·refine W.skip (W.seq (W.pk (.A Z (.nil (W.seq (W.seq (W.pk (.A Z (.nil (W.ghost (Gives.mintS 3 32 5 Z) ?_)))))))))); obtain ⟨o52, b53, z54⟩ := bnd1 h; refine W.fork2 (out := o52) (fun (w51 : List auth_Member) => mkSt [(0, some (.imm (.row 5 (List.map lombardref30_Member.enc x0)))), (3, some (.own 1000))] [(1000, some (.rows 32 5 (List.map auth_Member.enc w51) false))] 1001) ?_ ?_
  ·clear h; refine W.block (W.loopF (fun (s_ : Int × (List auth_Member)) => mkSt [(0, some (.imm (.row 5 (List.map lombardref30_Member.enc x0)))), (3, some (.own 1000)), (4, some (.i s_.1))] [(1000, some (.rows 32 5 (List.map auth_Member.enc s_.2) false))] 1001) b53 (Gm [] (.e Z Z) (.r Z Z Z .n) Z) ?_); rintro ⟨v27, v28⟩ s_ hr; have h : lombardlaw30_AuthLoads.b0 x0 v27 v28 = some s_ := hr; unfold lombardlaw30_AuthLoads.b0 at h; refine W.seq (W.seq (W.pk (.M Z (.M Z (.V Z (O.lenR sl24 Z Z) (.B Z (.nil (W.cnd Z h (fun q55 h => ?_) (fun q55 h => ?_)))))))))
   ·refine W.skip (W.seq (W.block (W.seq (W.seq ?_)))); obtain ⟨c56, h⟩ := chk h; refine W.pk (.M Z (.M Z (.V Z (O.idx sl24 c56 Z Z Z) (.F fld31_1 Z (.V Z (O.ld (y := .s ((nth x0 v27).Name)) ty9 Z Z Z) (.V Z (O.lenS u9 Z Z) (.B Z (.nil (W.cnd Z h (fun q57 h => ?_) (fun q57 h => ?_))))))))))
    ·refine W.seq ?_; obtain ⟨t58, b59, h⟩ := bnd1 h; refine W.pk (.C (.b t58) [] 0 (lombardlaw30_awake.ok b59) ca9 Z .nil Z ?_); refine .A Z (.nil (W.ret ?_)); cases h; refine rdR fun e_ => ?_; subst e_; have h := z54; dsimp only at h; refine fkR ?_; cases h; exact lv Z Z
    ·refine W.skip ?_; obtain ⟨c60, h⟩ := chk h; obtain ⟨c61, h⟩ := chk h; obtain ⟨c62, h⟩ := chk h; obtain ⟨c63, h⟩ := chk h; obtain ⟨c64, h⟩ := chk h; obtain ⟨c65, h⟩ := chk h; refine W.dk (unm 30 [0, 0, 0, 6, 14, 30, 0, 0, 192, 448, 960, 0, 0, 6144, 14336, 30720, 0, 0, 196608, 458752, 983040, 0, 0, 6291456, 14680064, 31457280, 67108862, 134217726, 268435455, 536870911]) Z (by kernel_rfl) ?_; refine .M Z (.M Z (.M Z (.V Z (O.idx sl24 c60 Z Z Z) (.F fld31_0 Z (.V Z (O.ld (y := .i ((nth x0 v27).ID)) ty3 Z Z Z) (.M Z (.M Z (.V Z (O.idx sl24 c61 Z Z Z) (.F fld31_1 Z (.V Z (O.ld (y := .s ((nth x0 v27).Name)) ty9 Z Z Z) (.M Z ?_))))))))))); refine .M Z (.V Z (O.idx sl24 c62 Z Z Z) (.F fld31_2 Z (.V Z (O.ld (y := .i ((nth x0 v27).State)) ty3 Z Z Z) (.M Z (.M Z (.V Z (O.idx sl24 c63 Z Z Z) (.F fld31_3 Z (.V Z (O.ld (y := .i ((nth x0 v27).Bound)) ty3 Z Z Z) (.M Z (.M Z (.V Z (O.idx sl24 c64 Z Z Z) ?_))))))))))); refine .F fld31_4 Z (.V Z (O.ld (y := .b ((nth x0 v27).Late)) ty4 Z Z Z) (.V Z (O.build (out := [.i ((nth x0 v27).ID), .s ((nth x0 v27).Name), .i ((nth x0 v27).State), .i ((nth x0 v27).Bound), .b ((nth x0 v27).Late)]) bl32 Z Z Z Z (by kernel_rfl)) ?_)); refine .t Z Z (O.lit (enc := auth_Member.enc) (l := [(⟨(nth x0 v27).ID, (nth x0 v27).Name, (nth x0 v27).State, (nth x0 v27).Bound, (nth x0 v27).Late⟩ : auth_Member)]) sl29 Z Z Z Z Z Z Z Z Z) (.t Z Z (O.appO sl29 auth_Member.ok c65 Z Z Z Z Z) (.A Z (.nil ?_))); refine ⟨by kernel_rfl, by kernel_rfl, ?_⟩; refine W.pk (.M Z (.B Z (.A Z (.nil ?_)))); cases h; exact rdN (Gm [(1000, 1002)] (.e Z Z) (.r Z Z Z .n) Z)
   ·refine W.exit ?_; cases h; refine rdX fun e_ => ?_; subst e_; (repeat with_reducible refine thru ?_); exact hit (fkN (Gm [] (.e Z Z) (.r Z Z Z .n) Z))
  ·intro w51 e_; subst e_; clear h; have h := z54; dsimp only at h; refine W.seq ?_; obtain ⟨t67, b68, h⟩ := bnd1 h; rcases o69 : t67.1 with _ | v70
   ·rw [o69] at h; dsimp only at h; refine W.pk (.M Z (.C (.tup [.imm (.val (.pointer none)), .i t67.2]) [(1000, some (.rows 32 5 (List.map auth_Member.enc w51) false)), (1000, none)] 0 (Spec.cast (.tup [.imm (.val (.pointer none)), .imm (.val (.int .i64 t67.2))]) (by rw [o69]) (auth_Load.ok b68)) ca10 Z (cC (.own _ _ _ _ Z) .nil) Z ?_)); refine .M Z ?_; (iterate 2 refine .V Z (OpL.extract Z Z Z) ?_); refine .A Z (.A Z (.nil (W.seq (W.seq ?_)))); obtain ⟨t71, b72, h⟩ := bnd1 h; refine W.fork (mkSt [(0, some (.imm (.row 5 (List.map lombardref30_Member.enc x0)))), (5, some (.imm (.val (.pointer none)))), (6, some (.i t67.2)), (70, some (.b ((t67.2 != t71) || (!(false == (t67.2 == 0))))))] [] 1001) ?_ ?_
    ·refine W.cnd Z h (fun q74 h => ?_) (fun q74 h => ?_)
     ·refine W.seq (W.pk (.A Z (.nil (W.ret ?_)))); cases h; exact lv Z Z
     ·refine W.skip (W.seq (W.seq (W.pk (.M Z (.B Z (.nil (W.cnd Z h (fun q75 h => ?_) (fun q75 h => ?_))))))))
      ·refine W.seq ?_; obtain ⟨t76, b77, h⟩ := bnd1 h; refine W.pk (.C (.b t76) [] 0 (lombardlaw30_awake.ok b77) ca9 Z .nil Z ?_); refine .A Z (.nil (W.ret ?_)); cases h; exact lv Z Z
      ·refine W.skip (W.seq ?_); obtain ⟨t78, b79, h⟩ := bnd1 h; refine W.pk (.M Z (.C (.imm (.val (.pointer none))) [] 0 (auth_List_Clone.ok b79) ca12 Z (cI .nil) Z ?_)); refine .A Z (.nil (W.seq ?_)); obtain ⟨t80, b81, h⟩ := bnd1 h; refine W.pk (.M Z (.C (.i t80) [] 0 (auth_List_Join_v2.ok b81) ca13 Z (cI (cI (cI .nil))) Z ?_)); refine .nil (W.seq ?_); obtain ⟨t82, b83, h⟩ := bnd1 h; refine W.pk (.M Z (.C (.i t82) [] 0 (auth_List_Default_v2.ok b83) ca14 Z (cI (cI .nil)) Z ?_)); refine .nil (W.seq ?_); obtain ⟨t84, b85, h⟩ := bnd1 h; obtain ⟨t86, b87, h⟩ := bnd1 h; obtain ⟨t88, b89, h⟩ := bnd1 h; obtain ⟨t90, b91, h⟩ := bnd1 h; refine W.fork (mkSt [(2, some (.b (t88 && t90)))] [] 1002) ?_ ?_
       ·refine W.ret ?_; cases h; exact lv Z Z
       ·clear h; refine W.pk (.M Z (.C (.imm (.row 5 (List.map auth_Member.enc t84))) [] 0 (auth_List_All_v2.ok b85) ca17 Z (cI .nil) Z ?_)); refine .C (.own 1001) [(1001, some (.rows 31 5 (List.map lombardref30_Member.enc t86) false))] 1 (lombardlaw30_Told_v2.ok b87) ca16 Z (cI .nil) Z ?_; refine .M Z (.C (.b t88) [(1001, some (.rows 31 5 (List.map lombardref30_Member.enc t86) false)), (1001, none)] 0 (lombardref30_Same_v2.ok b89) ca15 Z (cC (.own _ _ _ _ Z) (cI .nil)) Z ?_); refine .M Z ?_; rcases tf t88 with g92 | g92
        ·refine .call (.b t90) [] 0 (lombardlaw30_awake.ok ((if_pos (by simp only [g92, BL])).symm.trans b91)) Z (met Z Z Z g92) Z ca9 Z Z .nil Z Z Z Z Z ?_; exact .T g92 Z (.A Z (.nil (toN (Gm [] (.c Z (sbb (by simp only [g92, BL])) Z .n) .n Z))))
        ·exact .X Z g92 (.E g92 Z (.A Z (.nil (toN (Gm [] (.c Z (sbb (by simp only [g92, BL])) Z .n) .n Z)))))
    ·clear h; refine W.pk (.M Z (.M Z (.C (.i t71) [] 0 (lombardref30_Load.ok b72) ca11 Z (cI .nil) Z ?_))); refine .B Z (.M Z ?_); rcases tf (t67.2 != t71) with g73 | g73
     ·(iterate 5 refine .X Z g73 ?_); exact .T g73 Z (.nil (toN (Gm [] (.r Z Z (.r Z Z (.r Z Z (.c Z (sbb (by simp only [g73, BL])) Z .n)))) .n Z)))
     ·exact .N Z g73 (.U Z g73 (O.nePnn Z u23 Z Z) (.N Z g73 (.G Z g73 Z (.U Z g73 (OpL.neB Z u4 Z Z) (.E g73 Z (.nil (toN (Gm [] (.r Z Z (.r Z Z (.r Z Z (.c Z (sbb (by simp only [g73, BL])) Z .n)))) .n Z))))))))
   ·rw [o69] at h; dsimp only at h; refine W.pk (.M Z (.C (.tup [.ptr 1001 0, .i t67.2]) [(1001, some (.box [.own 1002, .b v70.made])), (1002, some (.rows 32 5 (List.map auth_Member.enc v70.l) false)), (1000, some (.rows 32 5 (List.map auth_Member.enc w51) false)), (1000, none)] 2 (Spec.cast (.tup [.xbox [.xown 32 5 (List.map auth_Member.enc v70.l), .imm (.val (.bool v70.made))], .imm (.val (.int .i64 t67.2))]) (by rw [o69]) (auth_Load.ok b68)) ca10 Z (cC (.own _ _ _ _ Z) .nil) Z ?_)); refine .M Z ?_; (iterate 2 refine .V Z (OpL.extract Z Z Z) ?_); refine .A Z (.A Z (.nil (W.seq (W.seq ?_)))); obtain ⟨t93, b94, h⟩ := bnd1 h; refine W.fork (mkSt [(0, some (.imm (.row 5 (List.map lombardref30_Member.enc x0)))), (5, some (.ptr 1001 0)), (6, some (.i t67.2)), (70, some (.b ((t67.2 != t93) || (!(true == (t67.2 == 0))))))] [(1001, some (.box [.own 1002, .b v70.made])), (1002, some (.rows 32 5 (List.map auth_Member.enc v70.l) false))] 1003) ?_ ?_
    ·refine W.cnd Z h (fun q96 h => ?_) (fun q96 h => ?_)
     ·refine W.seq (W.pk (.A Z (.nil (W.ret ?_)))); cases h; exact lv Z Z
     ·refine W.skip (W.seq (W.seq (W.pk (.M Z (.B Z (.nil (W.cnd Z h (fun q97 h => ?_) (fun q97 h => ?_))))))))
      ·refine W.seq ?_; obtain ⟨t98, b99, h⟩ := bnd1 h; refine W.pk (.C (.b t98) [] 0 (lombardlaw30_awake.ok b99) ca9 Z .nil Z ?_); refine .A Z (.nil (W.ret ?_)); cases h; exact lv Z Z
      ·refine W.skip (W.seq ?_); obtain ⟨t100, b101, h⟩ := bnd1 h; rcases o102 : t100 with _ | v103
       ·rw [o102] at h; dsimp only at h; refine W.pk (.M Z (.C (.imm (.val (.pointer none))) [(1001, some (.box [.own 1003, .b v70.made])), (1003, some (.rows 32 5 (List.map auth_Member.enc v70.l) false)), (1001, none), (1002, none)] 1 (Spec.cast (.imm (.val (.pointer none))) (by rw [o102]) (auth_List_Clone_v2.ok b101)) ca12 Z (cC (.ptr _ _ _ _ _ Z (cC (.own _ _ _ _ Z) (cI .nil))) .nil) Z ?_)); refine .A Z (.nil (W.seq ?_)); obtain ⟨t104, b105, h⟩ := bnd1 h; refine W.pk (.M Z (.C (.i t104.1) [(1001, some (.box [.own 1004, .b t104.2.made])), (1004, some (.rows 32 5 (List.map auth_Member.enc t104.2.l) false)), (1001, none), (1003, none)] 1 (auth_List_Join.ok b105) ca13 Z (cC (.ptr _ _ _ _ _ Z (cC (.own _ _ _ _ Z) (cI .nil))) (cI (cI .nil))) Z ?_)); refine .nil (W.seq ?_); obtain ⟨t106, b107, h⟩ := bnd1 h; refine W.pk (.M Z (.C (.i t106.1) [(1001, some (.box [.own 1005, .b t106.2.made])), (1005, some (.rows 32 5 (List.map auth_Member.enc t106.2.l) false)), (1001, none), (1004, none)] 1 (auth_List_Default.ok b107) ca14 Z (cC (.ptr _ _ _ _ _ Z (cC (.own _ _ _ _ Z) (cI .nil))) (cI .nil)) Z ?_)); refine .nil (W.seq ?_); obtain ⟨t108, b109, h⟩ := bnd1 h; obtain ⟨t110, b111, h⟩ := bnd1 h; obtain ⟨t112, b113, h⟩ := bnd1 h; obtain ⟨t114, b115, h⟩ := bnd1 h; refine W.fork (mkSt [(2, some (.b (t112 && t114)))] [] 1007) ?_ ?_
        ·refine W.ret ?_; cases h; exact lv Z Z
        ·clear h; refine W.pk (.M Z (.C (.imm (.row 5 (List.map auth_Member.enc t108))) [] 0 (auth_List_All_v2.ok b109) ca17 Z (cI .nil) Z ?_)); refine .C (.own 1006) [(1006, some (.rows 31 5 (List.map lombardref30_Member.enc t110) false))] 1 (lombardlaw30_Told_v2.ok b111) ca16 Z (cI .nil) Z ?_; refine .M Z (.C (.b t112) [(1006, some (.rows 31 5 (List.map lombardref30_Member.enc t110) false)), (1006, none)] 0 (lombardref30_Same_v2.ok b113) ca15 Z (cC (.own _ _ _ _ Z) (cI .nil)) Z ?_); refine .M Z ?_; rcases tf t112 with g116 | g116
         ·refine .call (.b t114) [] 0 (lombardlaw30_awake.ok ((if_pos (by simp only [g116, BL])).symm.trans b115)) Z (met Z Z Z g116) Z ca9 Z Z .nil Z Z Z Z Z ?_; exact .T g116 Z (.A Z (.nil (toN (Gm [] (.c Z (sbb (by simp only [g116, BL])) Z .n) .n Z))))
         ·exact .X Z g116 (.E g116 Z (.A Z (.nil (toN (Gm [] (.c Z (sbb (by simp only [g116, BL])) Z .n) .n Z)))))
       ·rw [o102] at h; dsimp only at h; refine W.pk (.M Z (.C (.ptr 1003 0) [(1003, some (.box [.own 1004, .b v103.made])), (1004, some (.rows 32 5 (List.map auth_Member.enc v103.l) false)), (1001, some (.box [.own 1005, .b v70.made])), (1005, some (.rows 32 5 (List.map auth_Member.enc v70.l) false)), (1001, none), (1002, none)] 3 (Spec.cast (.xbox [.xown 32 5 (List.map auth_Member.enc v103.l), .imm (.val (.bool v103.made))]) (by rw [o102]) (auth_List_Clone_v2.ok b101)) ca12 Z (cC (.ptr _ _ _ _ _ Z (cC (.own _ _ _ _ Z) (cI .nil))) .nil) Z ?_)); refine .A Z (.nil (W.seq ?_)); obtain ⟨t117, b118, h⟩ := bnd1 h; refine W.pk (.M Z (.C (.i t117.1) [(1001, some (.box [.own 1006, .b t117.2.made])), (1006, some (.rows 32 5 (List.map auth_Member.enc t117.2.l) false)), (1001, none), (1005, none)] 1 (auth_List_Join.ok b118) ca13 Z (cC (.ptr _ _ _ _ _ Z (cC (.own _ _ _ _ Z) (cI .nil))) (cI (cI .nil))) Z ?_)); refine .nil (W.seq ?_); obtain ⟨t119, b120, h⟩ := bnd1 h; refine W.pk (.M Z (.C (.i t119.1) [(1001, some (.box [.own 1007, .b t119.2.made])), (1007, some (.rows 32 5 (List.map auth_Member.enc t119.2.l) false)), (1001, none), (1006, none)] 1 (auth_List_Default.ok b120) ca14 Z (cC (.ptr _ _ _ _ _ Z (cC (.own _ _ _ _ Z) (cI .nil))) (cI .nil)) Z ?_)); refine .nil (W.seq ?_); obtain ⟨t121, b122, h⟩ := bnd1 h; obtain ⟨t123, b124, h⟩ := bnd1 h; obtain ⟨t125, b126, h⟩ := bnd1 h; obtain ⟨t127, b128, h⟩ := bnd1 h; refine W.fork (mkSt [(2, some (.b (t125 && t127)))] [] 1011) ?_ ?_
        ·refine W.ret ?_; cases h; exact lv Z Z
        ·clear h; refine W.pk (.M Z (.C (.own 1008) [(1008, some (.rows 32 5 (List.map auth_Member.enc t121) false)), (1003, some (.box [.own 1009, .b v103.made])), (1009, some (.rows 32 5 (List.map auth_Member.enc v103.l) false)), (1003, none), (1004, none)] 2 (auth_List_All.ok b122) ca17 Z (cC (.ptr _ _ _ _ _ Z (cC (.own _ _ _ _ Z) (cI .nil))) .nil) Z ?_)); refine .C (.own 1010) [(1010, some (.rows 31 5 (List.map lombardref30_Member.enc t123) false)), (1008, some (.rows 32 5 (List.map auth_Member.enc t121) false)), (1008, none)] 1 (lombardlaw30_Told.ok b124) ca16 Z (cC (.own _ _ _ _ Z) .nil) Z ?_; refine .M Z (.C (.b t125) [(1010, some (.rows 31 5 (List.map lombardref30_Member.enc t123) false)), (1010, none)] 0 (lombardref30_Same_v2.ok b126) ca15 Z (cC (.own _ _ _ _ Z) (cI .nil)) Z ?_); refine .M Z ?_; rcases tf t125 with g129 | g129
         ·refine .call (.b t127) [] 0 (lombardlaw30_awake.ok ((if_pos (by simp only [g129, BL])).symm.trans b128)) Z (met Z Z Z g129) Z ca9 Z Z .nil Z Z Z Z Z ?_; exact .T g129 Z (.A Z (.nil (toN (Gm [] (.c Z (sbb (by simp only [g129, BL])) Z .n) .n Z))))
         ·exact .X Z g129 (.E g129 Z (.A Z (.nil (toN (Gm [] (.c Z (sbb (by simp only [g129, BL])) Z .n) .n Z)))))
    ·clear h; refine W.pk (.M Z (.M Z (.C (.i t93) [] 0 (lombardref30_Load.ok b94) ca11 Z (cI .nil) Z ?_))); refine .B Z (.M Z ?_); rcases tf (t67.2 != t93) with g95 | g95
     ·(iterate 5 refine .X Z g95 ?_); exact .T g95 Z (.nil (toN (Gm [] (.r Z Z (.r Z Z (.r Z Z (.c Z (sbb (by simp only [g95, BL])) Z .n)))) (.e Z Z) Z)))
     ·exact .N Z g95 (.U Z g95 (OpL.neP Z u23 Z Z Z) (.N Z g95 (.G Z g95 Z (.U Z g95 (OpL.neB Z u4 Z Z) (.E g95 Z (.nil (toN (Gm [] (.r Z Z (.r Z Z (.r Z Z (.c Z (sbb (by simp only [g95, BL])) Z .n)))) (.e Z Z) Z))))))))

noncomputable def auth_List_Find_1_v2.f (x0 : auth_Member) (x1 : Bs) : Option (Bool) :=
 (name_Same.f x0.Name x1).bind fun t1 =>
 some t1
theorem auth_List_Find_1_v2.ok {x0 : auth_Member} {x1 : Bs} {r : Bool} (h : auth_List_Find_1_v2.f x0 x1 = some r) : Pm.Spec prog 42 [.agg (im (auth_Member.enc x0)), .xbox [.imm (.val (.string (tx x1)))]] (.imm (.val (.bool r))) [none, some (.xbox [.imm (.val (.string (tx x1)))])] := by
 unfold auth_List_Find_1_v2.f at h; refine Pm.Spec.of_body Tryz.func42 Z (by kernel_rfl) (L Z) (L Z) ?_; refine W.ghost (σ' := (mkSt [(0, some (.agg (auth_Member.av x0))), (1, some (.ptr 0 0))] [(0, some (.box [.s x1]))] 1000)) (Gives.entry (.c Z (.c Z .n)) (.c Z .n)) (W.seq (W.pk (.t Z Z (O.box Z Z Z Z Z) (.A Z (.nil (W.seq ?_)))))); obtain ⟨t1, b2, h⟩ := bnd1 h; refine W.pk (.F fld32_1 Z (.V Z (O.ld (y := .s x0.Name) ty9 Z Z Z) (.V Z (O.ld (y := .s x1) ty9 Z Z Z) (.C (.b t1) [] 0 (name_Same.ok b2) ca37 Z (cI (cI .nil)) Z ?_)))); refine .A Z (.nil (W.ret ?_)); cases h; exact leaves (.inr Z) Z (.imm _) (cN (cS (.ptr _ _ _ _ _ Z (cI .nil)) .nil)) Z Z

noncomputable def auth_first_auth_Member__auth_List_Find_1.b0 (x0 : List auth_Member) (x1c0 : Bs) (v6 : Int) : Option (Int ⊕ ((auth_Member × Bool) ⊕ Unit)) :=
 if (decide (v6 < (List.length x0 : Int))) = true then
 if (0 : Int) ≤ v6 ∧ v6 < (List.length x0 : Int) then
 (auth_List_Find_1_v2.f (nth x0 v6) x1c0).bind fun t23 =>
 if t23 = true then
 some (.inr (.inl ((nth x0 v6), true)))
 else some (.inl (IntKind.wrap .i64 (v6 + 1)))
 else none
 else some (.inr (.inr ()))
noncomputable def auth_first_auth_Member__auth_List_Find_1.r0 (x0 : List auth_Member) (x1c0 : Bs) (s : Int) : Option (Int ⊕ ((auth_Member × Bool) ⊕ Unit)) := auth_first_auth_Member__auth_List_Find_1.b0 x0 x1c0 s
noncomputable def auth_first_auth_Member__auth_List_Find_1.f (x0 : List auth_Member) (x1c0 : Bs) : Option (auth_Member × Bool) :=
 (loop (auth_first_auth_Member__auth_List_Find_1.r0 x0 x1c0) 0).bind fun o18 =>
 match o18 with
 | .inl r26 => some r26
 | .inr w17 =>
 some ((⟨0, [], 0, 0, false⟩ : auth_Member), false)
theorem auth_first_auth_Member__auth_List_Find_1.ok {x0 : List auth_Member} {x1c0 : Bs} {r : auth_Member × Bool} (h : auth_first_auth_Member__auth_List_Find_1.f x0 x1c0 = some r) : Pm.Spec prog 41 [.xown 32 5 (List.map auth_Member.enc x0), .fn 42 [.xbox [.imm (.val (.string (tx x1c0)))]]] (.tup [.agg [.imm (.val (.int .i64 r.1.ID)), .imm (.val (.string (tx r.1.Name))), .imm (.val (.int .i64 r.1.State)), .imm (.val (.int .i64 r.1.Bound)), .imm (.val (.bool r.1.Late))], .imm (.val (.bool r.2))]) [some (.xown 32 5 (List.map auth_Member.enc x0)), some (.fn 42 [.xbox [.imm (.val (.string (tx x1c0)))]])] := by
 unfold auth_first_auth_Member__auth_List_Find_1.f at h; refine Pm.Spec.of_body Tryz.func41 Z (by kernel_rfl) (L Z) (L Z) ?_; refine W.ghost (σ' := (mkSt [(0, some (.own 0)), (1, some (.fn 42 [.ptr 1 0]))] [(0, some (.rows 32 5 (List.map auth_Member.enc x0) false)), (1, some (.box [.s x1c0]))] 1000)) (Gives.entry (.c Z (.c Z .n)) (.c Z (.c Z .n))) (W.seq (W.pk (.t Z Z (O.alloc z32 Z) (.A Z (.nil (W.seq (W.seq (W.pk (.M Z (.V Z (O.lenO sl29 Z Z Z) (.M Z ?_))))))))))); refine .nil ?_; obtain ⟨o18, b19, z20⟩ := bnd1 h; refine W.fork2 (out := o18) (fun (w17 : Unit) => mkSt [(4, some (.ptr 1000 0))] [(0, some (.rows 32 5 (List.map auth_Member.enc x0) false)), (1, some (.box [.s x1c0])), (1000, some (.box [.i 0, .s [], .i 0, .i 0, .b false]))] 1001) ?_ ?_
 ·clear h; refine W.block (W.loopF (fun (s_ : Int) => mkSt [(1, some (.fn 42 [.ptr 1 0])), (4, some (.ptr 1000 0)), (9, some (.own 0)), (10, some (.i (List.length x0 : Int))), (11, some (.i s_))] [(0, some (.rows 32 5 (List.map auth_Member.enc x0) false)), (1, some (.box [.s x1c0])), (1000, some (.box [.i 0, .s [], .i 0, .i 0, .b false]))] 1001) b19 (Gm [] (.e Z Z) (.e Z Z) Z) ?_); rintro v6 s_ hr; have h : auth_first_auth_Member__auth_List_Find_1.b0 x0 x1c0 v6 = some s_ := hr; unfold auth_first_auth_Member__auth_List_Find_1.b0 at h; refine W.seq (W.pk (.B Z (.nil (W.seq (W.cnd Z h (fun q21 h => ?_) (fun q21 h => ?_))))))
  ·refine W.skip (W.seq (W.block (W.seq ?_))); obtain ⟨c22, h⟩ := chk h; refine W.pk (.V Z (O.idxO sl29 c22 Z Z Z Z) (.V Z (O.ldEN ty32 c22 Z Z Z Z Z) (.t Z Z (O.alloc z32 Z) (.S ty32 Z [.i ((nth x0 v6).ID), .s ((nth x0 v6).Name), .i ((nth x0 v6).State), .i ((nth x0 v6).Bound), .b ((nth x0 v6).Late)] Z (.nil (W.seq ?_)))))); obtain ⟨t23, b24, h⟩ := bnd1 h; refine W.pk (.M Z (.V Z (O.ldN ty32 Z Z Z) (.C (.b t23) [(1, some (.box [.s x1c0])), (1, none)] 0 (auth_List_Find_1_v2.ok b24) ca42 Z (cC (.agg _ _ _ _ (cI (cI (cI (cI (cI .nil)))))) (cC (.ptr _ _ _ _ _ Z (cI .nil)) .nil)) Z ?_))); refine .nil (W.cnd Z h (fun q25 h => ?_) (fun q25 h => ?_))
   ·refine W.seq (W.pk (.V Z (O.ldN ty32 Z Z Z) (.S ty32 Z [.i ((nth x0 v6).ID), .s ((nth x0 v6).Name), .i ((nth x0 v6).State), .i ((nth x0 v6).Bound), .b ((nth x0 v6).Late)] Z (.A Z (.nil (W.ret ?_)))))); cases h; refine rdR fun e_ => ?_; subst e_; have h := z20; dsimp only at h; refine fkR ?_; cases h; exact leaves (.inr Z) Z (.tup _ _ _ _ (cC (.agg _ _ _ _ (cI (cI (cI (cI (cI .nil)))))) (cI .nil))) (cS (.own _ _ _ _ Z) (cS (.fn _ _ _ _ _ (cC (.ptr _ _ _ _ _ Z (cI .nil)) .nil)) .nil)) Z Z
   ·refine W.skip (W.pk (.B Z (.M Z (.nil ?_)))); cases h; exact rdN (Gm [] (.e Z Z) (.e Z Z) Z)
  ·refine W.exit ?_; cases h; refine rdX fun e_ => ?_; subst e_; (repeat with_reducible refine thru ?_); exact hit (fkN (Gm [] (.r Z Z .n) (.e Z Z) Z))
 ·intro w17 e_; subst e_; clear h; have h := z20; dsimp only at h; refine W.seq (W.pk (.t Z Z (O.alloc z32 Z) (.nil (W.seq (W.pk (.V Z (O.ldN ty32 Z Z Z) (.S ty32 Z [.i 0, .s [], .i 0, .i 0, .b false] Z (.A Z (.nil (W.ret ?_)))))))))); cases h; exact leaves (.inr Z) Z (.tup _ _ _ _ (cC (.agg _ _ _ _ (cI (cI (cI (cI (cI .nil)))))) (cI .nil))) (cS (.own _ _ _ _ Z) (cS (.fn _ _ _ _ _ (cC (.ptr _ _ _ _ _ Z (cI .nil)) .nil)) .nil)) Z Z

noncomputable def auth_List_Find.f (x0 : auth_List) (x1 : Bs) : Option (auth_Member × Bool) :=
 (auth_first_auth_Member__auth_List_Find_1.f x0.l x1).bind fun t1 =>
 some (t1.1, t1.2)
theorem auth_List_Find.ok {x0 : auth_List} {x1 : Bs} {r : auth_Member × Bool} (h : auth_List_Find.f x0 x1 = some r) : Pm.Spec prog 20 [.xbox [.xown 32 5 (List.map auth_Member.enc x0.l), .imm (.val (.bool x0.made))], .imm (.val (.string (tx x1)))] (.tup [.agg [.imm (.val (.int .i64 r.1.ID)), .imm (.val (.string (tx r.1.Name))), .imm (.val (.int .i64 r.1.State)), .imm (.val (.int .i64 r.1.Bound)), .imm (.val (.bool r.1.Late))], .imm (.val (.bool r.2))]) [some (.xbox [.xown 32 5 (List.map auth_Member.enc x0.l), .imm (.val (.bool x0.made))]), none] := by
 unfold auth_List_Find.f at h; refine Pm.Spec.of_body Tryz.func20 Z (by kernel_rfl) (L Z) (L Z) ?_; refine W.ghost (σ' := (mkSt [(0, some (.ptr 0 0)), (1, some (.s x1))] [(0, some (.box [.own 1, .b x0.made])), (1, some (.rows 32 5 (List.map auth_Member.enc x0.l) false))] 1000)) (Gives.entry (.c Z (.c Z .n)) (.c Z (.c Z .n))) (W.ghost (σ' := (mkSt [(0, some (.ptr 0 0)), (1, some (.s x1))] [(0, some (.box [.own 1000, .b x0.made])), (1000, some (.rows 32 5 (List.map auth_Member.enc x0.l) false))] 1001)) (Gm [(1000, 1)] (.e Z Z) (.e Z Z) Z) (W.seq (W.pk (.t Z Z (O.box Z Z Z Z Z) (.t Z Z (O.alloc z32 Z) (.A Z (.nil (W.seq (W.seq (W.pk (.M Z ?_))))))))))); refine .V Z (OpL.eqP Z u23 Z Z Z) (.nil (W.cond Z (fun q => by cases q) (fun _ => ?_)))
 refine W.skip (W.seq ?_); obtain ⟨t1, b2, h⟩ := bnd1 h; refine W.pk (.M Z (.V Z (OpL.nilP Z Z Z) (.F fld79_0 Z (.V Z (O.ld (y := .own 1000) ty29 Z Z Z) (.V Z (OpL.mkfn Z Z) (.C (.tup [.agg (auth_Member.av t1.1), .b t1.2]) [(1000, some (.rows 32 5 (List.map auth_Member.enc x0.l) false)), (1001, some (.box [.s x1])), (1000, none), (1001, none)] 0 (auth_first_auth_Member__auth_List_Find_1.ok b2) ca41 Z (cC (.own _ _ _ _ Z) (cC (.fn _ _ _ _ _ (cC (.ptr _ _ _ _ _ Z (cI .nil)) .nil)) .nil)) Z ?_)))))); (iterate 2 refine .V Z (OpL.extract Z Z Z) ?_); refine .S ty32 Z [.i t1.1.ID, .s t1.1.Name, .i t1.1.State, .i t1.1.Bound, .b t1.1.Late] Z (.A Z (.nil (W.ret ?_))); cases h; exact leaves (.inr Z) Z (.tup _ _ _ _ (cC (.agg _ _ _ _ (cI (cI (cI (cI (cI .nil)))))) (cI .nil))) (cS (.ptr _ _ _ _ _ Z (cC (.own _ _ _ _ Z) (cI .nil))) (cN .nil)) Z Z

noncomputable def lombardlaw30_AuthTells.f (x0 : List lombardlaw30_Act) (x1 : Int) (x2 : Bs) : Option (Bool) :=
 (lombardlaw30_filled.f x0).bind fun t1 =>
 if ((!t1.2.2) || (decide ((List.length x2 : Int) > 600))) = true then
 (if t1.2.2 = true then lombardlaw30_awake.f else some default).bind fun t5 =>
 some (t1.2.2 && t5)
 else (auth_List_Get.f t1.1 x1).bind fun t8 =>
 (lombardref30_Find.f t1.2.1 x1).bind fun t10 =>
 (auth_List_Find.f t1.1 x2).bind fun t12 =>
 (lombardref30_Named.f t1.2.1 x2).bind fun t14 =>
 (if ((!(t8.2 == (decide (t10 ≥ 0)))) || (!(t12.2 == (decide (t14 ≥ 0))))) = false ∧ t8.2 = true then lombardlaw30_Told.f [t8.1] else some default).bind fun t16 =>
 if (((!(t8.2 == (decide (t10 ≥ 0)))) || (!(t12.2 == (decide (t14 ≥ 0))))) = false ∧ t8.2 = true → (0 : Int) ≤ 0 ∧ 0 < (List.length t16 : Int)) then
 if (((!(t8.2 == (decide (t10 ≥ 0)))) || (!(t12.2 == (decide (t14 ≥ 0))))) = false ∧ t8.2 = true → (0 : Int) ≤ t10 ∧ t10 < (List.length t1.2.1 : Int)) then
 (if (((!(t8.2 == (decide (t10 ≥ 0)))) || (!(t12.2 == (decide (t14 ≥ 0))))) || (t8.2 && (!((((nth t16 0).ID) == ((nth t1.2.1 t10).ID)) && ((((nth t16 0).Name) == ((nth t1.2.1 t10).Name)) && ((((nth t16 0).State) == ((nth t1.2.1 t10).State)) && ((((nth t16 0).Bound) == ((nth t1.2.1 t10).Bound)) && (((nth t16 0).Late) == ((nth t1.2.1 t10).Late))))))))) = false ∧ t12.2 = true then lombardlaw30_Told.f [t12.1] else some default).bind fun t20 =>
 if ((((!(t8.2 == (decide (t10 ≥ 0)))) || (!(t12.2 == (decide (t14 ≥ 0))))) || (t8.2 && (!((((nth t16 0).ID) == ((nth t1.2.1 t10).ID)) && ((((nth t16 0).Name) == ((nth t1.2.1 t10).Name)) && ((((nth t16 0).State) == ((nth t1.2.1 t10).State)) && ((((nth t16 0).Bound) == ((nth t1.2.1 t10).Bound)) && (((nth t16 0).Late) == ((nth t1.2.1 t10).Late))))))))) = false ∧ t12.2 = true → (0 : Int) ≤ 0 ∧ 0 < (List.length t20 : Int)) then
 if ((((!(t8.2 == (decide (t10 ≥ 0)))) || (!(t12.2 == (decide (t14 ≥ 0))))) || (t8.2 && (!((((nth t16 0).ID) == ((nth t1.2.1 t10).ID)) && ((((nth t16 0).Name) == ((nth t1.2.1 t10).Name)) && ((((nth t16 0).State) == ((nth t1.2.1 t10).State)) && ((((nth t16 0).Bound) == ((nth t1.2.1 t10).Bound)) && (((nth t16 0).Late) == ((nth t1.2.1 t10).Late))))))))) = false ∧ t12.2 = true → (0 : Int) ≤ t14 ∧ t14 < (List.length t1.2.1 : Int)) then
 if ((((!(t8.2 == (decide (t10 ≥ 0)))) || (!(t12.2 == (decide (t14 ≥ 0))))) || (t8.2 && (!((((nth t16 0).ID) == ((nth t1.2.1 t10).ID)) && ((((nth t16 0).Name) == ((nth t1.2.1 t10).Name)) && ((((nth t16 0).State) == ((nth t1.2.1 t10).State)) && ((((nth t16 0).Bound) == ((nth t1.2.1 t10).Bound)) && (((nth t16 0).Late) == ((nth t1.2.1 t10).Late))))))))) || (t12.2 && (!((((nth t20 0).ID) == ((nth t1.2.1 t14).ID)) && ((((nth t20 0).Name) == ((nth t1.2.1 t14).Name)) && ((((nth t20 0).State) == ((nth t1.2.1 t14).State)) && ((((nth t20 0).Bound) == ((nth t1.2.1 t14).Bound)) && (((nth t20 0).Late) == ((nth t1.2.1 t14).Late))))))))) = true then
 some false
 else (auth_List_Able.f t1.1 x1).bind fun t31 =>
 if ((decide (t10 ≥ 0)) = true → (0 : Int) ≤ t10 ∧ t10 < (List.length t1.2.1 : Int)) then
 (if (t31 == ((decide (t10 ≥ 0)) && (((nth t1.2.1 t10).State) != 3))) = true then lombardlaw30_awake.f else some default).bind fun t34 =>
 some ((t31 == ((decide (t10 ≥ 0)) && (((nth t1.2.1 t10).State) != 3))) && t34)
 else none
 else none
 else none
 else none
 else none
theorem lombardlaw30_AuthTells.ok {x0 : List lombardlaw30_Act} {x1 : Int} {x2 : Bs} {r : Bool} (h : lombardlaw30_AuthTells.f x0 x1 x2 = some r) : Pm.Spec prog 5 [.imm (.row 5 (List.map lombardlaw30_Act.enc x0)), .imm (.val (.int .i64 x1)), .imm (.val (.string (tx x2)))] (.imm (.val (.bool r))) [none, none, none] := by
 unfold lombardlaw30_AuthTells.f at h; refine Pm.Spec.of_body Tryz.func5 Z (by kernel_rfl) (L Z) (L Z) ?_; refine W.ghost (σ' := (mkSt [(0, some (.imm (.row 5 (List.map lombardlaw30_Act.enc x0)))), (1, some (.i x1)), (2, some (.s x2))] [] 1000)) (Gives.entry (.c Z (.c Z (.c Z .n))) .n) (W.seq (W.pk (.A Z (.nil (W.seq ?_))))); obtain ⟨t1, b2, h⟩ := bnd1 h; refine W.pk (.M Z (.C (.tup [.ptr 1000 0, .own 1002, .b t1.2.2]) [(1000, some (.box [.own 1001, .b t1.1.made])), (1001, some (.rows 32 5 (List.map auth_Member.enc t1.1.l) false)), (1002, some (.rows 31 5 (List.map lombardref30_Member.enc t1.2.1) false))] 3 (lombardlaw30_filled.ok b2) ca8 Z (cI .nil) Z ?_)); refine .M Z ?_; (iterate 3 refine .V Z (OpL.extract Z Z Z) ?_); refine .A Z (.A Z (.A Z (.nil (W.seq (W.seq (W.fork (mkSt [(1, some (.i x1)), (2, some (.s x2)), (7, some (.ptr 1000 0)), (8, some (.own 1002)), (9, some (.b t1.2.2)), (28, some (.b ((!t1.2.2) || (decide ((List.length x2 : Int) > 600)))))] [(1000, some (.box [.own 1001, .b t1.1.made])), (1001, some (.rows 32 5 (List.map auth_Member.enc t1.1.l) false)), (1002, some (.rows 31 5 (List.map lombardref30_Member.enc t1.2.1) false))] 1003) ?_ ?_))))))
 ·refine W.cnd Z h (fun q4 h => ?_) (fun q4 h => ?_)
  ·refine W.seq ?_; obtain ⟨t5, b6, h⟩ := bnd1 h; refine W.fork (mkSt [(6, some (.b (t1.2.2 && t5)))] [] 1003) ?_ ?_
   ·refine W.ret ?_; cases h; exact leaves (.inr Z) Z (.imm _) (cN (cN (cN .nil))) Z Z
   ·clear h; refine W.pk (.M Z (.M Z ?_)); rcases tf t1.2.2 with g7 | g7
    ·refine .call (.b t5) [] 0 (lombardlaw30_awake.ok ((if_pos (by simp only [g7, BL])).symm.trans b6)) Z (met Z Z Z g7) Z ca9 Z Z .nil Z Z Z Z Z ?_; exact .T g7 Z (.A Z (.nil (toN (Gm [] (.c Z (sbb (by simp only [g7, BL])) Z .n) .n Z))))
    ·exact .X Z g7 (.E g7 Z (.A Z (.nil (toN (Gm [] (.c Z (sbb (by simp only [g7, BL])) Z .n) .n Z)))))
  ·refine W.skip (W.seq ?_); obtain ⟨t8, b9, h⟩ := bnd1 h; refine W.pk (.M Z (.M Z (.C (.tup [.agg (auth_Member.av t8.1), .b t8.2]) [(1000, some (.box [.own 1003, .b t1.1.made])), (1003, some (.rows 32 5 (List.map auth_Member.enc t1.1.l) false)), (1000, none), (1001, none)] 1 (auth_List_Get.ok b9) ca18 Z (cC (.ptr _ _ _ _ _ Z (cC (.own _ _ _ _ Z) (cI .nil))) (cI .nil)) Z ?_))); refine .M Z ?_; (iterate 2 refine .V Z (OpL.extract Z Z Z) ?_); refine .t Z Z (O.alloc z32 Z) (.S ty32 Z [.i t8.1.ID, .s t8.1.Name, .i t8.1.State, .i t8.1.Bound, .b t8.1.Late] Z (.A Z (.nil (W.seq ?_)))); obtain ⟨t10, b11, h⟩ := bnd1 h; refine W.pk (.M Z (.M Z (.C (.i t10) [(1002, some (.rows 31 5 (List.map lombardref30_Member.enc t1.2.1) false)), (1002, none)] 0 (lombardref30_Find.ok b11) ca19 Z (cC (.own _ _ _ _ Z) (cI .nil)) Z ?_))); refine .A Z (.nil (W.seq ?_)); obtain ⟨t12, b13, h⟩ := bnd1 h; refine W.pk (.M Z (.M Z (.C (.tup [.agg (auth_Member.av t12.1), .b t12.2]) [(1000, some (.box [.own 1005, .b t1.1.made])), (1005, some (.rows 32 5 (List.map auth_Member.enc t1.1.l) false)), (1000, none), (1003, none)] 1 (auth_List_Find.ok b13) ca20 Z (cC (.ptr _ _ _ _ _ Z (cC (.own _ _ _ _ Z) (cI .nil))) (cI .nil)) Z ?_))); refine .M Z ?_; (iterate 2 refine .V Z (OpL.extract Z Z Z) ?_); refine .t Z Z (O.alloc z32 Z) (.S ty32 Z [.i t12.1.ID, .s t12.1.Name, .i t12.1.State, .i t12.1.Bound, .b t12.1.Late] Z (.A Z (.nil (W.seq ?_)))); obtain ⟨t14, b15, h⟩ := bnd1 h; refine W.pk (.M Z (.M Z (.C (.i t14) [(1002, some (.rows 31 5 (List.map lombardref30_Member.enc t1.2.1) false)), (1002, none)] 0 (lombardref30_Named.ok b15) ca21 Z (cC (.own _ _ _ _ Z) (cI .nil)) Z ?_))); refine .A Z (.nil (W.seq (W.seq ?_))); obtain ⟨t16, b17, h⟩ := bnd1 h; obtain ⟨c18, h⟩ := chk h; obtain ⟨c19, h⟩ := chk h; obtain ⟨t20, b21, h⟩ := bnd1 h; obtain ⟨c22, h⟩ := chk h; obtain ⟨c23, h⟩ := chk h; refine W.fork (mkSt [(1, some (.i x1)), (7, some (.ptr 1000 0)), (8, some (.own 1002)), (12, some (.i t10)), (90, some (.b ((((!(t8.2 == (decide (t10 ≥ 0)))) || (!(t12.2 == (decide (t14 ≥ 0))))) || (t8.2 && (!((((nth t16 0).ID) == ((nth t1.2.1 t10).ID)) && ((((nth t16 0).Name) == ((nth t1.2.1 t10).Name)) && ((((nth t16 0).State) == ((nth t1.2.1 t10).State)) && ((((nth t16 0).Bound) == ((nth t1.2.1 t10).Bound)) && (((nth t16 0).Late) == ((nth t1.2.1 t10).Late))))))))) || (t12.2 && (!((((nth t20 0).ID) == ((nth t1.2.1 t14).ID)) && ((((nth t20 0).Name) == ((nth t1.2.1 t14).Name)) && ((((nth t20 0).State) == ((nth t1.2.1 t14).State)) && ((((nth t20 0).Bound) == ((nth t1.2.1 t14).Bound)) && (((nth t20 0).Late) == ((nth t1.2.1 t14).Late)))))))))))] [(1000, some (.box [.own 1005, .b t1.1.made])), (1002, some (.rows 31 5 (List.map lombardref30_Member.enc t1.2.1) false)), (1005, some (.rows 32 5 (List.map auth_Member.enc t1.1.l) false))] 1011) ?_ ?_
   ·refine W.cnd Z h (fun q30 h => ?_) (fun q30 h => ?_)
    ·refine W.seq (W.pk (.A Z (.nil (W.ret ?_)))); cases h; exact leaves (.inr Z) Z (.imm _) (cN (cN (cN .nil))) Z Z
    ·refine W.skip (W.seq ?_); obtain ⟨t31, b32, h⟩ := bnd1 h; obtain ⟨c33, h⟩ := chk h; obtain ⟨t34, b35, h⟩ := bnd1 h; refine W.fork (mkSt [(6, some (.b ((t31 == ((decide (t10 ≥ 0)) && (((nth t1.2.1 t10).State) != 3))) && t34)))] [] 1012) ?_ ?_
     ·refine W.ret ?_; cases h; exact leaves (.inr Z) Z (.imm _) (cN (cN (cN .nil))) Z Z
     ·clear h; refine W.pk (.M Z (.M Z (.C (.b t31) [(1000, some (.box [.own 1011, .b t1.1.made])), (1011, some (.rows 32 5 (List.map auth_Member.enc t1.1.l) false)), (1000, none), (1005, none)] 1 (auth_List_Able.ok b32) ca22 Z (cC (.ptr _ _ _ _ _ Z (cC (.own _ _ _ _ Z) (cI .nil))) (cI .nil)) Z ?_))); refine .M Z (.B Z (.M Z ?_)); rcases tf (decide (t10 ≥ 0)) with g36 | g36
      ·refine .N Z g36 (.N Z g36 (.U Z g36 (O.idxO sl24 (c33 (by simp only [g36, BL])) Z Z Z Z) ?_)); refine .H fld31_2 Z g36 Z (.U Z g36 (O.ldE (c := (.val (.int .i64 ((nth t1.2.1 t10).State)))) ty3 (c33 (by simp only [g36, BL])) Z Z Z Z Z) ?_); refine .G Z g36 Z (.T g36 Z (.V Z (OpL.eqB Z u4 Z Z) (.M Z ?_))); rcases tf (t31 == (((nth t1.2.1 t10).State) != 3)) with g37 | g37
       ·refine .call (.b t34) [] 0 (lombardlaw30_awake.ok ((if_pos (by first | (simp only [g36, g37, BL]; done) | (repeat (first | rw [g36] | rw [g37])) <;> simp only [BL])).symm.trans b35)) Z (met Z Z Z g37) Z ca9 Z Z .nil Z Z Z Z Z ?_; exact .T g37 Z (.A Z (.nil (toN (Gm [] (.c Z (sbb (by first | (simp only [g36, g37, BL]; done) | (repeat (first | rw [g36] | rw [g37])) <;> simp only [BL])) Z .n) .n Z))))
       ·exact .X Z g37 (.E g37 Z (.A Z (.nil (toN (Gm [] (.c Z (sbb (by first | (simp only [g36, g37, BL]; done) | (repeat (first | rw [g36] | rw [g37])) <;> simp only [BL])) Z .n) .n Z)))))
      ·(iterate 6 refine .X Z g36 ?_); refine .E g36 Z (.V Z (OpL.eqB Z u4 Z Z) (.M Z ?_)); rcases tf (t31 == false) with g38 | g38
       ·refine .call (.b t34) [] 0 (lombardlaw30_awake.ok ((if_pos (by first | (simp only [g36, g38, BL]; done) | (repeat (first | rw [g36] | rw [g38])) <;> simp only [BL])).symm.trans b35)) Z (met Z Z Z g38) Z ca9 Z Z .nil Z Z Z Z Z ?_; exact .T g38 Z (.A Z (.nil (toN (Gm [] (.c Z (sbb (by first | (simp only [g36, g38, BL]; done) | (repeat (first | rw [g36] | rw [g38])) <;> simp only [BL])) Z .n) .n Z))))
       ·exact .X Z g38 (.E g38 Z (.A Z (.nil (toN (Gm [] (.c Z (sbb (by first | (simp only [g36, g38, BL]; done) | (repeat (first | rw [g36] | rw [g38])) <;> simp only [BL])) Z .n) .n Z)))))
   ·clear h; refine W.dk (unm 40 [0, 0, 2, 7, 15, 31, 31, 95, 255, 511, 1023, 2047, 4095, 8191, 16383, 32767, 65535, 131071, 8191, 8191, 794623, 1843199, 4194303, 8388607, 16777215, 33554431, 67108863, 134217727, 268435455, 536870911, 1073741823, 2147483647, 4294967295, 268435455, 268435455, 26038239231, 60397977599, 137438953471, 274877906943, 549755813887]) Z (by kernel_rfl) ?_; refine .M Z (.M Z (.B Z (.V Z (OpL.neB Z u4 Z Z) (.M Z ?_)))); rcases tf (t8.2 == (decide (t10 ≥ 0))) with g24 | g24
    ·refine .N Z (notT g24) (.N Z (notT g24) (.G Z (notT g24) Z (.U Z (notT g24) (OpL.neB Z u4 Z Z) (.E (notT g24) Z (.M Z ?_))))); rcases tf (t12.2 == (decide (t14 ≥ 0))) with g25 | g25
     ·refine .N Z (notT g25) (.N Z (notT g25) ?_); rcases tf t8.2 with g26 | g26
      ·refine .U Z g26 (O.ldN ty32 Z Z Z) (.t Z (met Z Z Z g26) (O.lit (enc := auth_Member.enc) (l := [t8.1]) sl29 Z Z Z Z Z Z Z Z Z) (.call (.own 1008) [(1008, some (.rows 31 5 (List.map lombardref30_Member.enc t16) false)), (1007, some (.rows 32 5 (List.map auth_Member.enc [t8.1]) false)), (1007, none)] 1 (lombardlaw30_Told.ok ((if_pos ⟨(by first | (simp only [g24, g25, g26, BL]; done) | (repeat (first | rw [g24] | rw [g25] | rw [g26])) <;> simp only [BL]), (by first | (simp only [g24, g25, g26, BL]; done) | (repeat (first | rw [g24] | rw [g25] | rw [g26])) <;> simp only [BL])⟩).symm.trans b17)) Z (met Z Z Z g26) Z ca16 Z Z (cC (.own _ _ _ _ Z) .nil) Z Z Z Z Z ?_)); refine .U Z g26 (O.idxO sl24 (c18 ⟨(by first | (simp only [g24, g25, g26, BL]; done) | (repeat (first | rw [g24] | rw [g25] | rw [g26])) <;> simp only [BL]), (by first | (simp only [g24, g25, g26, BL]; done) | (repeat (first | rw [g24] | rw [g25] | rw [g26])) <;> simp only [BL])⟩) Z Z Z Z) ?_; refine .U Z g26 (O.ldEN ty31 (c18 ⟨(by first | (simp only [g24, g25, g26, BL]; done) | (repeat (first | rw [g24] | rw [g25] | rw [g26])) <;> simp only [BL]), (by first | (simp only [g24, g25, g26, BL]; done) | (repeat (first | rw [g24] | rw [g25] | rw [g26])) <;> simp only [BL])⟩) Z Z Z Z Z) ?_; refine .N Z g26 (.N Z g26 (.U Z g26 (O.idxO sl24 (c19 ⟨(by first | (simp only [g24, g25, g26, BL]; done) | (repeat (first | rw [g24] | rw [g25] | rw [g26])) <;> simp only [BL]), (by first | (simp only [g24, g25, g26, BL]; done) | (repeat (first | rw [g24] | rw [g25] | rw [g26])) <;> simp only [BL])⟩) Z Z Z Z) ?_)); refine .U Z g26 (O.ldEN ty31 (c19 ⟨(by first | (simp only [g24, g25, g26, BL]; done) | (repeat (first | rw [g24] | rw [g25] | rw [g26])) <;> simp only [BL]), (by first | (simp only [g24, g25, g26, BL]; done) | (repeat (first | rw [g24] | rw [g25] | rw [g26])) <;> simp only [BL])⟩) Z Z Z Z Z) ?_; refine .U Z g26 (O.neS (r := ((((nth t16 0).ID) == ((nth t1.2.1 t10).ID)) && ((((nth t16 0).Name) == ((nth t1.2.1 t10).Name)) && ((((nth t16 0).State) == ((nth t1.2.1 t10).State)) && ((((nth t16 0).Bound) == ((nth t1.2.1 t10).Bound)) && (((nth t16 0).Late) == ((nth t1.2.1 t10).Late))))))) fl31 Z Z Z Z Z Z) (.U Z (notT g25) (O.pickT g26 Z Z Z) (.E (notT g25) Z (.M Z ?_))); rcases tf ((((nth t16 0).ID) == ((nth t1.2.1 t10).ID)) && ((((nth t16 0).Name) == ((nth t1.2.1 t10).Name)) && ((((nth t16 0).State) == ((nth t1.2.1 t10).State)) && ((((nth t16 0).Bound) == ((nth t1.2.1 t10).Bound)) && (((nth t16 0).Late) == ((nth t1.2.1 t10).Late)))))) with g27 | g27
       ·refine .N Z (notT g27) (.N Z (notT g27) ?_); rcases tf t12.2 with g28 | g28
        ·refine .U Z g28 (O.ldN ty32 Z Z Z) (.t Z (met Z Z Z g28) (O.lit (enc := auth_Member.enc) (l := [t12.1]) sl29 Z Z Z Z Z Z Z Z Z) (.call (.own 1010) [(1010, some (.rows 31 5 (List.map lombardref30_Member.enc t20) false)), (1009, some (.rows 32 5 (List.map auth_Member.enc [t12.1]) false)), (1009, none)] 1 (lombardlaw30_Told.ok ((if_pos ⟨(by first | (simp only [g24, g25, g26, g27, g28, BL]; done) | (repeat (first | rw [g24] | rw [g25] | rw [g26] | rw [g27] | rw [g28])) <;> simp only [BL]), (by first | (simp only [g24, g25, g26, g27, g28, BL]; done) | (repeat (first | rw [g24] | rw [g25] | rw [g26] | rw [g27] | rw [g28])) <;> simp only [BL])⟩).symm.trans b21)) Z (met Z Z Z g28) Z ca16 Z Z (cC (.own _ _ _ _ Z) .nil) Z Z Z Z Z ?_)); refine .U Z g28 (O.idxO sl24 (c22 ⟨(by first | (simp only [g24, g25, g26, g27, g28, BL]; done) | (repeat (first | rw [g24] | rw [g25] | rw [g26] | rw [g27] | rw [g28])) <;> simp only [BL]), (by first | (simp only [g24, g25, g26, g27, g28, BL]; done) | (repeat (first | rw [g24] | rw [g25] | rw [g26] | rw [g27] | rw [g28])) <;> simp only [BL])⟩) Z Z Z Z) ?_; refine .U Z g28 (O.ldEN ty31 (c22 ⟨(by first | (simp only [g24, g25, g26, g27, g28, BL]; done) | (repeat (first | rw [g24] | rw [g25] | rw [g26] | rw [g27] | rw [g28])) <;> simp only [BL]), (by first | (simp only [g24, g25, g26, g27, g28, BL]; done) | (repeat (first | rw [g24] | rw [g25] | rw [g26] | rw [g27] | rw [g28])) <;> simp only [BL])⟩) Z Z Z Z Z) ?_; refine .N Z g28 (.N Z g28 (.U Z g28 (O.idxO sl24 (c23 ⟨(by first | (simp only [g24, g25, g26, g27, g28, BL]; done) | (repeat (first | rw [g24] | rw [g25] | rw [g26] | rw [g27] | rw [g28])) <;> simp only [BL]), (by first | (simp only [g24, g25, g26, g27, g28, BL]; done) | (repeat (first | rw [g24] | rw [g25] | rw [g26] | rw [g27] | rw [g28])) <;> simp only [BL])⟩) Z Z Z Z) ?_)); refine .U Z g28 (O.ldEN ty31 (c23 ⟨(by first | (simp only [g24, g25, g26, g27, g28, BL]; done) | (repeat (first | rw [g24] | rw [g25] | rw [g26] | rw [g27] | rw [g28])) <;> simp only [BL]), (by first | (simp only [g24, g25, g26, g27, g28, BL]; done) | (repeat (first | rw [g24] | rw [g25] | rw [g26] | rw [g27] | rw [g28])) <;> simp only [BL])⟩) Z Z Z Z Z) ?_; refine .U Z g28 (O.neS (r := ((((nth t20 0).ID) == ((nth t1.2.1 t14).ID)) && ((((nth t20 0).Name) == ((nth t1.2.1 t14).Name)) && ((((nth t20 0).State) == ((nth t1.2.1 t14).State)) && ((((nth t20 0).Bound) == ((nth t1.2.1 t14).Bound)) && (((nth t20 0).Late) == ((nth t1.2.1 t14).Late))))))) fl31 Z Z Z Z Z Z) (.U Z (notT g27) (O.pickT g28 Z Z Z) (.E (notT g27) Z (.nil ?_))); refine ⟨by kernel_rfl, by kernel_rfl, ?_⟩; exact toN (Gm [] (.r Z Z (.r Z Z (.r Z Z (.r Z Z (.c Z (sbb (by first | (simp only [g24, g25, g26, g27, g28, BL]; done) | (repeat (first | rw [g24] | rw [g25] | rw [g26] | rw [g27] | rw [g28])) <;> simp only [BL])) Z .n))))) (.e Z Z) Z)
        ·(iterate 10 refine .X Z g28 ?_); refine .U Z (notT g27) (O.pickF g28 Z Z Z) (.E (notT g27) Z (.nil ?_)); refine ⟨by kernel_rfl, by kernel_rfl, ?_⟩; exact toN (Gm [] (.r Z Z (.r Z Z (.r Z Z (.r Z Z (.c Z (sbb (by first | (simp only [g24, g25, g26, g27, g28, BL]; done) | (repeat (first | rw [g24] | rw [g25] | rw [g26] | rw [g27] | rw [g28])) <;> simp only [BL])) Z .n))))) (.e Z Z) Z)
       ·refine .X Z (notF g27) (.X Z (notF g27) ?_); (iterate 10 refine .x Z (unmetU Z Z Z) ?_); refine .X Z (notF g27) (.T (notF g27) Z (.nil ?_)); refine ⟨by kernel_rfl, by kernel_rfl, ?_⟩; exact toN (Gm [] (.r Z Z (.r Z Z (.r Z Z (.r Z Z (.c Z (sbb (by first | (simp only [g24, g25, g26, g27, BL]; done) | (repeat (first | rw [g24] | rw [g25] | rw [g26] | rw [g27])) <;> simp only [BL])) Z .n))))) (.e Z Z) Z)
      ·(iterate 10 refine .X Z g26 ?_); refine .U Z (notT g25) (O.pickF g26 Z Z Z) (.E (notT g25) Z (.M Z (.N Z Z (.N Z Z ?_)))); rcases tf t12.2 with g29 | g29
       ·refine .U Z g29 (O.ldN ty32 Z Z Z) (.t Z (met Z Z Z g29) (O.lit (enc := auth_Member.enc) (l := [t12.1]) sl29 Z Z Z Z Z Z Z Z Z) (.call (.own 1008) [(1008, some (.rows 31 5 (List.map lombardref30_Member.enc t20) false)), (1007, some (.rows 32 5 (List.map auth_Member.enc [t12.1]) false)), (1007, none)] 1 (lombardlaw30_Told.ok ((if_pos ⟨(by first | (simp only [g24, g25, g26, g29, BL]; done) | (repeat (first | rw [g24] | rw [g25] | rw [g26] | rw [g29])) <;> simp only [BL]), (by first | (simp only [g24, g25, g26, g29, BL]; done) | (repeat (first | rw [g24] | rw [g25] | rw [g26] | rw [g29])) <;> simp only [BL])⟩).symm.trans b21)) Z (met Z Z Z g29) Z ca16 Z Z (cC (.own _ _ _ _ Z) .nil) Z Z Z Z Z ?_)); refine .U Z g29 (O.idxO sl24 (c22 ⟨(by first | (simp only [g24, g25, g26, g29, BL]; done) | (repeat (first | rw [g24] | rw [g25] | rw [g26] | rw [g29])) <;> simp only [BL]), (by first | (simp only [g24, g25, g26, g29, BL]; done) | (repeat (first | rw [g24] | rw [g25] | rw [g26] | rw [g29])) <;> simp only [BL])⟩) Z Z Z Z) ?_; refine .U Z g29 (O.ldEN ty31 (c22 ⟨(by first | (simp only [g24, g25, g26, g29, BL]; done) | (repeat (first | rw [g24] | rw [g25] | rw [g26] | rw [g29])) <;> simp only [BL]), (by first | (simp only [g24, g25, g26, g29, BL]; done) | (repeat (first | rw [g24] | rw [g25] | rw [g26] | rw [g29])) <;> simp only [BL])⟩) Z Z Z Z Z) ?_; refine .N Z g29 (.N Z g29 (.U Z g29 (O.idxO sl24 (c23 ⟨(by first | (simp only [g24, g25, g26, g29, BL]; done) | (repeat (first | rw [g24] | rw [g25] | rw [g26] | rw [g29])) <;> simp only [BL]), (by first | (simp only [g24, g25, g26, g29, BL]; done) | (repeat (first | rw [g24] | rw [g25] | rw [g26] | rw [g29])) <;> simp only [BL])⟩) Z Z Z Z) ?_)); refine .U Z g29 (O.ldEN ty31 (c23 ⟨(by first | (simp only [g24, g25, g26, g29, BL]; done) | (repeat (first | rw [g24] | rw [g25] | rw [g26] | rw [g29])) <;> simp only [BL]), (by first | (simp only [g24, g25, g26, g29, BL]; done) | (repeat (first | rw [g24] | rw [g25] | rw [g26] | rw [g29])) <;> simp only [BL])⟩) Z Z Z Z Z) ?_; refine .U Z g29 (O.neS (r := ((((nth t20 0).ID) == ((nth t1.2.1 t14).ID)) && ((((nth t20 0).Name) == ((nth t1.2.1 t14).Name)) && ((((nth t20 0).State) == ((nth t1.2.1 t14).State)) && ((((nth t20 0).Bound) == ((nth t1.2.1 t14).Bound)) && (((nth t20 0).Late) == ((nth t1.2.1 t14).Late))))))) fl31 Z Z Z Z Z Z) (.U Z Z (O.pickT g29 Z Z Z) (.E Z Z (.nil ?_))); refine ⟨by kernel_rfl, by kernel_rfl, ?_⟩; exact toN (Gm [] (.r Z Z (.r Z Z (.r Z Z (.r Z Z (.c Z (sbb (by first | (simp only [g24, g25, g26, g29, BL]; done) | (repeat (first | rw [g24] | rw [g25] | rw [g26] | rw [g29])) <;> simp only [BL])) Z .n))))) (.e Z Z) Z)
       ·(iterate 10 refine .X Z g29 ?_); refine .U Z Z (O.pickF g29 Z Z Z) (.E Z Z (.nil ?_)); refine ⟨by kernel_rfl, by kernel_rfl, ?_⟩; exact toN (Gm [] (.r Z Z (.r Z Z (.r Z Z (.r Z Z (.c Z (sbb (by first | (simp only [g24, g25, g26, g29, BL]; done) | (repeat (first | rw [g24] | rw [g25] | rw [g26] | rw [g29])) <;> simp only [BL])) Z .n))))) (.e Z Z) Z)
     ·refine .X Z (notF g25) (.X Z (notF g25) ?_); (iterate 10 refine .x Z (unmetU Z Z Z) ?_); refine .X Z (notF g25) (.T (notF g25) Z (.M Z (.X Z Z (.X Z Z ?_)))); (iterate 10 refine .x Z (unmetU Z Z Z) ?_); refine .X Z Z (.T Z Z (.nil ?_)); refine ⟨by kernel_rfl, by kernel_rfl, ?_⟩; exact toN (Gm [] (.r Z Z (.r Z Z (.r Z Z (.r Z Z (.c Z (sbb (by first | (simp only [g24, g25, BL]; done) | (repeat (first | rw [g24] | rw [g25])) <;> simp only [BL])) Z .n))))) (.e Z Z) Z)
    ·(iterate 4 refine .X Z (notF g24) ?_); refine .T (notF g24) Z (.M Z (.X Z Z (.X Z Z ?_))); (iterate 10 refine .x Z (unmetU Z Z Z) ?_); refine .X Z Z (.T Z Z (.M Z (.X Z Z (.X Z Z ?_)))); (iterate 10 refine .x Z (unmetU Z Z Z) ?_); refine .X Z Z (.T Z Z (.nil ?_)); refine ⟨by kernel_rfl, by kernel_rfl, ?_⟩; exact toN (Gm [] (.r Z Z (.r Z Z (.r Z Z (.r Z Z (.c Z (sbb (by simp only [g24, BL])) Z .n))))) (.e Z Z) Z)
 ·clear h; refine W.pk (.M Z (.V Z (OpL.unV Z Z Z) (.M Z ?_))); rcases tf t1.2.2 with g3 | g3
  ·exact .N Z (notT g3) (.U Z (notT g3) (O.lenS u9 Z Z) (.G Z (notT g3) Z (.E (notT g3) Z (.nil (toN (Gm [] (.r Z Z (.r Z Z (.r Z Z (.r Z Z (.r Z Z (.c Z (sbb (by simp only [g3, BL])) Z .n)))))) (.e Z Z) Z))))))
  ·(iterate 3 refine .X Z (notF g3) ?_); exact .T (notF g3) Z (.nil (toN (Gm [] (.r Z Z (.r Z Z (.r Z Z (.r Z Z (.r Z Z (.c Z (sbb (by simp only [g3, BL])) Z .n)))))) (.e Z Z) Z)))

noncomputable def lombardref10_Small.f (x0 : lombardref10_Msg) : Option (Bool) :=
 some ((((((decide ((List.length x0.Name : Int) ≤ 1000)) && (decide ((List.length x0.Text : Int) ≤ 1000))) && (decide ((List.length x0.Prices : Int) ≤ 100))) && (decide ((List.length x0.In : Int) ≤ 100))) && (decide ((List.length x0.Basket.Cuts : Int) ≤ 100))) && (decide ((List.length x0.Basket.Barred : Int) ≤ 100)))
theorem lombardref10_Small.ok {x0 : lombardref10_Msg} {r : Bool} (h : lombardref10_Small.f x0 = some r) : Pm.Spec prog 23 [.agg (im (lombardref10_Msg.enc x0))] (.imm (.val (.bool r))) [none] := by
 unfold lombardref10_Small.f at h; refine Pm.Spec.of_body Tryz.func23 Z (by kernel_rfl) (L Z) (L Z) ?_; refine W.ghost (σ' := (mkSt [(0, some (.agg (lombardref10_Msg.av x0)))] [] 1000)) (Gives.entry (.c Z .n) .n) (W.seq (W.pk (.t Z Z (O.box Z Z Z Z Z) (.A Z (.nil (W.seq (W.fork (mkSt [(2, some (.b ((((((decide ((List.length x0.Name : Int) ≤ 1000)) && (decide ((List.length x0.Text : Int) ≤ 1000))) && (decide ((List.length x0.Prices : Int) ≤ 100))) && (decide ((List.length x0.In : Int) ≤ 100))) && (decide ((List.length x0.Basket.Cuts : Int) ≤ 100))) && (decide ((List.length x0.Basket.Barred : Int) ≤ 100)))))] [] 1001) ?_ ?_)))))))
 ·refine W.ret ?_; cases h; exact lv Z Z
 ·clear h; refine W.pk (.F fld64_2 Z (.V Z (O.ld (y := .s x0.Name) ty9 Z Z Z) (.V Z (O.lenS u9 Z Z) (.B Z (.M Z ?_))))); rcases tf (decide ((List.length x0.Name : Int) ≤ 1000)) with g1 | g1
  ·refine .H fld64_7 Z g1 Z (.U Z g1 (O.ld (y := .s x0.Text) ty9 Z Z Z) (.U Z g1 (O.lenS u9 Z Z) (.G Z g1 Z (.T g1 Z (.M Z ?_))))); rcases tf (decide ((List.length x0.Text : Int) ≤ 1000)) with g2 | g2
   ·refine .H fld64_5 Z g2 Z (.U Z g2 (O.ld (y := .imm (.row 2 (List.map api_Price.enc x0.Prices))) ty57 Z Z Z) (.U Z g2 (O.lenR sl57 Z Z) (.G Z g2 Z (.T g2 Z (.M Z ?_))))); rcases tf (decide ((List.length x0.Prices : Int) ≤ 100)) with g3 | g3
    ·refine .H fld64_11 Z g3 Z (.U Z g3 (O.ld (y := .imm (.row 2 (List.map api_Lot.enc x0.In))) ty62 Z Z Z) (.U Z g3 (O.lenR sl62 Z Z) (.G Z g3 Z (.T g3 Z (.M Z ?_))))); rcases tf (decide ((List.length x0.In : Int) ≤ 100)) with g4 | g4
     ·refine .H fld64_4 Z g4 Z (.H fld56_6 Z g4 Z (.U Z g4 (O.ld (y := .imm (.row 3 (List.map api_Cut.enc x0.Basket.Cuts))) ty53 Z Z Z) (.U Z g4 (O.lenR sl53 Z Z) (.G Z g4 Z (.T g4 Z (.M Z ?_)))))); rcases tf (decide ((List.length x0.Basket.Cuts : Int) ≤ 100)) with g5 | g5
      ·exact .H fld64_4 Z g5 Z (.H fld56_9 Z g5 Z (.U Z g5 (O.ld (y := .imm (.row 1 (List.map (encI .i64) x0.Basket.Barred))) ty54 Z Z Z) (.U Z g5 (O.lenR sl54 Z Z) (.G Z g5 Z (.T g5 Z (.A Z (.nil (toN (Gm [] (.c Z (sbb (by simp only [g1, g2, g3, g4, g5, BL])) Z .n) .n Z)))))))))
      ·(iterate 5 refine .X Z g5 ?_); exact .E g5 Z (.A Z (.nil (toN (Gm [] (.c Z (sbb (by simp only [g1, g2, g3, g4, g5, BL])) Z .n) .n Z))))
     ·(iterate 5 refine .X Z g4 ?_); refine .E g4 Z (.M Z ?_); (iterate 5 refine .X Z Z ?_); exact .E Z Z (.A Z (.nil (toN (Gm [] (.c Z (sbb (by simp only [g1, g2, g3, g4, BL])) Z .n) .n Z))))
    ·(iterate 4 refine .X Z g3 ?_); refine .E g3 Z (.M Z ?_); (iterate 5 refine .X Z Z ?_); refine .E Z Z (.M Z ?_); (iterate 5 refine .X Z Z ?_); exact .E Z Z (.A Z (.nil (toN (Gm [] (.c Z (sbb (by simp only [g1, g2, g3, BL])) Z .n) .n Z))))
   ·(iterate 4 refine .X Z g2 ?_); refine .E g2 Z (.M Z ?_); (iterate 4 refine .X Z Z ?_); refine .E Z Z (.M Z ?_); (iterate 5 refine .X Z Z ?_); refine .E Z Z (.M Z ?_); (iterate 5 refine .X Z Z ?_); exact .E Z Z (.A Z (.nil (toN (Gm [] (.c Z (sbb (by simp only [g1, g2, BL])) Z .n) .n Z))))
  ·(iterate 4 refine .X Z g1 ?_); refine .E g1 Z (.M Z ?_); (iterate 4 refine .X Z Z ?_); refine .E Z Z (.M Z ?_); (iterate 4 refine .X Z Z ?_); refine .E Z Z (.M Z ?_); (iterate 5 refine .X Z Z ?_); refine .E Z Z (.M Z ?_); (iterate 5 refine .X Z Z ?_); exact .E Z Z (.A Z (.nil (toN (Gm [] (.c Z (sbb (by simp only [g1, BL])) Z .n) .n Z))))

noncomputable def lombardlaw10_Of.f (x0 : lombardref10_Msg) : Option (msg_Message) :=
 if (x0.Kind == 1) = true then
 some (msg_Message.cmsg_Join (⟨x0.Member, x0.Name⟩ : msg_Join))
 else if (x0.Kind == 2) = true then
 some (msg_Message.cmsg_List (⟨x0.Asset⟩ : msg_List))
 else if (x0.Kind == 3) = true then
 some (msg_Message.cmsg_Rules (⟨x0.Basket⟩ : msg_Rules))
 else if (x0.Kind == 4) = true then
 some (msg_Message.cmsg_Prices (⟨x0.Prices⟩ : msg_Prices))
 else if (x0.Kind == 5) = true then
 some (msg_Message.cmsg_Roll (⟨x0.Day⟩ : msg_Roll))
 else if (x0.Kind == 6) = true then
 some (msg_Message.cmsg_Cash (⟨x0.Member, x0.Text, x0.N⟩ : msg_Cash))
 else if (x0.Kind == 7) = true then
 some (msg_Message.cmsg_Move (⟨x0.Member, x0.Text, x0.N⟩ : msg_Move))
 else if (x0.Kind == 8) = true then
 some (msg_Message.cmsg_Offer (⟨x0.Quote⟩ : msg_Offer))
 else if (x0.Kind == 9) = true then
 some (msg_Message.cmsg_Cancel (⟨x0.Member, x0.N⟩ : msg_Cancel))
 else if (x0.Kind == 10) = true then
 some (msg_Message.cmsg_Notice (⟨x0.Member, x0.Trade, x0.Day⟩ : msg_Notice))
 else if (x0.Kind == 11) = true then
 some (msg_Message.cmsg_Swap (⟨x0.Member, x0.Trade, x0.Out, x0.In⟩ : msg_Swap))
 else if (x0.Kind == 12) = true then
 some (msg_Message.cmsg_Settle (⟨x0.Member, x0.Day, x0.Done⟩ : msg_Settle))
 else if (x0.Kind == 13) = true then
 some (msg_Message.cmsg_Default (⟨x0.Member⟩ : msg_Default))
 else if (x0.Kind == 14) = true then
 some (msg_Message.cmsg_Bound (⟨x0.Member, x0.N⟩ : msg_Bound))
 else if (x0.Kind == 15) = true then
 some (msg_Message.cmsg_Reset (⟨x0.Trade, x0.Day, x0.Rate⟩ : msg_Reset))
 else some .nil
theorem lombardlaw10_Of.ok {x0 : lombardref10_Msg} {r : msg_Message} (h : lombardlaw10_Of.f x0 = some r) : Pm.Spec prog 25 [.agg (im (lombardref10_Msg.enc x0))] (.imm (msg_Message.enc r)) [none] := by
 unfold lombardlaw10_Of.f at h; refine Pm.Spec.of_body Tryz.func25 Z (by kernel_rfl) (L Z) (L Z) ?_; refine W.ghost (σ' := (mkSt [(0, some (.agg (lombardref10_Msg.av x0)))] [] 1000)) (Gives.entry (.c Z .n) .n) (W.seq (W.pk (.t Z Z (O.box Z Z Z Z Z) (.A Z (.nil (W.seq (W.seq (W.pk (.F fld64_0 Z (.V Z (O.ld (y := .i x0.Kind) ty3 Z Z Z) (.nil ?_))))))))))); refine W.block (W.seq (W.pk (.B Z (.A Z (.nil (W.cnd Z h (fun q1 h => ?_) (fun q1 h => ?_)))))))
 ·refine W.seq (W.pk (.F fld64_1 Z (.V Z (O.ld (y := .i x0.Member) ty3 Z Z Z) (.F fld64_2 Z (.V Z (O.ld (y := .s x0.Name) ty9 Z Z Z) (.V Z (O.build (out := [.i x0.Member, .s x0.Name]) bl84 Z Z Z Z (by kernel_rfl)) ?_)))))); refine .V Z (O.mkIfc cn84 Z Z Z) (.A Z (.nil (W.ret ?_))); cases h; exact lv Z Z
 ·refine W.seq (W.pk (.B Z (.A Z (.nil (W.cnd Z h (fun q2 h => ?_) (fun q2 h => ?_))))))
  ·refine W.seq (W.pk (.F fld64_3 Z (.V Z (O.ldN ty52 Z Z Z) (.V Z (O.build (out := (api_Asset.av x0.Asset)) bl100 Z Z Z Z (by kernel_rfl)) ?_)))); refine .V Z (O.mkIfc cn100 Z Z Z) (.A Z (.nil (W.ret ?_))); cases h; exact lv Z Z
  ·refine W.seq (W.pk (.B Z (.A Z (.nil (W.cnd Z h (fun q3 h => ?_) (fun q3 h => ?_))))))
   ·refine W.seq (W.pk (.F fld64_4 Z (.V Z (O.ldN ty56 Z Z Z) (.V Z (O.build (out := (api_Basket.av x0.Basket)) bl102 Z Z Z Z (by kernel_rfl)) ?_)))); refine .V Z (O.mkIfc cn102 Z Z Z) (.A Z (.nil (W.ret ?_))); cases h; exact lv Z Z
   ·refine W.seq (W.pk (.B Z (.A Z (.nil (W.cnd Z h (fun q4 h => ?_) (fun q4 h => ?_))))))
    ·refine W.seq (W.pk (.F fld64_5 Z (.V Z (O.ld (y := .imm (.row 2 (List.map api_Price.enc x0.Prices))) ty57 Z Z Z) (.V Z (O.build (out := [.imm (.row 2 (List.map api_Price.enc x0.Prices))]) bl104 Z Z Z Z (by kernel_rfl)) ?_)))); refine .V Z (O.mkIfc cn104 Z Z Z) (.A Z (.nil (W.ret ?_))); cases h; exact lv Z Z
    ·refine W.seq (W.pk (.B Z (.A Z (.nil (W.cnd Z h (fun q5 h => ?_) (fun q5 h => ?_))))))
     ·refine W.seq (W.pk (.F fld64_6 Z (.V Z (O.ld (y := .i x0.Day) ty3 Z Z Z) (.V Z (O.build (out := [.i x0.Day]) bl106 Z Z Z Z (by kernel_rfl)) ?_)))); refine .V Z (O.mkIfc cn106 Z Z Z) (.A Z (.nil (W.ret ?_))); cases h; exact lv Z Z
     ·refine W.seq (W.pk (.B Z (.A Z (.nil (W.cnd Z h (fun q6 h => ?_) (fun q6 h => ?_))))))
      ·refine W.seq (W.pk (.F fld64_1 Z (.V Z (O.ld (y := .i x0.Member) ty3 Z Z Z) (.F fld64_7 Z (.V Z (O.ld (y := .s x0.Text) ty9 Z Z Z) (.F fld64_8 Z (.V Z (O.ld (y := .i x0.N) ty3 Z Z Z) (.V Z (O.build (out := [.i x0.Member, .s x0.Text, .i x0.N]) bl108 Z Z Z Z (by kernel_rfl)) ?_)))))))); refine .V Z (O.mkIfc cn108 Z Z Z) (.A Z (.nil (W.ret ?_))); cases h; exact lv Z Z
      ·refine W.seq (W.pk (.B Z (.A Z (.nil (W.cnd Z h (fun q7 h => ?_) (fun q7 h => ?_))))))
       ·refine W.seq (W.pk (.F fld64_1 Z (.V Z (O.ld (y := .i x0.Member) ty3 Z Z Z) (.F fld64_7 Z (.V Z (O.ld (y := .s x0.Text) ty9 Z Z Z) (.F fld64_8 Z (.V Z (O.ld (y := .i x0.N) ty3 Z Z Z) (.V Z (O.build (out := [.i x0.Member, .s x0.Text, .i x0.N]) bl110 Z Z Z Z (by kernel_rfl)) ?_)))))))); refine .V Z (O.mkIfc cn110 Z Z Z) (.A Z (.nil (W.ret ?_))); cases h; exact lv Z Z
       ·refine W.seq (W.pk (.B Z (.A Z (.nil (W.cnd Z h (fun q8 h => ?_) (fun q8 h => ?_))))))
        ·refine W.seq (W.pk (.F fld64_9 Z (.V Z (O.ldN ty59 Z Z Z) (.V Z (O.build (out := (api_Quote.av x0.Quote)) bl97 Z Z Z Z (by kernel_rfl)) ?_)))); refine .V Z (O.mkIfc cn97 Z Z Z) (.A Z (.nil (W.ret ?_))); cases h; exact lv Z Z
        ·refine W.seq (W.pk (.B Z (.A Z (.nil (W.cnd Z h (fun q9 h => ?_) (fun q9 h => ?_))))))
         ·refine W.seq (W.pk (.F fld64_1 Z (.V Z (O.ld (y := .i x0.Member) ty3 Z Z Z) (.F fld64_8 Z (.V Z (O.ld (y := .i x0.N) ty3 Z Z Z) (.V Z (O.build (out := [.i x0.Member, .i x0.N]) bl112 Z Z Z Z (by kernel_rfl)) ?_)))))); refine .V Z (O.mkIfc cn112 Z Z Z) (.A Z (.nil (W.ret ?_))); cases h; exact lv Z Z
         ·refine W.seq (W.pk (.B Z (.A Z (.nil (W.cnd Z h (fun q10 h => ?_) (fun q10 h => ?_))))))
          ·refine W.seq (W.pk (.F fld64_1 Z (.V Z (O.ld (y := .i x0.Member) ty3 Z Z Z) (.F fld64_12 Z (.V Z (O.ld (y := .i x0.Trade) ty3 Z Z Z) (.F fld64_6 Z (.V Z (O.ld (y := .i x0.Day) ty3 Z Z Z) (.V Z (O.build (out := [.i x0.Member, .i x0.Trade, .i x0.Day]) bl114 Z Z Z Z (by kernel_rfl)) ?_)))))))); refine .V Z (O.mkIfc cn114 Z Z Z) (.A Z (.nil (W.ret ?_))); cases h; exact lv Z Z
          ·refine W.seq (W.pk (.B Z (.A Z (.nil (W.cnd Z h (fun q11 h => ?_) (fun q11 h => ?_))))))
           ·refine W.seq (W.pk (.F fld64_1 Z (.V Z (O.ld (y := .i x0.Member) ty3 Z Z Z) (.F fld64_12 Z (.V Z (O.ld (y := .i x0.Trade) ty3 Z Z Z) (.F fld64_10 Z (.V Z (O.ldN ty61 Z Z Z) (.F fld64_11 Z (.V Z (O.ld (y := .imm (.row 2 (List.map api_Lot.enc x0.In))) ty62 Z Z Z) (.V Z (O.build (out := [.i x0.Member, .i x0.Trade, .s x0.Out.ISIN, .i x0.Out.Qty, .imm (.row 2 (List.map api_Lot.enc x0.In))]) bl116 Z Z Z Z (by kernel_rfl)) ?_)))))))))); refine .V Z (O.mkIfc cn116 Z Z Z) (.A Z (.nil (W.ret ?_))); cases h; exact lv Z Z
           ·refine W.seq (W.pk (.B Z (.A Z (.nil (W.cnd Z h (fun q12 h => ?_) (fun q12 h => ?_))))))
            ·refine W.seq (W.pk (.F fld64_1 Z (.V Z (O.ld (y := .i x0.Member) ty3 Z Z Z) (.F fld64_6 Z (.V Z (O.ld (y := .i x0.Day) ty3 Z Z Z) (.F fld64_13 Z (.V Z (O.ld (y := .b x0.Done) ty4 Z Z Z) (.V Z (O.build (out := [.i x0.Member, .i x0.Day, .b x0.Done]) bl118 Z Z Z Z (by kernel_rfl)) ?_)))))))); refine .V Z (O.mkIfc cn118 Z Z Z) (.A Z (.nil (W.ret ?_))); cases h; exact lv Z Z
            ·refine W.seq (W.pk (.B Z (.A Z (.nil (W.cnd Z h (fun q13 h => ?_) (fun q13 h => ?_))))))
             ·refine W.seq (W.pk (.F fld64_1 Z (.V Z (O.ld (y := .i x0.Member) ty3 Z Z Z) (.V Z (O.build (out := [.i x0.Member]) bl120 Z Z Z Z (by kernel_rfl)) ?_)))); refine .V Z (O.mkIfc cn120 Z Z Z) (.A Z (.nil (W.ret ?_))); cases h; exact lv Z Z
             ·refine W.seq (W.pk (.B Z (.A Z (.nil (W.cnd Z h (fun q14 h => ?_) (fun q14 h => ?_))))))
              ·refine W.seq (W.pk (.F fld64_1 Z (.V Z (O.ld (y := .i x0.Member) ty3 Z Z Z) (.F fld64_8 Z (.V Z (O.ld (y := .i x0.N) ty3 Z Z Z) (.V Z (O.build (out := [.i x0.Member, .i x0.N]) bl122 Z Z Z Z (by kernel_rfl)) ?_)))))); refine .V Z (O.mkIfc cn122 Z Z Z) (.A Z (.nil (W.ret ?_))); cases h; exact lv Z Z
              ·refine W.seq (W.pk (.B Z (.A Z (.nil (W.cnd Z h (fun q15 h => ?_) (fun q15 h => ?_))))))
               ·refine W.seq (W.pk (.F fld64_12 Z (.V Z (O.ld (y := .i x0.Trade) ty3 Z Z Z) (.F fld64_6 Z (.V Z (O.ld (y := .i x0.Day) ty3 Z Z Z) (.F fld64_14 Z (.V Z (O.ld (y := .i x0.Rate) ty3 Z Z Z) (.V Z (O.build (out := [.i x0.Trade, .i x0.Day, .i x0.Rate]) bl124 Z Z Z Z (by kernel_rfl)) ?_)))))))); refine .V Z (O.mkIfc cn124 Z Z Z) (.A Z (.nil (W.ret ?_))); cases h; exact lv Z Z
               ·refine W.skip (W.seq (W.pk (.A Z (.nil (W.ret ?_))))); cases h; exact lv Z Z

noncomputable def msg_Sender.f (x0 : msg_Message) : Option (Int) :=
 if (x0.ismsg_Offer) = true then
 some (((x0.asmsg_Offer).Quote).Member)
 else if (x0.ismsg_Cancel) = true then
 some ((x0.asmsg_Cancel).Member)
 else if (x0.ismsg_Notice) = true then
 some ((x0.asmsg_Notice).Member)
 else if (x0.ismsg_Swap) = true then
 some ((x0.asmsg_Swap).Member)
 else some 0
theorem msg_Sender.ok {x0 : msg_Message} {r : Int} (h : msg_Sender.f x0 = some r) : Pm.Spec prog 72 [.imm (msg_Message.enc x0)] (.imm (.val (.int .i64 r))) [none] := by
 unfold msg_Sender.f at h; refine Pm.Spec.of_body Tryz.func72 Z (by kernel_rfl) (L Z) (L Z) ?_; refine W.ghost (σ' := (mkSt [(0, some (.imm (msg_Message.enc x0)))] [] 1000)) (Gives.entry (.c Z .n) .n) (W.seq (W.pk (.A Z (.nil (W.seq (W.seq (W.pk (.M Z (.nil (W.block (W.seq ?_))))))))))); refine W.pk (.V Z (O.asOk (cs := [.i (((x0.asmsg_Offer).Quote).ID), .i (((x0.asmsg_Offer).Quote).Member), .i (((x0.asmsg_Offer).Quote).Side), .i (((x0.asmsg_Offer).Quote).Basket), .i (((x0.asmsg_Offer).Quote).Amount), .i (((x0.asmsg_Offer).Quote).Rate), .i (((x0.asmsg_Offer).Quote).Start), .i (((x0.asmsg_Offer).Quote).End)]) pl97 (msg_Message.atmsg_Offer x0) Z Z Z) ?_); (iterate 2 refine .V Z (OpL.extract Z Z Z) ?_); refine .nil (W.cnd Z h (fun q1 h => ?_) (fun q1 h => ?_))
 ·refine W.seq (W.pk (.t Z Z (O.alloc z97 Z) (.S ty97 Z [.i (((x0.asmsg_Offer).Quote).ID), .i (((x0.asmsg_Offer).Quote).Member), .i (((x0.asmsg_Offer).Quote).Side), .i (((x0.asmsg_Offer).Quote).Basket), .i (((x0.asmsg_Offer).Quote).Amount), .i (((x0.asmsg_Offer).Quote).Rate), .i (((x0.asmsg_Offer).Quote).Start), .i (((x0.asmsg_Offer).Quote).End)] Z (.nil (W.seq (W.pk (.F fld97_0 Z (.F fld59_1 Z (.V Z (O.ld (y := .i (((x0.asmsg_Offer).Quote).Member)) ty3 Z Z Z) (.A Z (.nil ?_))))))))))); refine W.ret ?_; cases h; exact lv Z Z
 ·refine W.seq (W.pk (.V Z (O.asOk (cs := [.i ((x0.asmsg_Cancel).Member), .i ((x0.asmsg_Cancel).Quote)]) pl112 (msg_Message.atmsg_Cancel x0) Z Z Z) ?_)); (iterate 2 refine .V Z (OpL.extract Z Z Z) ?_); refine .nil (W.cnd Z h (fun q2 h => ?_) (fun q2 h => ?_))
  ·refine W.seq (W.pk (.t Z Z (O.alloc z112 Z) (.S ty112 Z [.i ((x0.asmsg_Cancel).Member), .i ((x0.asmsg_Cancel).Quote)] Z (.nil (W.seq (W.pk (.F fld112_0 Z (.V Z (O.ld (y := .i ((x0.asmsg_Cancel).Member)) ty3 Z Z Z) (.A Z (.nil (W.ret ?_))))))))))); cases h; exact lv Z Z
  ·refine W.seq (W.pk (.V Z (O.asOk (cs := [.i ((x0.asmsg_Notice).Member), .i ((x0.asmsg_Notice).Trade), .i ((x0.asmsg_Notice).Day)]) pl114 (msg_Message.atmsg_Notice x0) Z Z Z) ?_)); (iterate 2 refine .V Z (OpL.extract Z Z Z) ?_); refine .nil (W.cnd Z h (fun q3 h => ?_) (fun q3 h => ?_))
   ·refine W.seq (W.pk (.t Z Z (O.alloc z114 Z) (.S ty114 Z [.i ((x0.asmsg_Notice).Member), .i ((x0.asmsg_Notice).Trade), .i ((x0.asmsg_Notice).Day)] Z (.nil (W.seq (W.pk (.F fld114_0 Z (.V Z (O.ld (y := .i ((x0.asmsg_Notice).Member)) ty3 Z Z Z) (.A Z (.nil (W.ret ?_))))))))))); cases h; exact lv Z Z
   ·refine W.seq (W.pk (.V Z (O.asOk (cs := [.i ((x0.asmsg_Swap).Member), .i ((x0.asmsg_Swap).Trade), .s (((x0.asmsg_Swap).Out).ISIN), .i (((x0.asmsg_Swap).Out).Qty), .imm (.row 2 (List.map api_Lot.enc ((x0.asmsg_Swap).In)))]) pl116 (msg_Message.atmsg_Swap x0) Z Z Z) ?_)); (iterate 2 refine .V Z (OpL.extract Z Z Z) ?_); refine .nil (W.cnd Z h (fun q4 h => ?_) (fun q4 h => ?_))
    ·refine W.seq (W.pk (.t Z Z (O.alloc z116 Z) (.S ty116 Z [.i ((x0.asmsg_Swap).Member), .i ((x0.asmsg_Swap).Trade), .s (((x0.asmsg_Swap).Out).ISIN), .i (((x0.asmsg_Swap).Out).Qty), .imm (.row 2 (List.map api_Lot.enc ((x0.asmsg_Swap).In)))] Z (.nil (W.seq (W.pk (.F fld116_0 Z (.V Z (O.ld (y := .i ((x0.asmsg_Swap).Member)) ty3 Z Z Z) (.A Z (.nil (W.ret ?_))))))))))); cases h; exact lv Z Z
    ·refine W.skip (W.seq (W.pk (.A Z (.nil (W.ret ?_))))); cases h; exact lv Z Z

noncomputable def auth_subject.f (x0 : msg_Message) : Option (List Int) :=
 if (x0.ismsg_Cash) = true then
 some [(x0.asmsg_Cash).Member]
 else if (x0.ismsg_Move) = true then
 some [(x0.asmsg_Move).Member]
 else if (x0.ismsg_Settle) = true then
 some [(x0.asmsg_Settle).Member]
 else if (x0.ismsg_Default) = true then
 some [(x0.asmsg_Default).Member]
 else if (x0.ismsg_Bound) = true then
 some [(x0.asmsg_Bound).Member]
 else (msg_Sender.f x0).bind fun t6 =>
 if (decide (t6 > 0)) = true then
 some [t6]
 else some []
theorem auth_subject.ok {x0 : msg_Message} {r : List Int} (h : auth_subject.f x0 = some r) : Pm.Spec prog 43 [.imm (msg_Message.enc x0)] (.xown 3 1 (List.map (encI .i64) r)) [none] := by
 unfold auth_subject.f at h; refine Pm.Spec.of_body Tryz.func43 Z (by kernel_rfl) (L Z) (L Z) ?_; refine W.ghost (σ' := (mkSt [(0, some (.imm (msg_Message.enc x0)))] [] 1000)) (Gives.entry (.c Z .n) .n) (W.seq (W.pk (.A Z (.nil (W.seq (W.seq (W.pk (.M Z (.nil (W.block (W.seq ?_))))))))))); refine W.pk (.V Z (O.asOk (cs := [.i ((x0.asmsg_Cash).Member), .s ((x0.asmsg_Cash).Currency), .i ((x0.asmsg_Cash).Amount)]) pl108 (msg_Message.atmsg_Cash x0) Z Z Z) ?_); (iterate 2 refine .V Z (OpL.extract Z Z Z) ?_); refine .nil (W.cnd Z h (fun q1 h => ?_) (fun q1 h => ?_))
 ·refine W.seq (W.pk (.t Z Z (O.alloc z108 Z) (.S ty108 Z [.i ((x0.asmsg_Cash).Member), .s ((x0.asmsg_Cash).Currency), .i ((x0.asmsg_Cash).Amount)] Z (.nil (W.seq (W.pk (.F fld108_0 Z (.V Z (O.ld (y := .i ((x0.asmsg_Cash).Member)) ty3 Z Z Z) (.t Z Z (O.lit (enc := (encI .i64)) (l := [(x0.asmsg_Cash).Member]) sl54 Z Z Z Z Z Z Z Z Z) (.A Z (.nil ?_))))))))))); refine W.ret ?_; cases h; exact leaves (.inr Z) Z (.own _ _ _ _ Z) (cN .nil) Z Z
 ·refine W.seq (W.pk (.V Z (O.asOk (cs := [.i ((x0.asmsg_Move).Member), .s ((x0.asmsg_Move).ISIN), .i ((x0.asmsg_Move).Qty)]) pl110 (msg_Message.atmsg_Move x0) Z Z Z) ?_)); (iterate 2 refine .V Z (OpL.extract Z Z Z) ?_); refine .nil (W.cnd Z h (fun q2 h => ?_) (fun q2 h => ?_))
  ·refine W.seq (W.pk (.t Z Z (O.alloc z110 Z) (.S ty110 Z [.i ((x0.asmsg_Move).Member), .s ((x0.asmsg_Move).ISIN), .i ((x0.asmsg_Move).Qty)] Z (.nil (W.seq (W.pk (.F fld110_0 Z (.V Z (O.ld (y := .i ((x0.asmsg_Move).Member)) ty3 Z Z Z) (.t Z Z (O.lit (enc := (encI .i64)) (l := [(x0.asmsg_Move).Member]) sl54 Z Z Z Z Z Z Z Z Z) (.A Z (.nil ?_))))))))))); refine W.ret ?_; cases h; exact leaves (.inr Z) Z (.own _ _ _ _ Z) (cN .nil) Z Z
  ·refine W.seq (W.pk (.V Z (O.asOk (cs := [.i ((x0.asmsg_Settle).Member), .i ((x0.asmsg_Settle).Day), .b ((x0.asmsg_Settle).Done)]) pl118 (msg_Message.atmsg_Settle x0) Z Z Z) ?_)); (iterate 2 refine .V Z (OpL.extract Z Z Z) ?_); refine .nil (W.cnd Z h (fun q3 h => ?_) (fun q3 h => ?_))
   ·refine W.seq (W.pk (.t Z Z (O.alloc z118 Z) (.S ty118 Z [.i ((x0.asmsg_Settle).Member), .i ((x0.asmsg_Settle).Day), .b ((x0.asmsg_Settle).Done)] Z (.nil (W.seq (W.pk (.F fld118_0 Z (.V Z (O.ld (y := .i ((x0.asmsg_Settle).Member)) ty3 Z Z Z) (.t Z Z (O.lit (enc := (encI .i64)) (l := [(x0.asmsg_Settle).Member]) sl54 Z Z Z Z Z Z Z Z Z) (.A Z (.nil ?_))))))))))); refine W.ret ?_; cases h; exact leaves (.inr Z) Z (.own _ _ _ _ Z) (cN .nil) Z Z
   ·refine W.seq (W.pk (.V Z (O.asOk (cs := [.i ((x0.asmsg_Default).Member)]) pl120 (msg_Message.atmsg_Default x0) Z Z Z) ?_)); (iterate 2 refine .V Z (OpL.extract Z Z Z) ?_); refine .nil (W.cnd Z h (fun q4 h => ?_) (fun q4 h => ?_))
    ·refine W.seq (W.pk (.t Z Z (O.alloc z120 Z) (.S ty120 Z [.i ((x0.asmsg_Default).Member)] Z (.nil (W.seq (W.pk (.F fld120_0 Z (.V Z (O.ld (y := .i ((x0.asmsg_Default).Member)) ty3 Z Z Z) (.t Z Z (O.lit (enc := (encI .i64)) (l := [(x0.asmsg_Default).Member]) sl54 Z Z Z Z Z Z Z Z Z) (.A Z (.nil ?_))))))))))); refine W.ret ?_; cases h; exact leaves (.inr Z) Z (.own _ _ _ _ Z) (cN .nil) Z Z
    ·refine W.seq (W.pk (.V Z (O.asOk (cs := [.i ((x0.asmsg_Bound).Member), .i ((x0.asmsg_Bound).Amount)]) pl122 (msg_Message.atmsg_Bound x0) Z Z Z) ?_)); (iterate 2 refine .V Z (OpL.extract Z Z Z) ?_); refine .nil (W.cnd Z h (fun q5 h => ?_) (fun q5 h => ?_))
     ·refine W.seq (W.pk (.t Z Z (O.alloc z122 Z) (.S ty122 Z [.i ((x0.asmsg_Bound).Member), .i ((x0.asmsg_Bound).Amount)] Z (.nil (W.seq (W.pk (.F fld122_0 Z (.V Z (O.ld (y := .i ((x0.asmsg_Bound).Member)) ty3 Z Z Z) (.t Z Z (O.lit (enc := (encI .i64)) (l := [(x0.asmsg_Bound).Member]) sl54 Z Z Z Z Z Z Z Z Z) (.A Z (.nil ?_))))))))))); refine W.ret ?_; cases h; exact leaves (.inr Z) Z (.own _ _ _ _ Z) (cN .nil) Z Z
     ·refine W.skip (W.seq (W.seq ?_)); obtain ⟨t6, b7, h⟩ := bnd1 h; refine W.pk (.M Z (.C (.i t6) [] 0 (msg_Sender.ok b7) ca72 Z (cI .nil) Z ?_)); refine .A Z (.nil (W.seq (W.pk (.M Z (.B Z (.nil (W.cnd Z h (fun q8 h => ?_) (fun q8 h => ?_))))))))
      ·refine W.seq (W.pk (.M Z (.t Z Z (O.lit (enc := (encI .i64)) (l := [t6]) sl54 Z Z Z Z Z Z Z Z Z) (.A Z (.nil (W.ret ?_)))))); cases h; exact leaves (.inr Z) Z (.own _ _ _ _ Z) (cN .nil) Z Z
      ·refine W.skip (W.seq (W.pk (.A Z (.nil (W.ret ?_))))); cases h; exact leaves (.inr Z) Z (.nilown _ _) (cN .nil) Z Z

noncomputable def auth_List_May.b0 (x0 : auth_List) (t5 : List Int) (v15 : Int) : Option (Int ⊕ (Int ⊕ Unit)) :=
 if (decide (v15 < (List.length t5 : Int))) = true then
 if (0 : Int) ≤ v15 ∧ v15 < (List.length t5 : Int) then
 (auth_List_Get.f x0 (nth t5 v15)).bind fun t38 =>
 if (!t38.2) = true then
 some (.inr (.inl 6))
 else (auth_List_Able.f x0 (nth t5 v15)).bind fun t41 =>
 if (!t41) = true then
 some (.inr (.inl 30))
 else some (.inl (IntKind.wrap .i64 (v15 + 1)))
 else none
 else some (.inr (.inr ()))
noncomputable def auth_List_May.r0 (x0 : auth_List) (t5 : List Int) (s : Int) : Option (Int ⊕ (Int ⊕ Unit)) := auth_List_May.b0 x0 t5 s
noncomputable def auth_List_May.f (x0 : auth_List) (x1 : msg_Message) : Option (Int) :=
 if (!x0.made) = true then
 some 3
 else (msg_Check.f x1).bind fun t2 =>
 if (t2 != 0) = true then
 some t2
 else (auth_subject.f x1).bind fun t5 =>
 (loop (auth_List_May.r0 x0 t5) 0).bind fun o33 =>
 match o33 with
 | .inl r44 => some r44
 | .inr w32 =>
 if (x1.ismsg_Offer) = true then
 (auth_List_Get.f x0 (((x1.asmsg_Offer).Quote).Member)).bind fun t46 =>
 if (t46.1.State == 2) = true then
 some 30
 else some 0
 else some 0
theorem auth_List_May.ok {x0 : auth_List} {x1 : msg_Message} {r : Int} (h : auth_List_May.f x0 x1 = some r) : Pm.Spec prog 24 [.xbox [.xown 32 5 (List.map auth_Member.enc x0.l), .imm (.val (.bool x0.made))], .imm (msg_Message.enc x1)] (.imm (.val (.int .i64 r))) [some (.xbox [.xown 32 5 (List.map auth_Member.enc x0.l), .imm (.val (.bool x0.made))]), none] := by
 unfold auth_List_May.f at h; refine Pm.Spec.of_body Tryz.func24 Z (by kernel_rfl) (L Z) (L Z) ?_; refine W.ghost (σ' := (mkSt [(0, some (.ptr 0 0)), (1, some (.imm (msg_Message.enc x1)))] [(0, some (.box [.own 1, .b x0.made])), (1, some (.rows 32 5 (List.map auth_Member.enc x0.l) false))] 1000)) (Gives.entry (.c Z (.c Z .n)) (.c Z (.c Z .n))) (W.ghost (σ' := (mkSt [(0, some (.ptr 0 0)), (1, some (.imm (msg_Message.enc x1)))] [(0, some (.box [.own 1000, .b x0.made])), (1000, some (.rows 32 5 (List.map auth_Member.enc x0.l) false))] 1001)) (Gm [(1000, 1)] (.e Z Z) (.e Z Z) Z) (W.seq (W.pk (.A Z (.nil (W.seq (W.seq (W.pk (.M Z (.V Z (OpL.eqP Z u23 Z Z Z) (.M Z ?_))))))))))); refine .N Z Z (.U Z Z (OpL.nilP Z Z Z) (.H fld79_1 Z Z Z (.U Z Z (O.ld (y := .b x0.made) ty4 Z Z Z) (.U Z Z (OpL.unV Z Z Z) (.E Z Z (.nil (W.cnd Z h (fun q1 h => ?_) (fun q1 h => ?_))))))))
 ·refine W.seq (W.pk (.A Z (.nil (W.ret ?_)))); cases h; exact leaves (.inr Z) Z (.imm _) (cS (.ptr _ _ _ _ _ Z (cC (.own _ _ _ _ Z) (cI .nil))) (cN .nil)) Z Z
 ·refine W.skip (W.seq (W.seq ?_)); obtain ⟨t2, b3, h⟩ := bnd1 h; refine W.pk (.M Z (.C (.i t2) [] 0 (msg_Check.ok b3) ca33 Z (cI .nil) Z ?_)); refine .A Z (.nil (W.seq (W.pk (.M Z (.B Z (.nil (W.cnd Z h (fun q4 h => ?_) (fun q4 h => ?_))))))))
  ·refine W.seq (W.pk (.M Z (.A Z (.nil (W.ret ?_))))); cases h; exact leaves (.inr Z) Z (.imm _) (cS (.ptr _ _ _ _ _ Z (cC (.own _ _ _ _ Z) (cI .nil))) (cN .nil)) Z Z
  ·refine W.skip (W.seq (W.seq ?_)); obtain ⟨t5, b6, h⟩ := bnd1 h; refine W.pk (.M Z (.C (.own 1001) [(1001, some (.rows 3 1 (List.map (encI .i64) t5) false))] 1 (auth_subject.ok b6) ca43 Z (cI .nil) Z ?_)); refine .V Z (O.lenO sl54 Z Z Z) (.M Z (.nil ?_)); obtain ⟨o33, b34, z35⟩ := bnd1 h; refine W.fork2 (out := o33) (fun (w32 : Unit) => mkSt [(0, some (.ptr 0 0)), (1, some (.imm (msg_Message.enc x1)))] [(0, some (.box [.own 1000, .b x0.made])), (1000, some (.rows 32 5 (List.map auth_Member.enc x0.l) false))] 1002) ?_ ?_
   ·clear h; refine W.block (W.loopF (fun (s_ : Int) => mkSt [(0, some (.ptr 0 0)), (1, some (.imm (msg_Message.enc x1))), (29, some (.own 1001)), (30, some (.i (List.length t5 : Int))), (31, some (.i s_))] [(0, some (.box [.own 1000, .b x0.made])), (1000, some (.rows 32 5 (List.map auth_Member.enc x0.l) false)), (1001, some (.rows 3 1 (List.map (encI .i64) t5) false))] 1002) b34 (Gm [] (.e Z Z) (.e Z Z) Z) ?_); rintro v15 s_ hr; have h : auth_List_May.b0 x0 t5 v15 = some s_ := hr; unfold auth_List_May.b0 at h; refine W.seq (W.pk (.B Z (.nil (W.seq (W.cnd Z h (fun q36 h => ?_) (fun q36 h => ?_))))))
    ·refine W.skip (W.seq (W.block (W.seq ?_))); obtain ⟨c37, h⟩ := chk h; refine W.pk (.V Z (O.idxO sl54 c37 Z Z Z Z) (.V Z (O.ldE (c := (.val (.int .i64 (nth t5 v15)))) ty3 c37 Z Z Z Z Z) (.A Z (.nil (W.seq (W.seq ?_)))))); obtain ⟨t38, b39, h⟩ := bnd1 h; refine W.pk (.M Z (.M Z (.C (.tup [.agg (auth_Member.av t38.1), .b t38.2]) [(0, some (.box [.own 1002, .b x0.made])), (1002, some (.rows 32 5 (List.map auth_Member.enc x0.l) false)), (0, none), (1000, none)] 1 (auth_List_Get.ok b39) ca18 Z (cC (.ptr _ _ _ _ _ Z (cC (.own _ _ _ _ Z) (cI .nil))) (cI .nil)) Z ?_))); refine .M Z ?_; (iterate 2 refine .V Z (OpL.extract Z Z Z) ?_); refine .t Z Z (O.alloc z32 Z) (.S ty32 Z [.i t38.1.ID, .s t38.1.Name, .i t38.1.State, .i t38.1.Bound, .b t38.1.Late] Z (.A Z (.nil (W.seq (W.pk (.M Z (.V Z (OpL.unV Z Z Z) (.nil (W.cnd Z h (fun q40 h => ?_) (fun q40 h => ?_))))))))))
     ·refine W.seq (W.pk (.A Z (.nil (W.ret ?_)))); cases h; refine rdR fun e_ => ?_; subst e_; have h := z35; dsimp only at h; refine fkR ?_; cases h; exact leaves (.inr Z) Z (.imm _) (cS (.ptr _ _ _ _ _ Z (cC (.own _ _ _ _ Z) (cI .nil))) (cN .nil)) Z Z
     ·refine W.skip (W.seq ?_); obtain ⟨t41, b42, h⟩ := bnd1 h; refine W.pk (.M Z (.M Z (.C (.b t41) [(0, some (.box [.own 1004, .b x0.made])), (1004, some (.rows 32 5 (List.map auth_Member.enc x0.l) false)), (0, none), (1002, none)] 1 (auth_List_Able.ok b42) ca22 Z (cC (.ptr _ _ _ _ _ Z (cC (.own _ _ _ _ Z) (cI .nil))) (cI .nil)) Z ?_))); refine .V Z (OpL.unV Z Z Z) (.nil (W.cnd Z h (fun q43 h => ?_) (fun q43 h => ?_)))
      ·refine W.seq (W.pk (.A Z (.nil (W.ret ?_)))); cases h; refine rdR fun e_ => ?_; subst e_; have h := z35; dsimp only at h; refine fkR ?_; cases h; exact leaves (.inr Z) Z (.imm _) (cS (.ptr _ _ _ _ _ Z (cC (.own _ _ _ _ Z) (cI .nil))) (cN .nil)) Z Z
      ·refine W.skip (W.pk (.B Z (.M Z (.nil ?_)))); cases h; exact rdN (Gm [(1000, 1004)] (.e Z Z) (.e Z Z) Z)
    ·refine W.exit ?_; cases h; refine rdX fun e_ => ?_; subst e_; (repeat with_reducible refine thru ?_); exact hit (fkN (Gm [] (.e Z Z) (.e Z Z) Z))
   ·intro w32 e_; subst e_; clear h; have h := z35; dsimp only at h; refine W.seq (W.seq (W.pk (.M Z (.V Z (O.asOk (cs := [.i (((x1.asmsg_Offer).Quote).ID), .i (((x1.asmsg_Offer).Quote).Member), .i (((x1.asmsg_Offer).Quote).Side), .i (((x1.asmsg_Offer).Quote).Basket), .i (((x1.asmsg_Offer).Quote).Amount), .i (((x1.asmsg_Offer).Quote).Rate), .i (((x1.asmsg_Offer).Quote).Start), .i (((x1.asmsg_Offer).Quote).End)]) pl97 (msg_Message.atmsg_Offer x1) Z Z Z) (.M Z ?_))))); (iterate 2 refine .V Z (OpL.extract Z Z Z) ?_); refine .t Z Z (O.alloc z97 Z) (.S ty97 Z [.i (((x1.asmsg_Offer).Quote).ID), .i (((x1.asmsg_Offer).Quote).Member), .i (((x1.asmsg_Offer).Quote).Side), .i (((x1.asmsg_Offer).Quote).Basket), .i (((x1.asmsg_Offer).Quote).Amount), .i (((x1.asmsg_Offer).Quote).Rate), .i (((x1.asmsg_Offer).Quote).Start), .i (((x1.asmsg_Offer).Quote).End)] Z (.A Z (.nil (W.seq (W.pk (.M Z (.nil (W.cnd Z h (fun q45 h => ?_) (fun q45 h => ?_)))))))))
    ·refine W.seq ?_; obtain ⟨t46, b47, h⟩ := bnd1 h; refine W.pk (.M Z (.F fld97_0 Z (.F fld59_1 Z (.V Z (O.ld (y := .i (((x1.asmsg_Offer).Quote).Member)) ty3 Z Z Z) (.C (.tup [.agg (auth_Member.av t46.1), .b t46.2]) [(0, some (.box [.own 1003, .b x0.made])), (1003, some (.rows 32 5 (List.map auth_Member.enc x0.l) false)), (0, none), (1000, none)] 1 (auth_List_Get.ok b47) ca18 Z (cC (.ptr _ _ _ _ _ Z (cC (.own _ _ _ _ Z) (cI .nil))) (cI .nil)) Z ?_))))); refine .M Z ?_; (iterate 2 refine .V Z (OpL.extract Z Z Z) ?_); refine .t Z Z (O.alloc z32 Z) (.S ty32 Z [.i t46.1.ID, .s t46.1.Name, .i t46.1.State, .i t46.1.Bound, .b t46.1.Late] Z (.A Z (.nil (W.seq (W.pk (.F fld32_2 Z (.V Z (O.ld (y := .i t46.1.State) ty3 Z Z Z) (.B Z (.nil (W.cnd Z h (fun q48 h => ?_) (fun q48 h => ?_)))))))))))
     ·refine W.seq (W.pk (.A Z (.nil (W.ret ?_)))); cases h; exact leaves (.inr Z) Z (.imm _) (cS (.ptr _ _ _ _ _ Z (cC (.own _ _ _ _ Z) (cI .nil))) (cN .nil)) Z Z
     ·refine W.skip (W.seq (W.pk (.A Z (.nil (W.ret ?_))))); cases h; exact leaves (.inr Z) Z (.imm _) (cS (.ptr _ _ _ _ _ Z (cC (.own _ _ _ _ Z) (cI .nil))) (cN .nil)) Z Z
    ·refine W.skip (W.seq (W.pk (.A Z (.nil (W.ret ?_))))); cases h; exact leaves (.inr Z) Z (.imm _) (cS (.ptr _ _ _ _ _ Z (cC (.own _ _ _ _ Z) (cI .nil))) (cN .nil)) Z Z

noncomputable def lombardref10_Sender.f (x0 : lombardref10_Msg) : Option (Int) :=
 if (x0.Kind == 8) = true then
 some x0.Quote.Member
 else if (((x0.Kind == 9) || (x0.Kind == 10)) || (x0.Kind == 11)) = true then
 some x0.Member
 else some 0
theorem lombardref10_Sender.ok {x0 : lombardref10_Msg} {r : Int} (h : lombardref10_Sender.f x0 = some r) : Pm.Spec prog 45 [.agg (im (lombardref10_Msg.enc x0))] (.imm (.val (.int .i64 r))) [none] := by
 unfold lombardref10_Sender.f at h; refine Pm.Spec.of_body Tryz.func45 Z (by kernel_rfl) (L Z) (L Z) ?_; refine W.ghost (σ' := (mkSt [(0, some (.agg (lombardref10_Msg.av x0)))] [] 1000)) (Gives.entry (.c Z .n) .n) (W.seq (W.pk (.t Z Z (O.box Z Z Z Z Z) (.A Z (.nil (W.seq (W.seq (W.pk (.F fld64_0 Z (.V Z (O.ld (y := .i x0.Kind) ty3 Z Z Z) (.B Z ?_))))))))))); refine .nil (W.cnd Z h (fun q1 h => ?_) (fun q1 h => ?_))
 ·refine W.seq (W.pk (.F fld64_9 Z (.F fld59_1 Z (.V Z (O.ld (y := .i x0.Quote.Member) ty3 Z Z Z) (.A Z (.nil (W.ret ?_))))))); cases h; exact lv Z Z
 ·refine W.skip (W.seq (W.seq (W.fork (mkSt [(1, some (.ptr 1000 0)), (21, some (.b (((x0.Kind == 9) || (x0.Kind == 10)) || (x0.Kind == 11))))] [(1000, some (.box (lombardref10_Msg.av x0)))] 1001) ?_ ?_)))
  ·refine W.cnd Z h (fun q4 h => ?_) (fun q4 h => ?_)
   ·refine W.seq (W.pk (.F fld64_1 Z (.V Z (O.ld (y := .i x0.Member) ty3 Z Z Z) (.A Z (.nil (W.ret ?_)))))); cases h; exact lv Z Z
   ·refine W.skip (W.seq (W.pk (.A Z (.nil (W.ret ?_))))); cases h; exact lv Z Z
  ·clear h; refine W.pk (.F fld64_0 Z (.V Z (O.ld (y := .i x0.Kind) ty3 Z Z Z) (.B Z (.M Z ?_)))); rcases tf (x0.Kind == 9) with g2 | g2
   ·exact .X Z g2 (.X Z g2 (.X Z g2 (.T g2 Z (.M Z (.X Z Z (.X Z Z (.X Z Z (.T Z Z (.nil (toN (Gm [] (.r Z Z (.c Z (sbb (by simp only [g2, BL])) Z .n)) (.r Z Z Z .n) Z)))))))))))
   ·refine .H fld64_0 Z g2 Z (.U Z g2 (O.ld (y := .i x0.Kind) ty3 Z Z Z) (.G Z g2 Z (.E g2 Z (.M Z ?_)))); rcases tf (x0.Kind == 10) with g3 | g3
    ·exact .X Z g3 (.X Z g3 (.X Z g3 (.T g3 Z (.nil (toN (Gm [] (.r Z Z (.c Z (sbb (by simp only [g2, g3, BL])) Z .n)) (.r Z Z Z .n) Z))))))
    ·exact .H fld64_0 Z g3 Z (.U Z g3 (O.ld (y := .i x0.Kind) ty3 Z Z Z) (.G Z g3 Z (.E g3 Z (.nil (toN (Gm [] (.r Z Z (.c Z (sbb (by simp only [g2, g3, BL])) Z .n)) (.r Z Z Z .n) Z))))))

noncomputable def lombardref30_May.f (x0 : List lombardref30_Member) (x1 : lombardref10_Msg) : Option (Int) :=
 (lombardref10_Check.f x1).bind fun t1 =>
 if (t1 != 0) = true then
 some t1
 else (lombardref10_Sender.f x1).bind fun t4 =>
 ((
 if (((((x1.Kind == 6) || (x1.Kind == 7)) || (x1.Kind == 12)) || (x1.Kind == 13)) || (x1.Kind == 14)) = true then
 some x1.Member
 else some t4 : Option (Int))).bind fun o12 =>
 if (o12 == 0) = true then
 some 0
 else (lombardref30_Find.f x0 o12).bind fun t16 =>
 if (decide (t16 < 0)) = true then
 some 6
 else if (0 : Int) ≤ t16 ∧ t16 < (List.length x0 : Int) then
 if ((((nth x0 t16).State) == 3) = false → (0 : Int) ≤ t16 ∧ t16 < (List.length x0 : Int)) then
 if ((((nth x0 t16).State) == 3) || ((((nth x0 t16).State) == 2) && (x1.Kind == 8))) = true then
 some 30
 else some 0
 else none
 else none
theorem lombardref30_May.ok {x0 : List lombardref30_Member} {x1 : lombardref10_Msg} {r : Int} (h : lombardref30_May.f x0 x1 = some r) : Pm.Spec prog 26 [.xown 31 5 (List.map lombardref30_Member.enc x0), .agg (im (lombardref10_Msg.enc x1))] (.imm (.val (.int .i64 r))) [some (.xown 31 5 (List.map lombardref30_Member.enc x0)), none] := by
 unfold lombardref30_May.f at h; refine Pm.Spec.of_body Tryz.func26 Z (by kernel_rfl) (L Z) (L Z) ?_; refine W.ghost (σ' := (mkSt [(0, some (.own 0)), (1, some (.agg (lombardref10_Msg.av x1)))] [(0, some (.rows 31 5 (List.map lombardref30_Member.enc x0) false))] 1000)) (Gives.entry (.c Z (.c Z .n)) (.c Z .n)) (W.seq (W.pk (.t Z Z (O.box Z Z Z Z Z) (.A Z (.nil (W.seq (W.seq ?_))))))); obtain ⟨t1, b2, h⟩ := bnd1 h; refine W.pk (.V Z (O.ldN ty64 Z Z Z) (.C (.i t1) [] 0 (lombardref10_Check.ok b2) ca44 Z (cC (.agg _ _ _ _ (cI (cI (cI (cI (cI (cI (cI (cI (cI (cI (cI (cI (cI (cI (cI (cI (cI (cI (cI (cI (cI (cI (cI (cI (cI (cI (cI (cI (cI (cI (cI (cI (cI (cI (cI (cI .nil))))))))))))))))))))))))))))))))))))) .nil) Z ?_)); refine .A Z (.nil (W.seq (W.pk (.M Z (.B Z (.nil (W.cnd Z h (fun q3 h => ?_) (fun q3 h => ?_))))))))
 ·refine W.seq (W.pk (.M Z (.A Z (.nil (W.ret ?_))))); cases h; exact leaves (.inr Z) Z (.imm _) (cS (.own _ _ _ _ Z) (cN .nil)) Z Z
 ·refine W.skip (W.seq ?_); obtain ⟨t4, b5, h⟩ := bnd1 h; refine W.pk (.V Z (O.ldN ty64 Z Z Z) (.C (.i t4) [] 0 (lombardref10_Sender.ok b5) ca45 Z (cC (.agg _ _ _ _ (cI (cI (cI (cI (cI (cI (cI (cI (cI (cI (cI (cI (cI (cI (cI (cI (cI (cI (cI (cI (cI (cI (cI (cI (cI (cI (cI (cI (cI (cI (cI (cI (cI (cI (cI (cI .nil))))))))))))))))))))))))))))))))))))) .nil) Z ?_)); refine .A Z (.nil (W.seq (W.seq (W.fork (mkSt [(0, some (.own 0)), (3, some (.ptr 1000 0)), (6, some (.i t4)), (37, some (.b (((((x1.Kind == 6) || (x1.Kind == 7)) || (x1.Kind == 12)) || (x1.Kind == 13)) || (x1.Kind == 14))))] [(0, some (.rows 31 5 (List.map lombardref30_Member.enc x0) false)), (1000, some (.box (lombardref10_Msg.av x1)))] 1001) ?_ ?_))))
  ·obtain ⟨o12, b13, h⟩ := bnd1 h; refine W.fork (mkSt [(0, some (.own 0)), (3, some (.ptr 1000 0)), (6, some (.i o12))] [(0, some (.rows 31 5 (List.map lombardref30_Member.enc x0) false)), (1000, some (.box (lombardref10_Msg.av x1)))] 1001) ?_ ?_
   ·refine W.seq (W.seq (W.pk (.M Z (.B Z (.nil (W.cnd Z h (fun q15 h => ?_) (fun q15 h => ?_)))))))
    ·refine W.seq (W.pk (.A Z (.nil (W.ret ?_)))); cases h; exact leaves (.inr Z) Z (.imm _) (cS (.own _ _ _ _ Z) (cN .nil)) Z Z
    ·refine W.skip (W.seq ?_); obtain ⟨t16, b17, h⟩ := bnd1 h; refine W.pk (.M Z (.M Z (.C (.i t16) [(0, some (.rows 31 5 (List.map lombardref30_Member.enc x0) false)), (0, none)] 0 (lombardref30_Find.ok b17) ca19 Z (cC (.own _ _ _ _ Z) (cI .nil)) Z ?_))); refine .A Z (.nil (W.seq (W.seq (W.pk (.M Z (.B Z (.nil (W.cnd Z h (fun q18 h => ?_) (fun q18 h => ?_)))))))))
     ·refine W.seq (W.pk (.A Z (.nil (W.ret ?_)))); cases h; exact leaves (.inr Z) Z (.imm _) (cS (.own _ _ _ _ Z) (cN .nil)) Z Z
     ·refine W.skip (W.seq (W.seq ?_)); obtain ⟨c19, h⟩ := chk h; obtain ⟨c20, h⟩ := chk h; refine W.fork (mkSt [(65, some (.b ((((nth x0 t16).State) == 3) || ((((nth x0 t16).State) == 2) && (x1.Kind == 8)))))] [(0, some (.rows 31 5 (List.map lombardref30_Member.enc x0) false))] 1001) ?_ ?_
      ·refine W.cnd Z h (fun q23 h => ?_) (fun q23 h => ?_)
       ·refine W.seq (W.pk (.A Z (.nil (W.ret ?_)))); cases h; exact leaves (.inr Z) Z (.imm _) (cS (.own _ _ _ _ Z) (cN .nil)) Z Z
       ·refine W.skip (W.seq (W.pk (.A Z (.nil (W.ret ?_))))); cases h; exact leaves (.inr Z) Z (.imm _) (cS (.own _ _ _ _ Z) (cN .nil)) Z Z
      ·clear h; refine W.pk (.M Z (.M Z (.V Z (O.idxO sl24 c19 Z Z Z Z) (.F fld31_2 Z (.V Z (O.ldE (c := (.val (.int .i64 ((nth x0 t16).State)))) ty3 c19 Z Z Z Z Z) (.B Z (.M Z ?_))))))); rcases tf (((nth x0 t16).State) == 3) with g21 | g21
       ·(iterate 7 refine .X Z g21 ?_); (iterate 3 refine .x Z (unmetU Z Z Z) ?_); exact .X Z g21 (.T g21 Z (.nil (toN (Gm [] (.c Z (sbb (by simp only [g21, BL])) Z .n) (.r Z Z Z .n) Z))))
       ·refine .N Z g21 (.N Z g21 (.U Z g21 (O.idxO sl24 (c20 (by simp only [g21, BL])) Z Z Z Z) ?_)); refine .H fld31_2 Z g21 Z (.U Z g21 (O.ldE (c := (.val (.int .i64 ((nth x0 t16).State)))) ty3 (c20 (by simp only [g21, BL])) Z Z Z Z Z) ?_); refine .G Z g21 Z (.N Z g21 ?_); rcases tf (((nth x0 t16).State) == 2) with g22 | g22
        ·exact .H fld64_0 Z g22 Z (.U Z g22 (O.ld (y := .i x1.Kind) ty3 Z Z Z) (.G Z g22 Z (.U Z g21 (O.pickT g22 Z Z Z) (.E g21 Z (.nil (toN (Gm [] (.c Z (sbb (by simp only [g21, g22, BL])) Z .n) (.r Z Z Z .n) Z)))))))
        ·(iterate 3 refine .X Z g22 ?_); exact .U Z g21 (O.pickF g22 Z Z Z) (.E g21 Z (.nil (toN (Gm [] (.c Z (sbb (by simp only [g21, g22, BL])) Z .n) (.r Z Z Z .n) Z))))
   ·clear h; have h := b13; refine W.cnd Z h (fun q14 h => ?_) (fun q14 h => ?_)
    ·refine W.pk (.F fld64_1 Z (.V Z (O.ld (y := .i x1.Member) ty3 Z Z Z) (.A Z (.nil ?_)))); cases h; exact toN (Gm [] (.e Z Z) (.e Z Z) Z)
    ·refine W.skip ?_; cases h; exact toN (Gm [] (.e Z Z) (.e Z Z) Z)
  ·clear h; refine W.pk (.F fld64_0 Z (.V Z (O.ld (y := .i x1.Kind) ty3 Z Z Z) (.B Z (.M Z ?_)))); rcases tf (x1.Kind == 6) with g6 | g6
   ·refine .X Z g6 (.X Z g6 (.X Z g6 (.T g6 Z (.M Z (.X Z Z (.X Z Z (.X Z Z (.T Z Z (.M Z (.X Z Z (.X Z Z ?_))))))))))); exact .X Z Z (.T Z Z (.M Z (.X Z Z (.X Z Z (.X Z Z (.T Z Z (.nil (toN (Gm [] (.r Z Z (.r Z Z (.r Z Z (.c Z (sbb (by simp only [g6, BL])) Z .n)))) (.e Z Z) Z)))))))))
   ·refine .H fld64_0 Z g6 Z (.U Z g6 (O.ld (y := .i x1.Kind) ty3 Z Z Z) (.G Z g6 Z (.E g6 Z (.M Z ?_)))); rcases tf (x1.Kind == 7) with g7 | g7
    ·refine .X Z g7 (.X Z g7 (.X Z g7 (.T g7 Z (.M Z (.X Z Z (.X Z Z (.X Z Z (.T Z Z (.M Z (.X Z Z (.X Z Z ?_))))))))))); exact .X Z Z (.T Z Z (.nil (toN (Gm [] (.r Z Z (.r Z Z (.r Z Z (.c Z (sbb (by simp only [g6, g7, BL])) Z .n)))) (.e Z Z) Z))))
    ·refine .H fld64_0 Z g7 Z (.U Z g7 (O.ld (y := .i x1.Kind) ty3 Z Z Z) (.G Z g7 Z (.E g7 Z (.M Z ?_)))); rcases tf (x1.Kind == 12) with g8 | g8
     ·exact .X Z g8 (.X Z g8 (.X Z g8 (.T g8 Z (.M Z (.X Z Z (.X Z Z (.X Z Z (.T Z Z (.nil (toN (Gm [] (.r Z Z (.r Z Z (.r Z Z (.c Z (sbb (by simp only [g6, g7, g8, BL])) Z .n)))) (.e Z Z) Z)))))))))))
     ·refine .H fld64_0 Z g8 Z (.U Z g8 (O.ld (y := .i x1.Kind) ty3 Z Z Z) (.G Z g8 Z (.E g8 Z (.M Z ?_)))); rcases tf (x1.Kind == 13) with g9 | g9
      ·exact .X Z g9 (.X Z g9 (.X Z g9 (.T g9 Z (.nil (toN (Gm [] (.r Z Z (.r Z Z (.r Z Z (.c Z (sbb (by simp only [g6, g7, g8, g9, BL])) Z .n)))) (.e Z Z) Z))))))
      ·exact .H fld64_0 Z g9 Z (.U Z g9 (O.ld (y := .i x1.Kind) ty3 Z Z Z) (.G Z g9 Z (.E g9 Z (.nil (toN (Gm [] (.r Z Z (.r Z Z (.r Z Z (.c Z (sbb (by simp only [g6, g7, g8, g9, BL])) Z .n)))) (.e Z Z) Z))))))

noncomputable def lombardlaw30_AuthMay.f (x0 : List lombardlaw30_Act) (x1 : lombardref10_Msg) : Option (Bool) :=
 (lombardlaw30_filled.f x0).bind fun t1 =>
 (if (!t1.2.2) = false then lombardref10_Small.f x1 else some default).bind fun t3 =>
 if ((!t1.2.2) || (!t3)) = true then
 (if t1.2.2 = true then lombardlaw30_awake.f else some default).bind fun t7 =>
 some (t1.2.2 && t7)
 else (lombardlaw10_Of.f x1).bind fun t10 =>
 (auth_List_May.f t1.1 t10).bind fun t12 =>
 (lombardref30_May.f t1.2.1 x1).bind fun t14 =>
 (if (t12 == t14) = true then lombardlaw30_awake.f else some default).bind fun t16 =>
 some ((t12 == t14) && t16)
theorem lombardlaw30_AuthMay.ok {x0 : List lombardlaw30_Act} {x1 : lombardref10_Msg} {r : Bool} (h : lombardlaw30_AuthMay.f x0 x1 = some r) : Pm.Spec prog 6 [.imm (.row 5 (List.map lombardlaw30_Act.enc x0)), .agg (im (lombardref10_Msg.enc x1))] (.imm (.val (.bool r))) [none, none] := by
 unfold lombardlaw30_AuthMay.f at h; refine Pm.Spec.of_body Tryz.func6 Z (by kernel_rfl) (L Z) (L Z) ?_; refine W.ghost (σ' := (mkSt [(0, some (.imm (.row 5 (List.map lombardlaw30_Act.enc x0)))), (1, some (.agg (lombardref10_Msg.av x1)))] [] 1000)) (Gives.entry (.c Z (.c Z .n)) .n) (W.seq (W.pk (.t Z Z (O.box Z Z Z Z Z) (.A Z (.nil (W.seq ?_)))))); obtain ⟨t1, b2, h⟩ := bnd1 h; refine W.pk (.M Z (.C (.tup [.ptr 1001 0, .own 1003, .b t1.2.2]) [(1001, some (.box [.own 1002, .b t1.1.made])), (1002, some (.rows 32 5 (List.map auth_Member.enc t1.1.l) false)), (1003, some (.rows 31 5 (List.map lombardref30_Member.enc t1.2.1) false))] 3 (lombardlaw30_filled.ok b2) ca8 Z (cI .nil) Z ?_)); refine .M Z ?_; (iterate 3 refine .V Z (OpL.extract Z Z Z) ?_); refine .A Z (.A Z (.A Z (.nil (W.seq (W.seq ?_))))); obtain ⟨t3, b4, h⟩ := bnd1 h; refine W.fork (mkSt [(3, some (.ptr 1000 0)), (5, some (.ptr 1001 0)), (6, some (.own 1003)), (7, some (.b t1.2.2)), (20, some (.b ((!t1.2.2) || (!t3))))] [(1000, some (.box (lombardref10_Msg.av x1))), (1001, some (.box [.own 1002, .b t1.1.made])), (1002, some (.rows 32 5 (List.map auth_Member.enc t1.1.l) false)), (1003, some (.rows 31 5 (List.map lombardref30_Member.enc t1.2.1) false))] 1004) ?_ ?_
 ·refine W.cnd Z h (fun q6 h => ?_) (fun q6 h => ?_)
  ·refine W.seq ?_; obtain ⟨t7, b8, h⟩ := bnd1 h; refine W.fork (mkSt [(4, some (.b (t1.2.2 && t7)))] [] 1004) ?_ ?_
   ·refine W.ret ?_; cases h; exact leaves (.inr Z) Z (.imm _) (cN (cN .nil)) Z Z
   ·clear h; refine W.pk (.M Z (.M Z ?_)); rcases tf t1.2.2 with g9 | g9
    ·refine .call (.b t7) [] 0 (lombardlaw30_awake.ok ((if_pos (by simp only [g9, BL])).symm.trans b8)) Z (met Z Z Z g9) Z ca9 Z Z .nil Z Z Z Z Z ?_; exact .T g9 Z (.A Z (.nil (toN (Gm [] (.c Z (sbb (by simp only [g9, BL])) Z .n) .n Z))))
    ·exact .X Z g9 (.E g9 Z (.A Z (.nil (toN (Gm [] (.c Z (sbb (by simp only [g9, BL])) Z .n) .n Z)))))
  ·refine W.skip (W.seq ?_); obtain ⟨t10, b11, h⟩ := bnd1 h; obtain ⟨t12, b13, h⟩ := bnd1 h; obtain ⟨t14, b15, h⟩ := bnd1 h; obtain ⟨t16, b17, h⟩ := bnd1 h; refine W.fork (mkSt [(4, some (.b ((t12 == t14) && t16)))] [] 1005) ?_ ?_
   ·refine W.ret ?_; cases h; exact leaves (.inr Z) Z (.imm _) (cN (cN .nil)) Z Z
   ·clear h; refine W.dk (unm 12 [0, 0, 2, 7, 0, 0, 63, 127, 255, 511, 1023, 2047]) Z (by kernel_rfl) ?_; refine .M Z (.V Z (O.ldN ty64 Z Z Z) (.C (.imm (msg_Message.enc t10)) [] 0 (lombardlaw10_Of.ok b11) ca25 Z (cC (.agg _ _ _ _ (cI (cI (cI (cI (cI (cI (cI (cI (cI (cI (cI (cI (cI (cI (cI (cI (cI (cI (cI (cI (cI (cI (cI (cI (cI (cI (cI (cI (cI (cI (cI (cI (cI (cI (cI (cI .nil))))))))))))))))))))))))))))))))))))) .nil) Z ?_)); refine .C (.i t12) [(1001, some (.box [.own 1004, .b t1.1.made])), (1004, some (.rows 32 5 (List.map auth_Member.enc t1.1.l) false)), (1001, none), (1002, none)] 1 (auth_List_May.ok b13) ca24 Z (cC (.ptr _ _ _ _ _ Z (cC (.own _ _ _ _ Z) (cI .nil))) (cI .nil)) Z ?_; refine .M Z (.V Z (O.ldN ty64 Z Z Z) (.C (.i t14) [(1003, some (.rows 31 5 (List.map lombardref30_Member.enc t1.2.1) false)), (1003, none)] 0 (lombardref30_May.ok b15) ca26 Z (cC (.own _ _ _ _ Z) (cC (.agg _ _ _ _ (cI (cI (cI (cI (cI (cI (cI (cI (cI (cI (cI (cI (cI (cI (cI (cI (cI (cI (cI (cI (cI (cI (cI (cI (cI (cI (cI (cI (cI (cI (cI (cI (cI (cI (cI (cI .nil))))))))))))))))))))))))))))))))))))) .nil)) Z ?_)); refine .B Z (.M Z ?_); rcases tf (t12 == t14) with g18 | g18
    ·refine .call (.b t16) [] 0 (lombardlaw30_awake.ok ((if_pos (by simp only [g18, BL])).symm.trans b17)) Z (met Z Z Z g18) Z ca9 Z Z .nil Z Z Z Z Z ?_; refine .T g18 Z (.A Z (.nil ?_)); refine ⟨by kernel_rfl, by kernel_rfl, ?_⟩; exact toN (Gm [] (.c Z (sbb (by simp only [g18, BL])) Z .n) .n Z)
    ·refine .X Z g18 (.E g18 Z (.A Z (.nil ?_))); refine ⟨by kernel_rfl, by kernel_rfl, ?_⟩; exact toN (Gm [] (.c Z (sbb (by simp only [g18, BL])) Z .n) .n Z)
 ·clear h; refine W.pk (.M Z (.V Z (OpL.unV Z Z Z) (.M Z ?_))); rcases tf t1.2.2 with g5 | g5
  ·refine .U Z (notT g5) (O.ldN ty64 Z Z Z) (.call (.b t3) [] 0 (lombardref10_Small.ok ((if_pos (by simp only [g5, BL])).symm.trans b4)) Z (met Z Z Z (notT g5)) Z ca23 Z Z (cC (.agg _ _ _ _ (cI (cI (cI (cI (cI (cI (cI (cI (cI (cI (cI (cI (cI (cI (cI (cI (cI (cI (cI (cI (cI (cI (cI (cI (cI (cI (cI (cI (cI (cI (cI (cI (cI (cI (cI (cI .nil))))))))))))))))))))))))))))))))))))) .nil) Z Z Z Z Z ?_); exact .U Z (notT g5) (OpL.unV Z Z Z) (.E (notT g5) Z (.nil (toN (Gm [] (.r Z Z (.r Z Z (.r Z Z (.r Z Z (.c Z (sbb (by simp only [g5, BL])) Z .n))))) (.e Z Z) Z))))
  ·(iterate 3 refine .X Z (notF g5) ?_); exact .T (notF g5) Z (.nil (toN (Gm [] (.r Z Z (.r Z Z (.r Z Z (.r Z Z (.c Z (sbb (by simp only [g5, BL])) Z .n))))) (.e Z Z) Z)))
end Go.Proofs.YtjdkibnhlmgppaaGreat
