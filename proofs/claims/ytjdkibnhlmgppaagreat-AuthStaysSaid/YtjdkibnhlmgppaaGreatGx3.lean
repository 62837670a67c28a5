/- Shows what functions of the program come to, each as a plain function: written by a program of the author's for this claim. -/
import Derived.Test.YtjdkibnhlmgppaaGreatGx2
namespace Go.Proofs.YtjdkibnhlmgppaaGreat
open Go Go.Pm
set_option linter.unusedVariables false
set_option maxRecDepth 100000
set_option maxHeartbeats 4000000
set_option linter.unusedSimpArgs false
noncomputable def auth_List_Join.f (x0 : auth_List) (x1 : Int) (x2 : Bs) : Option (Int × auth_List) :=
 if (!x0.made) = true then
 some (3, x0)
 else (msg_Check.f (msg_Message.cmsg_Join (⟨x1, x2⟩ : msg_Join))).bind fun t2 =>
 if (t2 != 0) = true then
 some (t2, x0)
 else (auth_List_place.f x0 x1).bind fun t5 =>
 (if t5.2 = false then slices_ContainsFunc_auth_Member__auth_List_Join_1.f x0.l x2 else some default).bind fun t7 =>
 if (t5.2 || t7) = true then
 some (7, x0)
 else (slices_Insert_auth_Member.f x0.l t5.1 [(⟨x1, x2, 1, 0, false⟩ : auth_Member)]).bind fun t11 =>
 some (0, (⟨t11, x0.made⟩ : auth_List))
theorem auth_List_Join.ok {x0 : auth_List} {x1 : Int} {x2 : Bs} {r : Int × auth_List} (h : auth_List_Join.f x0 x1 x2 = some r) : Pm.Spec prog 13 [.xbox [.xown 32 5 (List.map auth_Member.enc x0.l), .imm (.val (.bool x0.made))], .imm (.val (.int .i64 x1)), .imm (.val (.string (tx x2)))] (.imm (.val (.int .i64 r.1))) [some (.xbox [.xown 32 5 (List.map auth_Member.enc r.2.l), .imm (.val (.bool r.2.made))]), none, none] := by
 unfold auth_List_Join.f at h; refine Pm.Spec.of_body Tryz.func13 Z (by kernel_rfl) (L Z) (L Z) ?_; refine W.ghost (σ' := (mkSt [(0, some (.ptr 0 0)), (1, some (.i x1)), (2, some (.s x2))] [(0, some (.box [.own 1, .b x0.made])), (1, some (.rows 32 5 (List.map auth_Member.enc x0.l) false))] 1000)) (Gives.entry (.c Z (.c Z (.c Z .n))) (.c Z (.c Z .n))) (W.ghost (σ' := (mkSt [(0, some (.ptr 0 0)), (1, some (.i x1)), (2, some (.s x2))] [(0, some (.box [.own 1000, .b x0.made])), (1000, some (.rows 32 5 (List.map auth_Member.enc x0.l) false))] 1001)) (Gm [(1000, 1)] (.e Z Z) (.e Z Z) Z) (W.seq (W.pk (.t Z Z (O.box Z Z Z Z Z) (.A Z (.nil (W.seq (W.seq (W.pk (.M Z (.V Z (OpL.eqP Z u23 Z Z Z) ?_))))))))))); refine .M Z (.N Z Z (.U Z Z (OpL.nilP Z Z Z) (.H fld79_1 Z Z Z (.U Z Z (O.ld (y := .b x0.made) ty4 Z Z Z) (.U Z Z (OpL.unV Z Z Z) (.E Z Z (.nil (W.cnd Z h (fun q1 h => ?_) (fun q1 h => ?_)))))))))
 ·refine W.seq (W.pk (.A Z (.nil (W.ret ?_)))); cases h; exact leaves (.inr Z) Z (.imm _) (cS (.ptr _ _ _ _ _ Z (cC (.own _ _ _ _ Z) (cI .nil))) (cN (cN .nil))) Z Z
 ·refine W.skip (W.seq (W.seq ?_)); obtain ⟨t2, b3, h⟩ := bnd1 h; refine W.pk (.M Z (.V Z (O.ld (y := .s x2) ty9 Z Z Z) (.V Z (O.build (out := [.i x1, .s x2]) bl84 Z Z Z Z (by kernel_rfl)) ?_))); refine .V Z (O.mkIfc cn84 Z Z Z) (.C (.i t2) [] 0 (msg_Check.ok b3) ca33 Z (cI .nil) Z ?_); refine .A Z (.nil (W.seq (W.pk (.M Z (.B Z (.nil (W.cnd Z h (fun q4 h => ?_) (fun q4 h => ?_))))))))
  ·refine W.seq (W.pk (.M Z (.A Z (.nil (W.ret ?_))))); cases h; exact leaves (.inr Z) Z (.imm _) (cS (.ptr _ _ _ _ _ Z (cC (.own _ _ _ _ Z) (cI .nil))) (cN (cN .nil))) Z Z
  ·refine W.skip (W.seq ?_); obtain ⟨t5, b6, h⟩ := bnd1 h; refine W.pk (.M Z (.M Z (.C (.tup [.i t5.1, .b t5.2]) [(0, some (.box [.own 1002, .b x0.made])), (1002, some (.rows 32 5 (List.map auth_Member.enc x0.l) false)), (0, none), (1000, none)] 1 (auth_List_place.ok b6) ca34 Z (cC (.ptr _ _ _ _ _ Z (cC (.own _ _ _ _ Z) (cI .nil))) (cI .nil)) Z ?_))); refine .M Z ?_; (iterate 2 refine .V Z (OpL.extract Z Z Z) ?_); refine .A Z (.A Z (.nil (W.seq (W.seq ?_)))); obtain ⟨t7, b8, h⟩ := bnd1 h; refine W.fork (mkSt [(0, some (.ptr 0 0)), (1, some (.i x1)), (5, some (.ptr 1001 0)), (8, some (.i t5.1)), (41, some (.b (t5.2 || t7)))] [(0, some (.box [.own 1002, .b x0.made])), (1001, some (.box [.s x2])), (1002, some (.rows 32 5 (List.map auth_Member.enc x0.l) false))] 1003) ?_ ?_
   ·refine W.cnd Z h (fun q10 h => ?_) (fun q10 h => ?_)
    ·refine W.seq (W.pk (.A Z (.nil (W.ret ?_)))); cases h; exact leaves (.inr Z) Z (.imm _) (cS (.ptr _ _ _ _ _ Z (cC (.own _ _ _ _ Z) (cI .nil))) (cN (cN .nil))) Z Z
    ·refine W.skip (W.seq ?_); obtain ⟨t11, b12, h⟩ := bnd1 h; refine W.dk (unm 14 [0, 0, 2, 6, 14, 0, 0, 0, 192, 448, 1022, 2047, 4095, 8191]) Z (by kernel_rfl) ?_; refine .M Z (.M Z (.V Z (OpL.nilP Z Z Z) (.F fld79_0 Z (.V Z (O.ld (y := .own 1002) ty29 Z Z Z) (.M Z (.M Z (.V Z (O.ld (y := .s x2) ty9 Z Z Z) (.V Z (O.build (out := [.i x1, .s x2, .i 1, .i 0, .b false]) bl32 Z Z Z Z (by kernel_rfl)) ?_)))))))); refine .t Z Z (O.lit (enc := auth_Member.enc) (l := [(⟨x1, x2, 1, 0, false⟩ : auth_Member)]) sl29 Z Z Z Z Z Z Z Z Z) (.C (.own 1004) [(1004, some (.rows 32 5 (List.map auth_Member.enc t11) false)), (1002, none), (1003, none)] 1 (slices_Insert_auth_Member.ok b12) ca38 Z (cC (.own _ _ _ _ Z) (cI (cC (.own _ _ _ _ Z) .nil))) Z ?_); refine .V Z (OpL.nilP Z Z Z) (.F fld79_0 Z (.S ty29 Z [.own 1004, .b x0.made] Z (.nil ?_))); refine ⟨by kernel_rfl, by kernel_rfl, ?_⟩; refine W.seq (W.pk (.A Z (.nil (W.ret ?_)))); cases h; exact leaves (.inr Z) Z (.imm _) (cS (.ptr _ _ _ _ _ Z (cC (.own _ _ _ _ Z) (cI .nil))) (cN (cN .nil))) Z Z
   ·clear h; refine W.pk (.M Z (.M Z ?_)); rcases tf t5.2 with g9 | g9
    ·(iterate 6 refine .X Z g9 ?_); exact .T g9 Z (.nil (toN (Gm [] (.r Z Z (.r Z Z (.r Z Z (.r Z Z (.c Z (sbb (by simp only [g9, BL])) Z .n))))) (.e Z Z) Z)))
    ·refine .N Z g9 (.U Z g9 (OpL.nilP Z Z Z) (.H fld79_0 Z g9 Z (.U Z g9 (O.ld (y := .own 1002) ty29 Z Z Z) (.U Z g9 (OpL.mkfn Z Z) (.call (.b t7) [(1002, some (.rows 32 5 (List.map auth_Member.enc x0.l) false)), (1001, some (.box [.s x2])), (1002, none), (1001, none)] 0 (slices_ContainsFunc_auth_Member__auth_List_Join_1.ok ((if_pos (by simp only [g9, BL])).symm.trans b8)) Z (met Z Z Z g9) Z ca35 Z Z (cC (.own _ _ _ _ Z) (cC (.fn _ _ _ _ _ (cC (.ptr _ _ _ _ _ Z (cI .nil)) .nil)) .nil)) Z Z Z Z Z ?_))))); exact .E g9 Z (.nil (toN (Gm [] (.r Z Z (.r Z Z (.r Z Z (.r Z Z (.c Z (sbb (by simp only [g9, BL])) Z .n))))) (.e Z Z) Z)))

noncomputable def lombardref30_Change.f (x0 : List lombardref30_Member) (x1 : Int) (x2 : Int) (x3 : Int) (x4 : Bool) : Option ((List lombardref30_Member) × Int) :=
 if ((x1 == 0) && ((decide (x3 < 0)) || (decide (x3 > 1125899906842624)))) = true then
 some (x0, 1)
 else (lombardref30_Find.f x0 x2).bind fun t4 =>
 if (decide (t4 < 0)) = true then
 some (x0, 6)
 else if (0 : Int) ≤ t4 ∧ t4 < (List.length x0 : Int) then
 if (((nth x0 t4).State) == 3) = true then
 some (x0, 8)
 else if (List.length ([] : List lombardref30_Member) + List.length x0) * 48 ≤ 140737488355328 then
 ((
 if (x1 == 0) = true then
 if (0 : Int) ≤ t4 ∧ t4 < (List.length (([] : List lombardref30_Member) ++ x0) : Int) then
 some (List.set (([] : List lombardref30_Member) ++ x0) (Int.toNat t4) (⟨(nth (([] : List lombardref30_Member) ++ x0) t4).ID, (nth (([] : List lombardref30_Member) ++ x0) t4).Name, (nth (([] : List lombardref30_Member) ++ x0) t4).State, x3, (nth (([] : List lombardref30_Member) ++ x0) t4).Late⟩ : lombardref30_Member))
 else none
 else some (([] : List lombardref30_Member) ++ x0) : Option (List lombardref30_Member))).bind fun o13 =>
 ((
 if (x1 == 1) = true then
 if (0 : Int) ≤ t4 ∧ t4 < (List.length o13 : Int) then
 some (List.set o13 (Int.toNat t4) (⟨(nth o13 t4).ID, (nth o13 t4).Name, (nth o13 t4).State, (nth o13 t4).Bound, x4⟩ : lombardref30_Member))
 else none
 else some o13 : Option (List lombardref30_Member))).bind fun o20 =>
 ((
 if (x1 == 2) = true then
 if (0 : Int) ≤ t4 ∧ t4 < (List.length o20 : Int) then
 some (List.set o20 (Int.toNat t4) (⟨(nth o20 t4).ID, (nth o20 t4).Name, 1, (nth o20 t4).Bound, (nth o20 t4).Late⟩ : lombardref30_Member))
 else none
 else some o20 : Option (List lombardref30_Member))).bind fun o27 =>
 ((
 if ((x1 == 2) && x4) = true then
 if (0 : Int) ≤ t4 ∧ t4 < (List.length o27 : Int) then
 some (List.set o27 (Int.toNat t4) (⟨(nth o27 t4).ID, (nth o27 t4).Name, 2, (nth o27 t4).Bound, (nth o27 t4).Late⟩ : lombardref30_Member))
 else none
 else some o27 : Option (List lombardref30_Member))).bind fun o35 =>
 if (x1 == 3) = true then
 if (0 : Int) ≤ t4 ∧ t4 < (List.length o35 : Int) then
 some ((List.set o35 (Int.toNat t4) (⟨(nth o35 t4).ID, (nth o35 t4).Name, 3, (nth o35 t4).Bound, (nth o35 t4).Late⟩ : lombardref30_Member)), 0)
 else none
 else some (o35, 0)
 else none
 else none
theorem lombardref30_Change.ok {x0 : List lombardref30_Member} {x1 : Int} {x2 : Int} {x3 : Int} {x4 : Bool} {r : (List lombardref30_Member) × Int} (h : lombardref30_Change.f x0 x1 x2 x3 x4 = some r) : Pm.Spec prog 50 [.xown 31 5 (List.map lombardref30_Member.enc x0), .imm (.val (.int .i64 x1)), .imm (.val (.int .i64 x2)), .imm (.val (.int .i64 x3)), .imm (.val (.bool x4))] (.tup [.xown 31 5 (List.map lombardref30_Member.enc r.1), .imm (.val (.int .i64 r.2))]) [none, none, none, none, none] := by
 unfold lombardref30_Change.f at h; refine Pm.Spec.of_body Tryz.func50 Z (by kernel_rfl) (L Z) (L Z) ?_; refine W.ghost (σ' := (mkSt [(0, some (.own 0)), (1, some (.i x1)), (2, some (.i x2)), (3, some (.i x3)), (4, some (.b x4))] [(0, some (.rows 31 5 (List.map lombardref30_Member.enc x0) false))] 1000)) (Gives.entry (.c Z (.c Z (.c Z (.c Z (.c Z .n))))) (.c Z .n)) (W.seq (W.pk (.A Z (.A Z (.nil (W.seq (W.seq (W.fork (mkSt [(0, some (.own 0)), (1, some (.i x1)), (2, some (.i x2)), (3, some (.i x3)), (4, some (.b x4)), (23, some (.b ((x1 == 0) && ((decide (x3 < 0)) || (decide (x3 > 1125899906842624))))))] [(0, some (.rows 31 5 (List.map lombardref30_Member.enc x0) false))] 1000) ?_ ?_))))))))
 ·refine W.cnd Z h (fun q3 h => ?_) (fun q3 h => ?_)
  ·refine W.seq (W.pk (.M Z (.A Z (.A Z (.nil (W.ret ?_)))))); cases h; exact leaves (.inr Z) Z (.tup _ _ _ _ (cC (.own _ _ _ _ Z) (cI .nil))) (cN (cN (cN (cN (cN .nil))))) Z Z
  ·refine W.skip (W.seq ?_); obtain ⟨t4, b5, h⟩ := bnd1 h; refine W.pk (.M Z (.M Z (.C (.i t4) [(0, some (.rows 31 5 (List.map lombardref30_Member.enc x0) false)), (0, none)] 0 (lombardref30_Find.ok b5) ca19 Z (cC (.own _ _ _ _ Z) (cI .nil)) Z ?_))); refine .A Z (.nil (W.seq (W.seq (W.pk (.M Z (.B Z (.nil (W.cnd Z h (fun q6 h => ?_) (fun q6 h => ?_)))))))))
   ·refine W.seq (W.pk (.M Z (.A Z (.A Z (.nil (W.ret ?_)))))); cases h; exact leaves (.inr Z) Z (.tup _ _ _ _ (cC (.own _ _ _ _ Z) (cI .nil))) (cN (cN (cN (cN (cN .nil))))) Z Z
   ·refine W.skip (W.seq (W.seq ?_)); obtain ⟨c7, h⟩ := chk h; refine W.pk (.M Z (.M Z (.V Z (O.idxO sl24 c7 Z Z Z Z) (.F fld31_2 Z (.V Z (O.ldE (c := (.val (.int .i64 ((nth x0 t4).State)))) ty3 c7 Z Z Z Z Z) (.B Z (.nil (W.cnd Z h (fun q8 h => ?_) (fun q8 h => ?_)))))))))
    ·refine W.seq (W.pk (.M Z (.A Z (.A Z (.nil (W.ret ?_)))))); cases h; exact leaves (.inr Z) Z (.tup _ _ _ _ (cC (.own _ _ _ _ Z) (cI .nil))) (cN (cN (cN (cN (cN .nil))))) Z Z
    ·refine W.skip (W.seq ?_); obtain ⟨c9, h⟩ := chk h; refine W.pk (.t Z Z (O.lit (enc := lombardref30_Member.enc) (l := ([] : List lombardref30_Member)) sl24 Z Z Z Z Z Z Z Z Z) (.M Z (.t Z Z (O.appO sl24 lombardref30_Member.ok c9 Z Z Z Z Z) (.A Z (.nil (W.seq (W.seq (W.pk (.M Z (.B Z (.nil ?_))))))))))); obtain ⟨o13, b14, h⟩ := bnd1 h; refine W.fork (mkSt [(1, some (.i x1)), (4, some (.b x4)), (12, some (.i t4)), (13, some (.own 1001))] [(0, some (.rows 31 5 (List.map lombardref30_Member.enc x0) false)), (1001, some (.rows 31 5 (List.map lombardref30_Member.enc o13) false))] 1002) ?_ ?_
     ·refine W.seq (W.seq (W.pk (.M Z (.B Z (.nil ?_))))); obtain ⟨o20, b21, h⟩ := bnd1 h; refine W.fork (mkSt [(1, some (.i x1)), (4, some (.b x4)), (12, some (.i t4)), (13, some (.own 1001))] [(0, some (.rows 31 5 (List.map lombardref30_Member.enc x0) false)), (1001, some (.rows 31 5 (List.map lombardref30_Member.enc o20) false))] 1002) ?_ ?_
      ·refine W.seq (W.seq (W.pk (.M Z (.B Z (.nil ?_))))); obtain ⟨o27, b28, h⟩ := bnd1 h; refine W.fork (mkSt [(1, some (.i x1)), (4, some (.b x4)), (12, some (.i t4)), (13, some (.own 1001))] [(0, some (.rows 31 5 (List.map lombardref30_Member.enc x0) false)), (1001, some (.rows 31 5 (List.map lombardref30_Member.enc o27) false))] 1002) ?_ ?_
       ·refine W.seq (W.seq (W.fork (mkSt [(1, some (.i x1)), (12, some (.i t4)), (13, some (.own 1001)), (65, some (.b ((x1 == 2) && x4)))] [(0, some (.rows 31 5 (List.map lombardref30_Member.enc x0) false)), (1001, some (.rows 31 5 (List.map lombardref30_Member.enc o27) false))] 1002) ?_ ?_))
        ·obtain ⟨o35, b36, h⟩ := bnd1 h; refine W.fork (mkSt [(1, some (.i x1)), (12, some (.i t4)), (13, some (.own 1001))] [(0, some (.rows 31 5 (List.map lombardref30_Member.enc x0) false)), (1001, some (.rows 31 5 (List.map lombardref30_Member.enc o35) false))] 1002) ?_ ?_
         ·refine W.seq (W.seq (W.pk (.M Z (.B Z (.nil (W.cnd Z h (fun q39 h => ?_) (fun q39 h => ?_)))))))
          ·obtain ⟨c40, h⟩ := chk h; refine W.pk (.M Z (.M Z (.V Z (O.idxO sl24 c40 Z Z Z Z) (.F fld31_2 Z (.s Z Z (O.stE (x' := (⟨(nth o35 t4).ID, (nth o35 t4).Name, 3, (nth o35 t4).Bound, (nth o35 t4).Late⟩ : lombardref30_Member)) ty3 c40 Z Z Z Z Z Z Z Z Z Z Z) (.nil (W.seq (W.pk (.M Z (.A Z (.A Z ?_))))))))))); refine .nil (W.ret ?_); cases h; exact leaves (.inr Z) Z (.tup _ _ _ _ (cC (.own _ _ _ _ Z) (cI .nil))) (cN (cN (cN (cN (cN .nil))))) Z Z
          ·refine W.skip (W.seq (W.pk (.M Z (.A Z (.A Z (.nil (W.ret ?_))))))); cases h; exact leaves (.inr Z) Z (.tup _ _ _ _ (cC (.own _ _ _ _ Z) (cI .nil))) (cN (cN (cN (cN (cN .nil))))) Z Z
         ·clear h; have h := b36; refine W.cnd Z h (fun q37 h => ?_) (fun q37 h => ?_)
          ·obtain ⟨c38, h⟩ := chk h; refine W.pk (.M Z (.M Z (.V Z (O.idxO sl24 c38 Z Z Z Z) (.F fld31_2 Z (.s Z Z (O.stE (x' := (⟨(nth o27 t4).ID, (nth o27 t4).Name, 2, (nth o27 t4).Bound, (nth o27 t4).Late⟩ : lombardref30_Member)) ty3 c38 Z Z Z Z Z Z Z Z Z Z Z) (.nil ?_)))))); cases h; exact toN (Gm [] (.e Z Z) (.e Z Z) Z)
          ·refine W.skip ?_; cases h; exact toN (Gm [] (.e Z Z) (.e Z Z) Z)
        ·clear h; refine W.pk (.M Z (.B Z (.M Z ?_))); rcases tf (x1 == 2) with g31 | g31
         ·exact .N Z g31 (.T g31 Z (.nil (toN (Gm [] (.r Z Z (.r Z Z (.r Z Z (.c Z (sbb (by simp only [g31, BL])) Z .n)))) (.e Z Z) Z))))
         ·exact .X Z g31 (.E g31 Z (.nil (toN (Gm [] (.r Z Z (.r Z Z (.r Z Z (.c Z (sbb (by simp only [g31, BL])) Z .n)))) (.e Z Z) Z))))
       ·clear h; have h := b28; refine W.cnd Z h (fun q29 h => ?_) (fun q29 h => ?_)
        ·obtain ⟨c30, h⟩ := chk h; refine W.pk (.M Z (.M Z (.V Z (O.idxO sl24 c30 Z Z Z Z) (.F fld31_2 Z (.s Z Z (O.stE (x' := (⟨(nth o20 t4).ID, (nth o20 t4).Name, 1, (nth o20 t4).Bound, (nth o20 t4).Late⟩ : lombardref30_Member)) ty3 c30 Z Z Z Z Z Z Z Z Z Z Z) (.nil ?_)))))); cases h; exact toN (Gm [] (.e Z Z) (.e Z Z) Z)
        ·refine W.skip ?_; cases h; exact toN (Gm [] (.e Z Z) (.e Z Z) Z)
      ·clear h; have h := b21; refine W.cnd Z h (fun q22 h => ?_) (fun q22 h => ?_)
       ·obtain ⟨c23, h⟩ := chk h; refine W.pk (.M Z (.M Z (.M Z (.V Z (O.idxO sl24 c23 Z Z Z Z) (.F fld31_4 Z (.s Z Z (O.stE (x' := (⟨(nth o13 t4).ID, (nth o13 t4).Name, (nth o13 t4).State, (nth o13 t4).Bound, x4⟩ : lombardref30_Member)) ty4 c23 Z Z Z Z Z Z Z Z Z Z Z) (.nil ?_))))))); cases h; exact toN (Gm [] (.e Z Z) (.e Z Z) Z)
       ·refine W.skip ?_; cases h; exact toN (Gm [] (.e Z Z) (.e Z Z) Z)
     ·clear h; have h := b14; refine W.cnd Z h (fun q15 h => ?_) (fun q15 h => ?_)
      ·obtain ⟨c16, h⟩ := chk h; refine W.pk (.M Z (.M Z (.M Z (.V Z (O.idxO sl24 c16 Z Z Z Z) (.F fld31_3 Z (.s Z Z (O.stE (x' := (⟨(nth (([] : List lombardref30_Member) ++ x0) t4).ID, (nth (([] : List lombardref30_Member) ++ x0) t4).Name, (nth (([] : List lombardref30_Member) ++ x0) t4).State, x3, (nth (([] : List lombardref30_Member) ++ x0) t4).Late⟩ : lombardref30_Member)) ty3 c16 Z Z Z Z Z Z Z Z Z Z Z) (.nil ?_))))))); cases h; exact toN (Gm [] (.e Z Z) (.e Z Z) Z)
      ·refine W.skip ?_; cases h; exact toN (Gm [] (.e Z Z) (.e Z Z) Z)
 ·clear h; refine W.pk (.M Z (.B Z (.M Z ?_))); rcases tf (x1 == 0) with g1 | g1
  ·refine .N Z g1 (.G Z g1 Z (.N Z g1 ?_)); rcases tf (decide (x3 < 0)) with g2 | g2
   ·exact .X Z g2 (.X Z g2 (.U Z g1 (O.pickT g2 Z Z Z) (.T g1 Z (.nil (toN (Gm [] (.r Z Z (.r Z Z (.r Z Z (.r Z Z (.r Z Z (.c Z (sbb (by simp only [g1, g2, BL])) Z .n)))))) (.r Z Z Z .n) Z))))))
   ·exact .N Z g2 (.G Z g2 Z (.U Z g1 (O.pickF g2 Z Z Z) (.T g1 Z (.nil (toN (Gm [] (.r Z Z (.r Z Z (.r Z Z (.r Z Z (.r Z Z (.c Z (sbb (by simp only [g1, g2, BL])) Z .n)))))) (.r Z Z Z .n) Z))))))
  ·refine .X Z g1 (.X Z g1 (.X Z g1 ?_)); (iterate 2 refine .x Z (unmetU Z Z Z) ?_); exact .X Z g1 (.E g1 Z (.nil (toN (Gm [] (.r Z Z (.r Z Z (.r Z Z (.r Z Z (.r Z Z (.c Z (sbb (by simp only [g1, BL])) Z .n)))))) (.r Z Z Z .n) Z))))

noncomputable def auth_List_change__auth_List_Bound_1.f (x0 : auth_List) (x1 : Int) (x2c0 : Int) : Option (Int × auth_List) :=
 if (!x0.made) = true then
 some (3, x0)
 else (auth_List_place.f x0 x1).bind fun t2 =>
 if (!t2.2) = true then
 some (6, x0)
 else if (0 : Int) ≤ t2.1 ∧ t2.1 < (List.length x0.l : Int) then
 if (((nth x0.l t2.1).State) == 3) = true then
 some (8, x0)
 else if (0 : Int) ≤ t2.1 ∧ t2.1 < (List.length x0.l : Int) then
 some (0, (⟨(List.set x0.l (Int.toNat t2.1) (⟨(nth x0.l t2.1).ID, (nth x0.l t2.1).Name, (nth x0.l t2.1).State, x2c0, (nth x0.l t2.1).Late⟩ : auth_Member)), x0.made⟩ : auth_List))
 else none
 else none
theorem auth_List_change__auth_List_Bound_1.ok {x0 : auth_List} {x1 : Int} {x2c0 : Int} {r : Int × auth_List} (h : auth_List_change__auth_List_Bound_1.f x0 x1 x2c0 = some r) : Pm.Spec prog 39 [.xbox [.xown 32 5 (List.map auth_Member.enc x0.l), .imm (.val (.bool x0.made))], .imm (.val (.int .i64 x1)), .fn 82 [.xbox [.imm (.val (.int .i64 x2c0))]]] (.imm (.val (.int .i64 r.1))) [some (.xbox [.xown 32 5 (List.map auth_Member.enc r.2.l), .imm (.val (.bool r.2.made))]), none, some (.fn 82 [.xbox [.imm (.val (.int .i64 x2c0))]])] := by
 unfold auth_List_change__auth_List_Bound_1.f at h; refine Pm.Spec.of_body Tryz.func39 Z (by kernel_rfl) (L Z) (L Z) ?_; refine W.ghost (σ' := (mkSt [(0, some (.ptr 0 0)), (1, some (.i x1)), (2, some (.fn 82 [.ptr 2 0]))] [(0, some (.box [.own 1, .b x0.made])), (1, some (.rows 32 5 (List.map auth_Member.enc x0.l) false)), (2, some (.box [.i x2c0]))] 1000)) (Gives.entry (.c Z (.c Z (.c Z .n))) (.c Z (.c Z (.c Z .n)))) (W.ghost (σ' := (mkSt [(0, some (.ptr 0 0)), (1, some (.i x1)), (2, some (.fn 82 [.ptr 2 0]))] [(0, some (.box [.own 1000, .b x0.made])), (2, some (.box [.i x2c0])), (1000, some (.rows 32 5 (List.map auth_Member.enc x0.l) false))] 1001)) (Gm [(1000, 1)] (.e Z Z) (.e Z Z) Z) (W.seq (W.pk (.A Z (.nil (W.seq (W.seq (W.pk (.M Z (.V Z (OpL.eqP Z u23 Z Z Z) (.M Z ?_))))))))))); refine .N Z Z (.U Z Z (OpL.nilP Z Z Z) (.H fld79_1 Z Z Z (.U Z Z (O.ld (y := .b x0.made) ty4 Z Z Z) (.U Z Z (OpL.unV Z Z Z) (.E Z Z (.nil (W.cnd Z h (fun q1 h => ?_) (fun q1 h => ?_))))))))
 ·refine W.seq (W.pk (.A Z (.nil (W.ret ?_)))); cases h; exact leaves (.inr Z) Z (.imm _) (cS (.ptr _ _ _ _ _ Z (cC (.own _ _ _ _ Z) (cI .nil))) (cN (cS (.fn _ _ _ _ _ (cC (.ptr _ _ _ _ _ Z (cI .nil)) .nil)) .nil))) Z Z
 ·refine W.skip (W.seq ?_); obtain ⟨t2, b3, h⟩ := bnd1 h; refine W.pk (.M Z (.M Z (.C (.tup [.i t2.1, .b t2.2]) [(0, some (.box [.own 1001, .b x0.made])), (1001, some (.rows 32 5 (List.map auth_Member.enc x0.l) false)), (0, none), (1000, none)] 1 (auth_List_place.ok b3) ca34 Z (cC (.ptr _ _ _ _ _ Z (cC (.own _ _ _ _ Z) (cI .nil))) (cI .nil)) Z ?_))); refine .M Z ?_; (iterate 2 refine .V Z (OpL.extract Z Z Z) ?_); refine .A Z (.A Z (.nil (W.seq (W.block (W.seq (W.pk (.M Z (.V Z (OpL.unV Z Z Z) (.A Z (.nil (W.cnd Z h (fun q4 h => ?_) (fun q4 h => ?_))))))))))))
  ·refine W.seq (W.pk (.A Z (.nil (W.ret ?_)))); cases h; exact leaves (.inr Z) Z (.imm _) (cS (.ptr _ _ _ _ _ Z (cC (.own _ _ _ _ Z) (cI .nil))) (cN (cS (.fn _ _ _ _ _ (cC (.ptr _ _ _ _ _ Z (cI .nil)) .nil)) .nil))) Z Z
  ·refine W.seq ?_; obtain ⟨c5, h⟩ := chk h; refine W.pk (.M Z (.V Z (OpL.nilP Z Z Z) (.F fld79_0 Z (.V Z (O.ld (y := .own 1001) ty29 Z Z Z) (.M Z (.V Z (O.idxO sl29 c5 Z Z Z Z) (.F fld32_2 Z (.V Z (O.ldE (c := (.val (.int .i64 ((nth x0.l t2.1).State)))) ty3 c5 Z Z Z Z Z) (.B Z (.A Z (.nil ?_))))))))))); refine W.cnd Z h (fun q6 h => ?_) (fun q6 h => ?_)
   ·refine W.seq (W.pk (.A Z (.nil (W.ret ?_)))); cases h; exact leaves (.inr Z) Z (.imm _) (cS (.ptr _ _ _ _ _ Z (cC (.own _ _ _ _ Z) (cI .nil))) (cN (cS (.fn _ _ _ _ _ (cC (.ptr _ _ _ _ _ Z (cI .nil)) .nil)) .nil))) Z Z
   ·refine W.skip (W.seq ?_); obtain ⟨c7, h⟩ := chk h; refine W.pk (.M Z (.M Z (.V Z (OpL.nilP Z Z Z) (.F fld79_0 Z (.V Z (O.ld (y := .own 1001) ty29 Z Z Z) (.M Z (.V Z (O.idxO sl29 c7 Z Z Z Z) (.k Z Z (O.callSt (x' := (⟨(nth x0.l t2.1).ID, (nth x0.l t2.1).Name, (nth x0.l t2.1).State, x2c0, (nth x0.l t2.1).Late⟩ : auth_Member)) (st82 x2c0) c7 ca82 Z Z Z Z Z Z Z (.cons Z .nil) Z) (.nil (W.seq (W.pk ?_))))))))))); refine .A Z (.nil (W.ret ?_)); cases h; exact leaves (.inr Z) Z (.imm _) (cS (.ptr _ _ _ _ _ Z (cC (.own _ _ _ _ Z) (cI .nil))) (cN (cS (.fn _ _ _ _ _ (cC (.ptr _ _ _ _ _ Z (cI .nil)) .nil)) .nil))) Z Z

noncomputable def auth_List_Bound.f (x0 : auth_List) (x1 : Int) (x2 : Int) : Option (Int × auth_List) :=
 if ((decide (x2 < 0)) || (decide (x2 > 1125899906842624))) = true then
 some (1, x0)
 else (auth_List_change__auth_List_Bound_1.f x0 x1 x2).bind fun t3 =>
 some (t3.1, t3.2)
theorem auth_List_Bound.ok {x0 : auth_List} {x1 : Int} {x2 : Int} {r : Int × auth_List} (h : auth_List_Bound.f x0 x1 x2 = some r) : Pm.Spec prog 51 [.xbox [.xown 32 5 (List.map auth_Member.enc x0.l), .imm (.val (.bool x0.made))], .imm (.val (.int .i64 x1)), .imm (.val (.int .i64 x2))] (.imm (.val (.int .i64 r.1))) [some (.xbox [.xown 32 5 (List.map auth_Member.enc r.2.l), .imm (.val (.bool r.2.made))]), none, none] := by
 unfold auth_List_Bound.f at h; refine Pm.Spec.of_body Tryz.func51 Z (by kernel_rfl) (L Z) (L Z) ?_; refine W.ghost (σ' := (mkSt [(0, some (.ptr 0 0)), (1, some (.i x1)), (2, some (.i x2))] [(0, some (.box [.own 1, .b x0.made])), (1, some (.rows 32 5 (List.map auth_Member.enc x0.l) false))] 1000)) (Gives.entry (.c Z (.c Z (.c Z .n))) (.c Z (.c Z .n))) (W.ghost (σ' := (mkSt [(0, some (.ptr 0 0)), (1, some (.i x1)), (2, some (.i x2))] [(0, some (.box [.own 1000, .b x0.made])), (1000, some (.rows 32 5 (List.map auth_Member.enc x0.l) false))] 1001)) (Gm [(1000, 1)] (.e Z Z) (.e Z Z) Z) (W.seq (W.pk (.t Z Z (O.box Z Z Z Z Z) (.A Z (.nil (W.seq (W.seq (W.fork (mkSt [(0, some (.ptr 0 0)), (1, some (.i x1)), (5, some (.ptr 1001 0)), (12, some (.b ((decide (x2 < 0)) || (decide (x2 > 1125899906842624)))))] [(0, some (.box [.own 1000, .b x0.made])), (1000, some (.rows 32 5 (List.map auth_Member.enc x0.l) false)), (1001, some (.box [.i x2]))] 1002) ?_ ?_)))))))))
 ·refine W.cnd Z h (fun q2 h => ?_) (fun q2 h => ?_)
  ·refine W.seq (W.pk (.A Z (.nil (W.ret ?_)))); cases h; exact leaves (.inr Z) Z (.imm _) (cS (.ptr _ _ _ _ _ Z (cC (.own _ _ _ _ Z) (cI .nil))) (cN (cN .nil))) Z Z
  ·refine W.skip (W.seq ?_); obtain ⟨t3, b4, h⟩ := bnd1 h; refine W.pk (.M Z (.M Z (.V Z (OpL.mkfn Z Z) (.C (.i t3.1) [(0, some (.box [.own 1002, .b t3.2.made])), (1002, some (.rows 32 5 (List.map auth_Member.enc t3.2.l) false)), (1001, some (.box [.i x2])), (0, none), (1000, none), (1001, none)] 1 (auth_List_change__auth_List_Bound_1.ok b4) ca39 Z (cC (.ptr _ _ _ _ _ Z (cC (.own _ _ _ _ Z) (cI .nil))) (cI (cC (.fn _ _ _ _ _ (cC (.ptr _ _ _ _ _ Z (cI .nil)) .nil)) .nil))) Z ?_)))); refine .A Z (.nil (W.ret ?_)); cases h; exact leaves (.inr Z) Z (.imm _) (cS (.ptr _ _ _ _ _ Z (cC (.own _ _ _ _ Z) (cI .nil))) (cN (cN .nil))) Z Z
 ·clear h; refine W.pk (.V Z (O.ld (y := .i x2) ty3 Z Z Z) (.B Z (.M Z ?_))); rcases tf (decide (x2 < 0)) with g1 | g1
  ·exact .X Z g1 (.X Z g1 (.T g1 Z (.nil (toN (Gm [] (.r Z Z (.r Z Z (.r Z Z (.c Z (sbb (by simp only [g1, BL])) Z .n)))) (.e Z Z) Z)))))
  ·exact .U Z g1 (O.ld (y := .i x2) ty3 Z Z Z) (.G Z g1 Z (.E g1 Z (.nil (toN (Gm [] (.r Z Z (.r Z Z (.r Z Z (.c Z (sbb (by simp only [g1, BL])) Z .n)))) (.e Z Z) Z)))))

noncomputable def auth_List_change__auth_List_Late_1.f (x0 : auth_List) (x1 : Int) (x2c0 : Bool) : Option (Int × auth_List) :=
 if (!x0.made) = true then
 some (3, x0)
 else (auth_List_place.f x0 x1).bind fun t2 =>
 if (!t2.2) = true then
 some (6, x0)
 else if (0 : Int) ≤ t2.1 ∧ t2.1 < (List.length x0.l : Int) then
 if (((nth x0.l t2.1).State) == 3) = true then
 some (8, x0)
 else if (0 : Int) ≤ t2.1 ∧ t2.1 < (List.length x0.l : Int) then
 some (0, (⟨(List.set x0.l (Int.toNat t2.1) (⟨(nth x0.l t2.1).ID, (nth x0.l t2.1).Name, (nth x0.l t2.1).State, (nth x0.l t2.1).Bound, x2c0⟩ : auth_Member)), x0.made⟩ : auth_List))
 else none
 else none
theorem auth_List_change__auth_List_Late_1.ok {x0 : auth_List} {x1 : Int} {x2c0 : Bool} {r : Int × auth_List} (h : auth_List_change__auth_List_Late_1.f x0 x1 x2c0 = some r) : Pm.Spec prog 39 [.xbox [.xown 32 5 (List.map auth_Member.enc x0.l), .imm (.val (.bool x0.made))], .imm (.val (.int .i64 x1)), .fn 83 [.xbox [.imm (.val (.bool x2c0))]]] (.imm (.val (.int .i64 r.1))) [some (.xbox [.xown 32 5 (List.map auth_Member.enc r.2.l), .imm (.val (.bool r.2.made))]), none, some (.fn 83 [.xbox [.imm (.val (.bool x2c0))]])] := by
 unfold auth_List_change__auth_List_Late_1.f at h; refine Pm.Spec.of_body Tryz.func39 Z (by kernel_rfl) (L Z) (L Z) ?_; refine W.ghost (σ' := (mkSt [(0, some (.ptr 0 0)), (1, some (.i x1)), (2, some (.fn 83 [.ptr 2 0]))] [(0, some (.box [.own 1, .b x0.made])), (1, some (.rows 32 5 (List.map auth_Member.enc x0.l) false)), (2, some (.box [.b x2c0]))] 1000)) (Gives.entry (.c Z (.c Z (.c Z .n))) (.c Z (.c Z (.c Z .n)))) (W.ghost (σ' := (mkSt [(0, some (.ptr 0 0)), (1, some (.i x1)), (2, some (.fn 83 [.ptr 2 0]))] [(0, some (.box [.own 1000, .b x0.made])), (2, some (.box [.b x2c0])), (1000, some (.rows 32 5 (List.map auth_Member.enc x0.l) false))] 1001)) (Gm [(1000, 1)] (.e Z Z) (.e Z Z) Z) (W.seq (W.pk (.A Z (.nil (W.seq (W.seq (W.pk (.M Z (.V Z (OpL.eqP Z u23 Z Z Z) (.M Z ?_))))))))))); refine .N Z Z (.U Z Z (OpL.nilP Z Z Z) (.H fld79_1 Z Z Z (.U Z Z (O.ld (y := .b x0.made) ty4 Z Z Z) (.U Z Z (OpL.unV Z Z Z) (.E Z Z (.nil (W.cnd Z h (fun q1 h => ?_) (fun q1 h => ?_))))))))
 ·refine W.seq (W.pk (.A Z (.nil (W.ret ?_)))); cases h; exact leaves (.inr Z) Z (.imm _) (cS (.ptr _ _ _ _ _ Z (cC (.own _ _ _ _ Z) (cI .nil))) (cN (cS (.fn _ _ _ _ _ (cC (.ptr _ _ _ _ _ Z (cI .nil)) .nil)) .nil))) Z Z
 ·refine W.skip (W.seq ?_); obtain ⟨t2, b3, h⟩ := bnd1 h; refine W.pk (.M Z (.M Z (.C (.tup [.i t2.1, .b t2.2]) [(0, some (.box [.own 1001, .b x0.made])), (1001, some (.rows 32 5 (List.map auth_Member.enc x0.l) false)), (0, none), (1000, none)] 1 (auth_List_place.ok b3) ca34 Z (cC (.ptr _ _ _ _ _ Z (cC (.own _ _ _ _ Z) (cI .nil))) (cI .nil)) Z ?_))); refine .M Z ?_; (iterate 2 refine .V Z (OpL.extract Z Z Z) ?_); refine .A Z (.A Z (.nil (W.seq (W.block (W.seq (W.pk (.M Z (.V Z (OpL.unV Z Z Z) (.A Z (.nil (W.cnd Z h (fun q4 h => ?_) (fun q4 h => ?_))))))))))))
  ·refine W.seq (W.pk (.A Z (.nil (W.ret ?_)))); cases h; exact leaves (.inr Z) Z (.imm _) (cS (.ptr _ _ _ _ _ Z (cC (.own _ _ _ _ Z) (cI .nil))) (cN (cS (.fn _ _ _ _ _ (cC (.ptr _ _ _ _ _ Z (cI .nil)) .nil)) .nil))) Z Z
  ·refine W.seq ?_; obtain ⟨c5, h⟩ := chk h; refine W.pk (.M Z (.V Z (OpL.nilP Z Z Z) (.F fld79_0 Z (.V Z (O.ld (y := .own 1001) ty29 Z Z Z) (.M Z (.V Z (O.idxO sl29 c5 Z Z Z Z) (.F fld32_2 Z (.V Z (O.ldE (c := (.val (.int .i64 ((nth x0.l t2.1).State)))) ty3 c5 Z Z Z Z Z) (.B Z (.A Z (.nil ?_))))))))))); refine W.cnd Z h (fun q6 h => ?_) (fun q6 h => ?_)
   ·refine W.seq (W.pk (.A Z (.nil (W.ret ?_)))); cases h; exact leaves (.inr Z) Z (.imm _) (cS (.ptr _ _ _ _ _ Z (cC (.own _ _ _ _ Z) (cI .nil))) (cN (cS (.fn _ _ _ _ _ (cC (.ptr _ _ _ _ _ Z (cI .nil)) .nil)) .nil))) Z Z
   ·refine W.skip (W.seq ?_); obtain ⟨c7, h⟩ := chk h; refine W.pk (.M Z (.M Z (.V Z (OpL.nilP Z Z Z) (.F fld79_0 Z (.V Z (O.ld (y := .own 1001) ty29 Z Z Z) (.M Z (.V Z (O.idxO sl29 c7 Z Z Z Z) (.k Z Z (O.callSt (x' := (⟨(nth x0.l t2.1).ID, (nth x0.l t2.1).Name, (nth x0.l t2.1).State, (nth x0.l t2.1).Bound, x2c0⟩ : auth_Member)) (st83 x2c0) c7 ca83 Z Z Z Z Z Z Z (.cons Z .nil) Z) (.nil (W.seq (W.pk ?_))))))))))); refine .A Z (.nil (W.ret ?_)); cases h; exact leaves (.inr Z) Z (.imm _) (cS (.ptr _ _ _ _ _ Z (cC (.own _ _ _ _ Z) (cI .nil))) (cN (cS (.fn _ _ _ _ _ (cC (.ptr _ _ _ _ _ Z (cI .nil)) .nil)) .nil))) Z Z

noncomputable def auth_List_Late.f (x0 : auth_List) (x1 : Int) (x2 : Bool) : Option (Int × auth_List) :=
 (auth_List_change__auth_List_Late_1.f x0 x1 x2).bind fun t1 =>
 some (t1.1, t1.2)
theorem auth_List_Late.ok {x0 : auth_List} {x1 : Int} {x2 : Bool} {r : Int × auth_List} (h : auth_List_Late.f x0 x1 x2 = some r) : Pm.Spec prog 52 [.xbox [.xown 32 5 (List.map auth_Member.enc x0.l), .imm (.val (.bool x0.made))], .imm (.val (.int .i64 x1)), .imm (.val (.bool x2))] (.imm (.val (.int .i64 r.1))) [some (.xbox [.xown 32 5 (List.map auth_Member.enc r.2.l), .imm (.val (.bool r.2.made))]), none, none] := by
 unfold auth_List_Late.f at h; refine Pm.Spec.of_body Tryz.func52 Z (by kernel_rfl) (L Z) (L Z) ?_; refine W.ghost (σ' := (mkSt [(0, some (.ptr 0 0)), (1, some (.i x1)), (2, some (.b x2))] [(0, some (.box [.own 1, .b x0.made])), (1, some (.rows 32 5 (List.map auth_Member.enc x0.l) false))] 1000)) (Gives.entry (.c Z (.c Z (.c Z .n))) (.c Z (.c Z .n))) (W.ghost (σ' := (mkSt [(0, some (.ptr 0 0)), (1, some (.i x1)), (2, some (.b x2))] [(0, some (.box [.own 1000, .b x0.made])), (1000, some (.rows 32 5 (List.map auth_Member.enc x0.l) false))] 1001)) (Gm [(1000, 1)] (.e Z Z) (.e Z Z) Z) (W.seq (W.pk (.t Z Z (O.box Z Z Z Z Z) (.A Z (.nil (W.seq ?_))))))); obtain ⟨t1, b2, h⟩ := bnd1 h; refine W.pk (.M Z (.M Z (.V Z (OpL.mkfn Z Z) (.C (.i t1.1) [(0, some (.box [.own 1002, .b t1.2.made])), (1002, some (.rows 32 5 (List.map auth_Member.enc t1.2.l) false)), (1001, some (.box [.b x2])), (0, none), (1000, none), (1001, none)] 1 (auth_List_change__auth_List_Late_1.ok b2) ca39 Z (cC (.ptr _ _ _ _ _ Z (cC (.own _ _ _ _ Z) (cI .nil))) (cI (cC (.fn _ _ _ _ _ (cC (.ptr _ _ _ _ _ Z (cI .nil)) .nil)) .nil))) Z ?_)))); refine .A Z (.nil (W.ret ?_)); cases h; exact leaves (.inr Z) Z (.imm _) (cS (.ptr _ _ _ _ _ Z (cC (.own _ _ _ _ Z) (cI .nil))) (cN (cN .nil))) Z Z

noncomputable def auth_List_change__auth_List_Call_1.f (x0 : auth_List) (x1 : Int) (x2c0 : Bool) : Option (Int × auth_List) :=
 if (!x0.made) = true then
 some (3, x0)
 else (auth_List_place.f x0 x1).bind fun t2 =>
 if (!t2.2) = true then
 some (6, x0)
 else if (0 : Int) ≤ t2.1 ∧ t2.1 < (List.length x0.l : Int) then
 if (((nth x0.l t2.1).State) == 3) = true then
 some (8, x0)
 else if (0 : Int) ≤ t2.1 ∧ t2.1 < (List.length x0.l : Int) then
 some (0, (⟨(List.set x0.l (Int.toNat t2.1) (⟨(nth x0.l t2.1).ID, (nth x0.l t2.1).Name, (if x2c0 = true then 2 else 1), (nth x0.l t2.1).Bound, (nth x0.l t2.1).Late⟩ : auth_Member)), x0.made⟩ : auth_List))
 else none
 else none
theorem auth_List_change__auth_List_Call_1.ok {x0 : auth_List} {x1 : Int} {x2c0 : Bool} {r : Int × auth_List} (h : auth_List_change__auth_List_Call_1.f x0 x1 x2c0 = some r) : Pm.Spec prog 39 [.xbox [.xown 32 5 (List.map auth_Member.enc x0.l), .imm (.val (.bool x0.made))], .imm (.val (.int .i64 x1)), .fn 49 [.xbox [.imm (.val (.bool x2c0))]]] (.imm (.val (.int .i64 r.1))) [some (.xbox [.xown 32 5 (List.map auth_Member.enc r.2.l), .imm (.val (.bool r.2.made))]), none, some (.fn 49 [.xbox [.imm (.val (.bool x2c0))]])] := by
 unfold auth_List_change__auth_List_Call_1.f at h; refine Pm.Spec.of_body Tryz.func39 Z (by kernel_rfl) (L Z) (L Z) ?_; refine W.ghost (σ' := (mkSt [(0, some (.ptr 0 0)), (1, some (.i x1)), (2, some (.fn 49 [.ptr 2 0]))] [(0, some (.box [.own 1, .b x0.made])), (1, some (.rows 32 5 (List.map auth_Member.enc x0.l) false)), (2, some (.box [.b x2c0]))] 1000)) (Gives.entry (.c Z (.c Z (.c Z .n))) (.c Z (.c Z (.c Z .n)))) (W.ghost (σ' := (mkSt [(0, some (.ptr 0 0)), (1, some (.i x1)), (2, some (.fn 49 [.ptr 2 0]))] [(0, some (.box [.own 1000, .b x0.made])), (2, some (.box [.b x2c0])), (1000, some (.rows 32 5 (List.map auth_Member.enc x0.l) false))] 1001)) (Gm [(1000, 1)] (.e Z Z) (.e Z Z) Z) (W.seq (W.pk (.A Z (.nil (W.seq (W.seq (W.pk (.M Z (.V Z (OpL.eqP Z u23 Z Z Z) (.M Z ?_))))))))))); refine .N Z Z (.U Z Z (OpL.nilP Z Z Z) (.H fld79_1 Z Z Z (.U Z Z (O.ld (y := .b x0.made) ty4 Z Z Z) (.U Z Z (OpL.unV Z Z Z) (.E Z Z (.nil (W.cnd Z h (fun q1 h => ?_) (fun q1 h => ?_))))))))
 ·refine W.seq (W.pk (.A Z (.nil (W.ret ?_)))); cases h; exact leaves (.inr Z) Z (.imm _) (cS (.ptr _ _ _ _ _ Z (cC (.own _ _ _ _ Z) (cI .nil))) (cN (cS (.fn _ _ _ _ _ (cC (.ptr _ _ _ _ _ Z (cI .nil)) .nil)) .nil))) Z Z
 ·refine W.skip (W.seq ?_); obtain ⟨t2, b3, h⟩ := bnd1 h; refine W.pk (.M Z (.M Z (.C (.tup [.i t2.1, .b t2.2]) [(0, some (.box [.own 1001, .b x0.made])), (1001, some (.rows 32 5 (List.map auth_Member.enc x0.l) false)), (0, none), (1000, none)] 1 (auth_List_place.ok b3) ca34 Z (cC (.ptr _ _ _ _ _ Z (cC (.own _ _ _ _ Z) (cI .nil))) (cI .nil)) Z ?_))); refine .M Z ?_; (iterate 2 refine .V Z (OpL.extract Z Z Z) ?_); refine .A Z (.A Z (.nil (W.seq (W.block (W.seq (W.pk (.M Z (.V Z (OpL.unV Z Z Z) (.A Z (.nil (W.cnd Z h (fun q4 h => ?_) (fun q4 h => ?_))))))))))))
  ·refine W.seq (W.pk (.A Z (.nil (W.ret ?_)))); cases h; exact leaves (.inr Z) Z (.imm _) (cS (.ptr _ _ _ _ _ Z (cC (.own _ _ _ _ Z) (cI .nil))) (cN (cS (.fn _ _ _ _ _ (cC (.ptr _ _ _ _ _ Z (cI .nil)) .nil)) .nil))) Z Z
  ·refine W.seq ?_; obtain ⟨c5, h⟩ := chk h; refine W.pk (.M Z (.V Z (OpL.nilP Z Z Z) (.F fld79_0 Z (.V Z (O.ld (y := .own 1001) ty29 Z Z Z) (.M Z (.V Z (O.idxO sl29 c5 Z Z Z Z) (.F fld32_2 Z (.V Z (O.ldE (c := (.val (.int .i64 ((nth x0.l t2.1).State)))) ty3 c5 Z Z Z Z Z) (.B Z (.A Z (.nil ?_))))))))))); refine W.cnd Z h (fun q6 h => ?_) (fun q6 h => ?_)
   ·refine W.seq (W.pk (.A Z (.nil (W.ret ?_)))); cases h; exact leaves (.inr Z) Z (.imm _) (cS (.ptr _ _ _ _ _ Z (cC (.own _ _ _ _ Z) (cI .nil))) (cN (cS (.fn _ _ _ _ _ (cC (.ptr _ _ _ _ _ Z (cI .nil)) .nil)) .nil))) Z Z
   ·refine W.skip (W.seq ?_); obtain ⟨c7, h⟩ := chk h; refine W.pk (.M Z (.M Z (.V Z (OpL.nilP Z Z Z) (.F fld79_0 Z (.V Z (O.ld (y := .own 1001) ty29 Z Z Z) (.M Z (.V Z (O.idxO sl29 c7 Z Z Z Z) (.k Z Z (O.callSt (x' := (⟨(nth x0.l t2.1).ID, (nth x0.l t2.1).Name, (if x2c0 = true then 2 else 1), (nth x0.l t2.1).Bound, (nth x0.l t2.1).Late⟩ : auth_Member)) (st49 x2c0) c7 ca49 Z Z Z Z Z Z Z (.cons Z .nil) Z) (.nil (W.seq (W.pk ?_))))))))))); refine .A Z (.nil (W.ret ?_)); cases h; exact leaves (.inr Z) Z (.imm _) (cS (.ptr _ _ _ _ _ Z (cC (.own _ _ _ _ Z) (cI .nil))) (cN (cS (.fn _ _ _ _ _ (cC (.ptr _ _ _ _ _ Z (cI .nil)) .nil)) .nil))) Z Z

noncomputable def auth_List_Call.f (x0 : auth_List) (x1 : Int) (x2 : Bool) : Option (Int × auth_List) :=
 (auth_List_change__auth_List_Call_1.f x0 x1 x2).bind fun t1 =>
 some (t1.1, t1.2)
theorem auth_List_Call.ok {x0 : auth_List} {x1 : Int} {x2 : Bool} {r : Int × auth_List} (h : auth_List_Call.f x0 x1 x2 = some r) : Pm.Spec prog 28 [.xbox [.xown 32 5 (List.map auth_Member.enc x0.l), .imm (.val (.bool x0.made))], .imm (.val (.int .i64 x1)), .imm (.val (.bool x2))] (.imm (.val (.int .i64 r.1))) [some (.xbox [.xown 32 5 (List.map auth_Member.enc r.2.l), .imm (.val (.bool r.2.made))]), none, none] := by
 unfold auth_List_Call.f at h; refine Pm.Spec.of_body Tryz.func28 Z (by kernel_rfl) (L Z) (L Z) ?_; refine W.ghost (σ' := (mkSt [(0, some (.ptr 0 0)), (1, some (.i x1)), (2, some (.b x2))] [(0, some (.box [.own 1, .b x0.made])), (1, some (.rows 32 5 (List.map auth_Member.enc x0.l) false))] 1000)) (Gives.entry (.c Z (.c Z (.c Z .n))) (.c Z (.c Z .n))) (W.ghost (σ' := (mkSt [(0, some (.ptr 0 0)), (1, some (.i x1)), (2, some (.b x2))] [(0, some (.box [.own 1000, .b x0.made])), (1000, some (.rows 32 5 (List.map auth_Member.enc x0.l) false))] 1001)) (Gm [(1000, 1)] (.e Z Z) (.e Z Z) Z) (W.seq (W.pk (.t Z Z (O.box Z Z Z Z Z) (.A Z (.nil (W.seq ?_))))))); obtain ⟨t1, b2, h⟩ := bnd1 h; refine W.pk (.M Z (.M Z (.V Z (OpL.mkfn Z Z) (.C (.i t1.1) [(0, some (.box [.own 1002, .b t1.2.made])), (1002, some (.rows 32 5 (List.map auth_Member.enc t1.2.l) false)), (1001, some (.box [.b x2])), (0, none), (1000, none), (1001, none)] 1 (auth_List_change__auth_List_Call_1.ok b2) ca39 Z (cC (.ptr _ _ _ _ _ Z (cC (.own _ _ _ _ Z) (cI .nil))) (cI (cC (.fn _ _ _ _ _ (cC (.ptr _ _ _ _ _ Z (cI .nil)) .nil)) .nil))) Z ?_)))); refine .A Z (.nil (W.ret ?_)); cases h; exact leaves (.inr Z) Z (.imm _) (cS (.ptr _ _ _ _ _ Z (cC (.own _ _ _ _ Z) (cI .nil))) (cN (cN .nil))) Z Z

noncomputable def auth_List_change__auth_List_Default_1.f (x0 : auth_List) (x1 : Int) : Option (Int × auth_List) :=
 if (!x0.made) = true then
 some (3, x0)
 else (auth_List_place.f x0 x1).bind fun t2 =>
 if (!t2.2) = true then
 some (6, x0)
 else if (0 : Int) ≤ t2.1 ∧ t2.1 < (List.length x0.l : Int) then
 if (((nth x0.l t2.1).State) == 3) = true then
 some (8, x0)
 else if (0 : Int) ≤ t2.1 ∧ t2.1 < (List.length x0.l : Int) then
 some (0, (⟨(List.set x0.l (Int.toNat t2.1) (⟨(nth x0.l t2.1).ID, (nth x0.l t2.1).Name, 3, (nth x0.l t2.1).Bound, (nth x0.l t2.1).Late⟩ : auth_Member)), x0.made⟩ : auth_List))
 else none
 else none
theorem auth_List_change__auth_List_Default_1.ok {x0 : auth_List} {x1 : Int} {r : Int × auth_List} (h : auth_List_change__auth_List_Default_1.f x0 x1 = some r) : Pm.Spec prog 39 [.xbox [.xown 32 5 (List.map auth_Member.enc x0.l), .imm (.val (.bool x0.made))], .imm (.val (.int .i64 x1)), .fn 40 []] (.imm (.val (.int .i64 r.1))) [some (.xbox [.xown 32 5 (List.map auth_Member.enc r.2.l), .imm (.val (.bool r.2.made))]), none, none] := by
 unfold auth_List_change__auth_List_Default_1.f at h; refine Pm.Spec.of_body Tryz.func39 Z (by kernel_rfl) (L Z) (L Z) ?_; refine W.ghost (σ' := (mkSt [(0, some (.ptr 0 0)), (1, some (.i x1)), (2, some (.fn 40 []))] [(0, some (.box [.own 1, .b x0.made])), (1, some (.rows 32 5 (List.map auth_Member.enc x0.l) false))] 1000)) (Gives.entry (.c Z (.c Z (.c Z .n))) (.c Z (.c Z .n))) (W.ghost (σ' := (mkSt [(0, some (.ptr 0 0)), (1, some (.i x1)), (2, some (.fn 40 []))] [(0, some (.box [.own 1000, .b x0.made])), (1000, some (.rows 32 5 (List.map auth_Member.enc x0.l) false))] 1001)) (Gm [(1000, 1)] (.e Z Z) (.e Z Z) Z) (W.seq (W.pk (.A Z (.nil (W.seq (W.seq (W.pk (.M Z (.V Z (OpL.eqP Z u23 Z Z Z) (.M Z ?_))))))))))); refine .N Z Z (.U Z Z (OpL.nilP Z Z Z) (.H fld79_1 Z Z Z (.U Z Z (O.ld (y := .b x0.made) ty4 Z Z Z) (.U Z Z (OpL.unV Z Z Z) (.E Z Z (.nil (W.cnd Z h (fun q1 h => ?_) (fun q1 h => ?_))))))))
 ·refine W.seq (W.pk (.A Z (.nil (W.ret ?_)))); cases h; exact leaves (.inr Z) Z (.imm _) (cS (.ptr _ _ _ _ _ Z (cC (.own _ _ _ _ Z) (cI .nil))) (cN (cN .nil))) Z Z
 ·refine W.skip (W.seq ?_); obtain ⟨t2, b3, h⟩ := bnd1 h; refine W.pk (.M Z (.M Z (.C (.tup [.i t2.1, .b t2.2]) [(0, some (.box [.own 1001, .b x0.made])), (1001, some (.rows 32 5 (List.map auth_Member.enc x0.l) false)), (0, none), (1000, none)] 1 (auth_List_place.ok b3) ca34 Z (cC (.ptr _ _ _ _ _ Z (cC (.own _ _ _ _ Z) (cI .nil))) (cI .nil)) Z ?_))); refine .M Z ?_; (iterate 2 refine .V Z (OpL.extract Z Z Z) ?_); refine .A Z (.A Z (.nil (W.seq (W.block (W.seq (W.pk (.M Z (.V Z (OpL.unV Z Z Z) (.A Z (.nil (W.cnd Z h (fun q4 h => ?_) (fun q4 h => ?_))))))))))))
  ·refine W.seq (W.pk (.A Z (.nil (W.ret ?_)))); cases h; exact leaves (.inr Z) Z (.imm _) (cS (.ptr _ _ _ _ _ Z (cC (.own _ _ _ _ Z) (cI .nil))) (cN (cN .nil))) Z Z
  ·refine W.seq ?_; obtain ⟨c5, h⟩ := chk h; refine W.pk (.M Z (.V Z (OpL.nilP Z Z Z) (.F fld79_0 Z (.V Z (O.ld (y := .own 1001) ty29 Z Z Z) (.M Z (.V Z (O.idxO sl29 c5 Z Z Z Z) (.F fld32_2 Z (.V Z (O.ldE (c := (.val (.int .i64 ((nth x0.l t2.1).State)))) ty3 c5 Z Z Z Z Z) (.B Z (.A Z (.nil ?_))))))))))); refine W.cnd Z h (fun q6 h => ?_) (fun q6 h => ?_)
   ·refine W.seq (W.pk (.A Z (.nil (W.ret ?_)))); cases h; exact leaves (.inr Z) Z (.imm _) (cS (.ptr _ _ _ _ _ Z (cC (.own _ _ _ _ Z) (cI .nil))) (cN (cN .nil))) Z Z
   ·refine W.skip (W.seq ?_); obtain ⟨c7, h⟩ := chk h; refine W.pk (.M Z (.M Z (.V Z (OpL.nilP Z Z Z) (.F fld79_0 Z (.V Z (O.ld (y := .own 1001) ty29 Z Z Z) (.M Z (.V Z (O.idxO sl29 c7 Z Z Z Z) (.k Z Z (O.callSt (x' := (⟨(nth x0.l t2.1).ID, (nth x0.l t2.1).Name, 3, (nth x0.l t2.1).Bound, (nth x0.l t2.1).Late⟩ : auth_Member)) st40 c7 ca40 Z Z Z Z Z Z Z .nil Z) (.nil (W.seq (W.pk ?_))))))))))); refine .A Z (.nil (W.ret ?_)); cases h; exact leaves (.inr Z) Z (.imm _) (cS (.ptr _ _ _ _ _ Z (cC (.own _ _ _ _ Z) (cI .nil))) (cN (cN .nil))) Z Z

noncomputable def auth_List_Default.f (x0 : auth_List) (x1 : Int) : Option (Int × auth_List) :=
 (auth_List_change__auth_List_Default_1.f x0 x1).bind fun t1 =>
 some (t1.1, t1.2)
theorem auth_List_Default.ok {x0 : auth_List} {x1 : Int} {r : Int × auth_List} (h : auth_List_Default.f x0 x1 = some r) : Pm.Spec prog 14 [.xbox [.xown 32 5 (List.map auth_Member.enc x0.l), .imm (.val (.bool x0.made))], .imm (.val (.int .i64 x1))] (.imm (.val (.int .i64 r.1))) [some (.xbox [.xown 32 5 (List.map auth_Member.enc r.2.l), .imm (.val (.bool r.2.made))]), none] := by
 unfold auth_List_Default.f at h; refine Pm.Spec.of_body Tryz.func14 Z (by kernel_rfl) (L Z) (L Z) ?_; refine W.ghost (σ' := (mkSt [(0, some (.ptr 0 0)), (1, some (.i x1))] [(0, some (.box [.own 1, .b x0.made])), (1, some (.rows 32 5 (List.map auth_Member.enc x0.l) false))] 1000)) (Gives.entry (.c Z (.c Z .n)) (.c Z (.c Z .n))) (W.ghost (σ' := (mkSt [(0, some (.ptr 0 0)), (1, some (.i x1))] [(0, some (.box [.own 1000, .b x0.made])), (1000, some (.rows 32 5 (List.map auth_Member.enc x0.l) false))] 1001)) (Gm [(1000, 1)] (.e Z Z) (.e Z Z) Z) (W.seq (W.pk (.A Z (.nil (W.seq ?_)))))); obtain ⟨t1, b2, h⟩ := bnd1 h; refine W.pk (.M Z (.M Z (.C (.i t1.1) [(0, some (.box [.own 1001, .b t1.2.made])), (1001, some (.rows 32 5 (List.map auth_Member.enc t1.2.l) false)), (0, none), (1000, none)] 1 (auth_List_change__auth_List_Default_1.ok b2) ca39 Z (cC (.ptr _ _ _ _ _ Z (cC (.own _ _ _ _ Z) (cI .nil))) (cI (cC (.fn _ _ _ _ _ .nil) .nil))) Z ?_))); refine .A Z (.nil (W.ret ?_)); cases h; exact leaves (.inr Z) Z (.imm _) (cS (.ptr _ _ _ _ _ Z (cC (.own _ _ _ _ Z) (cI .nil))) (cN .nil)) Z Z

noncomputable def slices_Clone_auth_Member.f (x0 : List auth_Member) : Option (List auth_Member) :=
 if (List.length x0) * 48 ≤ 140737488355328 then some x0 else none
theorem slices_Clone_auth_Member.ok {x0 r : List auth_Member} (h : slices_Clone_auth_Member.f x0 = some r) : Pm.Spec prog 32 [.xown 32 5 (List.map auth_Member.enc x0)] (.xown 32 5 (List.map auth_Member.enc r)) [some (.xown 32 5 (List.map auth_Member.enc x0))] := by
 obtain ⟨h1, rfl⟩ : (List.length x0) * 48 ≤ 140737488355328 ∧ x0 = r := by
   unfold slices_Clone_auth_Member.f at h
   split at h
   · rename_i h1; cases h; exact ⟨h1, rfl⟩
   · cases h
 refine Pm.Spec.of_body Tryz.func32 rfl (by kernel_rfl) (Nat.le_of_ble_eq_true rfl) (Nat.le_of_ble_eq_true rfl) ?_
 refine W.ghost (σ' := (mkSt [(0, some (.own 0))] [(0, some (.rows 32 5 (List.map auth_Member.enc x0) false))] 1000)) (Gives.entry (.c rfl .n) (.c rfl .n)) ?_
 cases x0 with
 | cons x1 l1 =>
  refine W.seq ?_
  refine W.pk ?_
  refine .v rfl rfl (OpL.move (.inr rfl) rfl) ?_
  refine .nil ?_
  refine W.seq ?_
  refine W.seq ?_
  refine W.pk ?_
  refine .v rfl rfl (OpL.move (.inl rfl) rfl) ?_
  refine .v rfl rfl (O.eqOwn sl29 rfl rfl rfl rfl) ?_
  refine .nil ?_
  refine W.cond rfl (fun q => by cases q) (fun _ => ?_)
  refine W.skip ?_
  refine W.seq ?_
  refine W.pk ?_
  refine .t rfl rfl (O.lit (enc := auth_Member.enc) (l := []) sl29 rfl rfl rfl rfl rfl rfl rfl rfl rfl) ?_
  refine .v rfl rfl (OpL.move (.inl rfl) rfl) ?_
  have h2 : (List.length ([] : List auth_Member) + List.length (x1 :: l1 : List auth_Member)) * 48 ≤ 140737488355328 := by simpa using h1
  refine .t rfl rfl (O.appO (l := []) sl29 auth_Member.ok h2 rfl rfl rfl rfl rfl) ?_
  refine .v rfl rfl (OpL.move (.inr rfl) rfl) ?_
  refine .nil ?_
  refine W.ret ?_
  exact leaves (.inr rfl) rfl (.own _ _ _ _ rfl) (cS (.own _ _ _ _ rfl) .nil) rfl rfl
 | nil =>
  refine W.emptyO 0 rfl rfl fun A c => ?_
  cases A with
  | none =>
   refine W.seq ?_
   refine W.pk ?_
   refine .v rfl rfl (OpL.move (.inr rfl) rfl) ?_
   refine .nil ?_
   refine W.seq ?_
   refine W.seq ?_
   refine W.pk ?_
   refine .v rfl rfl (OpL.move (.inl rfl) rfl) ?_
   refine .v rfl rfl (O.eqSl sl29 rfl rfl rfl) ?_
   refine .nil ?_
   refine W.cond rfl (fun _ => ?_) (fun q => by cases q)
   refine W.seq ?_
   refine W.pk ?_
   refine .v rfl rfl (OpL.move (.inr rfl) rfl) ?_
   refine .nil ?_
   refine W.ret ?_
   exact leaves (.inr rfl) rfl (.nilown _ _) (cS (.own _ _ _ _ rfl) .nil) rfl rfl
  | some p =>
   refine W.seq ?_
   refine W.pk ?_
   refine .v rfl rfl (OpL.move (.inr rfl) rfl) ?_
   refine .nil ?_
   refine W.seq ?_
   refine W.seq ?_
   refine W.pk ?_
   refine .v rfl rfl (OpL.move (.inl rfl) rfl) ?_
   refine .v rfl rfl (O.eqSl sl29 rfl rfl rfl) ?_
   refine .nil ?_
   refine W.cond rfl (fun q => by cases q) (fun _ => ?_)
   refine W.skip ?_
   refine W.ghost (Gives.emptyS 0 5 rfl) ?_
   refine W.seq ?_
   refine W.pk ?_
   refine .t rfl rfl (O.lit (enc := auth_Member.enc) (l := []) sl29 rfl rfl rfl rfl rfl rfl rfl rfl rfl) ?_
   refine .v rfl rfl (OpL.move (.inl rfl) rfl) ?_
   have h2 : (List.length ([] : List auth_Member) + List.length ([] : List auth_Member)) * 48 ≤ 140737488355328 := by simp
   refine .t rfl rfl (O.app (l := []) sl29 auth_Member.ok h2 rfl rfl rfl rfl) ?_
   refine .v rfl rfl (OpL.move (.inr rfl) rfl) ?_
   refine .nil ?_
   refine W.ret ?_
   exact leaves (.inr rfl) rfl (.own _ _ _ _ rfl) (cS (.own _ _ _ _ rfl) .nil) rfl rfl

noncomputable def auth_List_All.f (x0 : auth_List) : Option (List auth_Member) :=
 (slices_Clone_auth_Member.f x0.l).bind fun t1 =>
 some t1
theorem auth_List_All.ok {x0 : auth_List} {r : List auth_Member} (h : auth_List_All.f x0 = some r) : Pm.Spec prog 17 [.xbox [.xown 32 5 (List.map auth_Member.enc x0.l), .imm (.val (.bool x0.made))]] (.xown 32 5 (List.map auth_Member.enc r)) [some (.xbox [.xown 32 5 (List.map auth_Member.enc x0.l), .imm (.val (.bool x0.made))])] := by
 unfold auth_List_All.f at h; refine Pm.Spec.of_body Tryz.func17 Z (by kernel_rfl) (L Z) (L Z) ?_; refine W.ghost (σ' := (mkSt [(0, some (.ptr 0 0))] [(0, some (.box [.own 1, .b x0.made])), (1, some (.rows 32 5 (List.map auth_Member.enc x0.l) false))] 1000)) (Gives.entry (.c Z .n) (.c Z (.c Z .n))) (W.ghost (σ' := (mkSt [(0, some (.ptr 0 0))] [(0, some (.box [.own 1000, .b x0.made])), (1000, some (.rows 32 5 (List.map auth_Member.enc x0.l) false))] 1001)) (Gm [(1000, 1)] (.r Z Z .n) (.e Z Z) Z) (W.seq (W.pk (.A Z (.nil (W.seq (W.seq (W.pk (.M Z (.V Z (OpL.eqP Z u23 Z Z Z) (.nil ?_))))))))))); refine W.cond Z (fun q => by cases q) (fun _ => ?_)
 refine W.skip (W.seq ?_); obtain ⟨t1, b2, h⟩ := bnd1 h; refine W.pk (.M Z (.V Z (OpL.nilP Z Z Z) (.F fld79_0 Z (.V Z (O.ld (y := .own 1000) ty29 Z Z Z) (.C (.own 1001) [(1001, some (.rows 32 5 (List.map auth_Member.enc t1) false)), (1000, some (.rows 32 5 (List.map auth_Member.enc x0.l) false)), (1000, none)] 1 (slices_Clone_auth_Member.ok b2) ca32 Z (cC (.own _ _ _ _ Z) .nil) Z ?_))))); refine .A Z (.nil (W.ret ?_)); cases h; exact leaves (.inr Z) Z (.own _ _ _ _ Z) (cS (.ptr _ _ _ _ _ Z (cC (.own _ _ _ _ Z) (cI .nil))) .nil) Z Z

noncomputable def lombardlaw30_Told.b0 (x0 : List auth_Member) (v16 : Int) (v17 : List lombardref30_Member) : Option ((Int × (List lombardref30_Member)) ⊕ (List lombardref30_Member)) :=
 if (decide (v16 < (List.length x0 : Int))) = true then
 if (0 : Int) ≤ v16 ∧ v16 < (List.length x0 : Int) then
 if (0 : Int) ≤ v16 ∧ v16 < (List.length x0 : Int) then
 if (0 : Int) ≤ v16 ∧ v16 < (List.length x0 : Int) then
 if (0 : Int) ≤ v16 ∧ v16 < (List.length x0 : Int) then
 if (0 : Int) ≤ v16 ∧ v16 < (List.length x0 : Int) then
 if (List.length v17 + List.length [(⟨(nth x0 v16).ID, (nth x0 v16).Name, (nth x0 v16).State, (nth x0 v16).Bound, (nth x0 v16).Late⟩ : lombardref30_Member)]) * 48 ≤ 140737488355328 then
 some (.inl ((IntKind.wrap .i64 (v16 + 1)), (v17 ++ [(⟨(nth x0 v16).ID, (nth x0 v16).Name, (nth x0 v16).State, (nth x0 v16).Bound, (nth x0 v16).Late⟩ : lombardref30_Member)])))
 else none
 else none
 else none
 else none
 else none
 else none
 else some (.inr v17)
noncomputable def lombardlaw30_Told.r0 (x0 : List auth_Member) (s : Int × (List lombardref30_Member)) : Option ((Int × (List lombardref30_Member)) ⊕ (List lombardref30_Member)) := lombardlaw30_Told.b0 x0 s.1 s.2
noncomputable def lombardlaw30_Told.f (x0 : List auth_Member) : Option (List lombardref30_Member) :=
 (loop (lombardlaw30_Told.r0 x0) (0, [])).bind fun o33 =>
 some o33
theorem lombardlaw30_Told.ok {x0 : List auth_Member} {r : List lombardref30_Member} (h : lombardlaw30_Told.f x0 = some r) : Pm.Spec prog 16 [.xown 32 5 (List.map auth_Member.enc x0)] (.xown 31 5 (List.map lombardref30_Member.enc r)) [some (.xown 32 5 (List.map auth_Member.enc x0))] := by
 unfold lombardlaw30_Told.f at h; refine Pm.Spec.of_body Tryz.func16 Z (by kernel_rfl) (L Z) (L Z) ?_; refine W.ghost (σ' := (mkSt [(0, some (.own 0))] [(0, some (.rows 32 5 (List.map auth_Member.enc x0) false))] 1000)) (Gives.entry (.c Z .n) (.c Z .n)) (W.seq (W.pk (.A Z (.nil (W.seq (W.pk (.A Z (.nil (W.seq (W.seq (W.pk ?_))))))))))); refine .A Z (.nil (W.ghost (Gives.mintS 3 31 5 Z) ?_)); obtain ⟨o33, b34, h⟩ := bnd1 h; refine W.fork (mkSt [(3, some (.own 1000))] [(0, some (.rows 32 5 (List.map auth_Member.enc x0) false)), (1000, some (.rows 31 5 (List.map lombardref30_Member.enc o33) false))] 1001) ?_ ?_
 ·refine W.seq (W.pk (.M Z (.A Z (.nil (W.ret ?_))))); cases h; exact leaves (.inr Z) Z (.own _ _ _ _ Z) (cS (.own _ _ _ _ Z) .nil) Z Z
 ·clear h; refine W.block (W.loopF (fun (s_ : Int × (List lombardref30_Member)) => mkSt [(0, some (.own 0)), (3, some (.own 1000)), (4, some (.i s_.1))] [(0, some (.rows 32 5 (List.map auth_Member.enc x0) false)), (1000, some (.rows 31 5 (List.map lombardref30_Member.enc s_.2) false))] 1001) b34 (Gm [] (.e Z Z) (.e Z Z) Z) ?_); rintro ⟨v16, v17⟩ s_ hr; have h : lombardlaw30_Told.b0 x0 v16 v17 = some s_ := hr; unfold lombardlaw30_Told.b0 at h; refine W.seq (W.seq (W.pk (.M Z (.M Z (.V Z (O.lenO sl29 Z Z Z) (.B Z (.nil (W.cnd Z h (fun q36 h => ?_) (fun q36 h => ?_)))))))))
  ·refine W.skip (W.seq (W.block ?_)); obtain ⟨c37, h⟩ := chk h; obtain ⟨c38, h⟩ := chk h; obtain ⟨c39, h⟩ := chk h; obtain ⟨c40, h⟩ := chk h; obtain ⟨c41, h⟩ := chk h; obtain ⟨c42, h⟩ := chk h; refine W.dk (unm 30 [0, 0, 0, 6, 14, 30, 0, 0, 192, 448, 960, 0, 0, 6144, 14336, 30720, 0, 0, 196608, 458752, 983040, 0, 0, 6291456, 14680064, 31457280, 67108862, 134217726, 268435455, 536870911]) Z (by kernel_rfl) ?_; refine .M Z (.M Z (.M Z (.V Z (O.idxO sl29 c37 Z Z Z Z) (.F fld32_0 Z (.V Z (O.ldE (c := (.val (.int .i64 ((nth x0 v16).ID)))) ty3 c37 Z Z Z Z Z) (.M Z (.M Z (.V Z (O.idxO sl29 c38 Z Z Z Z) (.F fld32_1 Z (.V Z (O.ldE (c := (.val (.string (tx ((nth x0 v16).Name))))) ty9 c38 Z Z Z Z Z) (.M Z ?_))))))))))); refine .M Z (.V Z (O.idxO sl29 c39 Z Z Z Z) (.F fld32_2 Z (.V Z (O.ldE (c := (.val (.int .i64 ((nth x0 v16).State)))) ty3 c39 Z Z Z Z Z) (.M Z (.M Z (.V Z (O.idxO sl29 c40 Z Z Z Z) (.F fld32_3 Z (.V Z (O.ldE (c := (.val (.int .i64 ((nth x0 v16).Bound)))) ty3 c40 Z Z Z Z Z) (.M Z (.M Z (.V Z (O.idxO sl29 c41 Z Z Z Z) ?_))))))))))); refine .F fld32_4 Z (.V Z (O.ldE (c := (.val (.bool ((nth x0 v16).Late)))) ty4 c41 Z Z Z Z Z) (.V Z (O.build (out := [.i ((nth x0 v16).ID), .s ((nth x0 v16).Name), .i ((nth x0 v16).State), .i ((nth x0 v16).Bound), .b ((nth x0 v16).Late)]) bl31 Z Z Z Z (by kernel_rfl)) ?_)); refine .t Z Z (O.lit (enc := lombardref30_Member.enc) (l := [(⟨(nth x0 v16).ID, (nth x0 v16).Name, (nth x0 v16).State, (nth x0 v16).Bound, (nth x0 v16).Late⟩ : lombardref30_Member)]) sl24 Z Z Z Z Z Z Z Z Z) (.t Z Z (O.appO sl24 lombardref30_Member.ok c42 Z Z Z Z Z) (.A Z (.nil ?_))); refine ⟨by kernel_rfl, by kernel_rfl, ?_⟩; refine W.pk (.M Z (.B Z (.A Z (.nil ?_)))); cases h; exact rdN (Gm [(1000, 1002)] (.e Z Z) (.e Z Z) Z)
  ·refine W.exit ?_; cases h; refine rdX fun e_ => ?_; subst e_; (repeat with_reducible refine thru ?_); exact hit (toN (Gm [] (.r Z Z .n) (.e Z Z) Z))

noncomputable def lombardref30_Same.b0 (x0 : List lombardref30_Member) (x1 : List lombardref30_Member) (v6 : Int) : Option (Int ⊕ (Bool ⊕ Unit)) :=
 if (decide (v6 < (List.length x0 : Int))) = true then
 if (0 : Int) ≤ v6 ∧ v6 < (List.length x0 : Int) then
 if (0 : Int) ≤ v6 ∧ v6 < (List.length x1 : Int) then
 if (!((((nth x0 v6).ID) == ((nth x1 v6).ID)) && ((((nth x0 v6).Name) == ((nth x1 v6).Name)) && ((((nth x0 v6).State) == ((nth x1 v6).State)) && ((((nth x0 v6).Bound) == ((nth x1 v6).Bound)) && (((nth x0 v6).Late) == ((nth x1 v6).Late))))))) = true then
 some (.inr (.inl false))
 else some (.inl (IntKind.wrap .i64 (v6 + 1)))
 else none
 else none
 else some (.inr (.inr ()))
noncomputable def lombardref30_Same.r0 (x0 : List lombardref30_Member) (x1 : List lombardref30_Member) (s : Int) : Option (Int ⊕ (Bool ⊕ Unit)) := lombardref30_Same.b0 x0 x1 s
noncomputable def lombardref30_Same.f (x0 : List lombardref30_Member) (x1 : List lombardref30_Member) : Option (Bool) :=
 if ((List.length x0 : Int) != (List.length x1 : Int)) = true then
 some false
 else (loop (lombardref30_Same.r0 x0 x1) 0).bind fun o16 =>
 match o16 with
 | .inl r23 => some r23
 | .inr w15 =>
 some true
theorem lombardref30_Same.ok {x0 : List lombardref30_Member} {x1 : List lombardref30_Member} {r : Bool} (h : lombardref30_Same.f x0 x1 = some r) : Pm.Spec prog 15 [.xown 31 5 (List.map lombardref30_Member.enc x0), .xown 31 5 (List.map lombardref30_Member.enc x1)] (.imm (.val (.bool r))) [some (.xown 31 5 (List.map lombardref30_Member.enc x0)), some (.xown 31 5 (List.map lombardref30_Member.enc x1))] := by
 unfold lombardref30_Same.f at h; refine Pm.Spec.of_body Tryz.func15 Z (by kernel_rfl) (L Z) (L Z) ?_; refine W.ghost (σ' := (mkSt [(0, some (.own 0)), (1, some (.own 1))] [(0, some (.rows 31 5 (List.map lombardref30_Member.enc x0) false)), (1, some (.rows 31 5 (List.map lombardref30_Member.enc x1) false))] 1000)) (Gives.entry (.c Z (.c Z .n)) (.c Z (.c Z .n))) (W.seq (W.pk (.A Z (.nil (W.seq (W.seq (W.pk (.M Z (.V Z (O.lenO sl24 Z Z Z) (.M Z (.V Z (O.lenO sl24 Z Z Z) ?_))))))))))); refine .B Z (.nil (W.cnd Z h (fun q1 h => ?_) (fun q1 h => ?_)))
 ·refine W.seq (W.pk (.A Z (.nil (W.ret ?_)))); cases h; exact leaves (.inr Z) Z (.imm _) (cS (.own _ _ _ _ Z) (cS (.own _ _ _ _ Z) .nil)) Z Z
 ·refine W.skip (W.seq (W.seq (W.pk (.A Z (.nil ?_))))); obtain ⟨o16, b17, z18⟩ := bnd1 h; refine W.fork2 (out := o16) (fun (w15 : Unit) => mkSt [] [(0, some (.rows 31 5 (List.map lombardref30_Member.enc x0) false)), (1, some (.rows 31 5 (List.map lombardref30_Member.enc x1) false))] 1000) ?_ ?_
  ·clear h; refine W.block (W.loopF (fun (s_ : Int) => mkSt [(0, some (.own 0)), (1, some (.own 1)), (5, some (.i s_))] [(0, some (.rows 31 5 (List.map lombardref30_Member.enc x0) false)), (1, some (.rows 31 5 (List.map lombardref30_Member.enc x1) false))] 1000) b17 (Gm [] (.e Z Z) (.e Z Z) Z) ?_); rintro v6 s_ hr; have h : lombardref30_Same.b0 x0 x1 v6 = some s_ := hr; unfold lombardref30_Same.b0 at h; refine W.seq (W.seq (W.pk (.M Z (.M Z (.V Z (O.lenO sl24 Z Z Z) (.B Z (.nil (W.cnd Z h (fun q19 h => ?_) (fun q19 h => ?_)))))))))
   ·refine W.skip (W.seq (W.block (W.seq ?_))); obtain ⟨c20, h⟩ := chk h; obtain ⟨c21, h⟩ := chk h; refine W.dk (unm 9 [0, 0, 3, 7, 0, 0, 48, 112, 255]) Z (by kernel_rfl) ?_; refine .M Z (.M Z (.V Z (O.idxO sl24 c20 Z Z Z Z) (.V Z (O.ldEN ty31 c20 Z Z Z Z Z) (.M Z (.M Z (.V Z (O.idxO sl24 c21 Z Z Z Z) (.V Z (O.ldEN ty31 c21 Z Z Z Z Z) (.V Z (O.neS (r := ((((nth x0 v6).ID) == ((nth x1 v6).ID)) && ((((nth x0 v6).Name) == ((nth x1 v6).Name)) && ((((nth x0 v6).State) == ((nth x1 v6).State)) && ((((nth x0 v6).Bound) == ((nth x1 v6).Bound)) && (((nth x0 v6).Late) == ((nth x1 v6).Late))))))) fl31 Z Z Z Z Z Z) (.nil ?_))))))))); refine ⟨by kernel_rfl, by kernel_rfl, ?_⟩; refine W.cnd Z h (fun q22 h => ?_) (fun q22 h => ?_)
    ·refine W.seq (W.pk (.A Z (.nil (W.ret ?_)))); cases h; refine rdR fun e_ => ?_; subst e_; have h := z18; dsimp only at h; refine fkR ?_; cases h; exact leaves (.inr Z) Z (.imm _) (cS (.own _ _ _ _ Z) (cS (.own _ _ _ _ Z) .nil)) Z Z
    ·refine W.skip (W.pk (.M Z (.B Z (.A Z (.nil ?_))))); cases h; exact rdN (Gm [] (.e Z Z) (.e Z Z) Z)
   ·refine W.exit ?_; cases h; refine rdX fun e_ => ?_; subst e_; (repeat with_reducible refine thru ?_); exact hit (fkN (Gm [] .n (.e Z Z) Z))
  ·intro w15 e_; subst e_; clear h; have h := z18; dsimp only at h; refine W.seq (W.pk (.A Z (.nil (W.ret ?_)))); cases h; exact leaves (.inr Z) Z (.imm _) (cS (.own _ _ _ _ Z) (cS (.own _ _ _ _ Z) .nil)) Z Z

noncomputable def lombardlaw30_does.f (x0 : auth_List) (x1 : List lombardref30_Member) (x2 : lombardlaw30_Act) : Option (Bool × auth_List × (List lombardref30_Member)) :=
 ((
 if (x2.Kind == 0) = true then
 (lombardref30_Join.f x1 x2.ID x2.Name).bind fun t33 =>
 (auth_List_Join.f x0 x2.ID x2.Name).bind fun t35 =>
 some (t33.2, t35.1, t35.2.made, t33.1, t35.2.l)
 else if (x2.Kind == 1) = true then
 (lombardref30_Change.f x1 0 x2.ID x2.N x2.Yes).bind fun t38 =>
 (auth_List_Bound.f x0 x2.ID x2.N).bind fun t40 =>
 some (t38.2, t40.1, t40.2.made, t38.1, t40.2.l)
 else if (x2.Kind == 2) = true then
 (lombardref30_Change.f x1 1 x2.ID x2.N x2.Yes).bind fun t43 =>
 (auth_List_Late.f x0 x2.ID x2.Yes).bind fun t45 =>
 some (t43.2, t45.1, t45.2.made, t43.1, t45.2.l)
 else if (x2.Kind == 3) = true then
 (lombardref30_Change.f x1 2 x2.ID x2.N x2.Yes).bind fun t48 =>
 (auth_List_Call.f x0 x2.ID x2.Yes).bind fun t50 =>
 some (t48.2, t50.1, t50.2.made, t48.1, t50.2.l)
 else (lombardref30_Change.f x1 3 x2.ID x2.N x2.Yes).bind fun t52 =>
 (auth_List_Default.f x0 x2.ID).bind fun t54 =>
 some (t52.2, t54.1, t54.2.made, t52.1, t54.2.l) : Option (Int × Int × Bool × (List lombardref30_Member) × (List auth_Member)))).bind fun o30 =>
 (if (o30.2.1 == o30.1) = true then auth_List_All.f (⟨o30.2.2.2.2, o30.2.2.1⟩ : auth_List) else some default).bind fun t56 =>
 (if (o30.2.1 == o30.1) = true then lombardlaw30_Told.f t56 else some default).bind fun t58 =>
 (if (o30.2.1 == o30.1) = true then lombardref30_Same.f t58 o30.2.2.2.1 else some default).bind fun t60 =>
 some (((o30.2.1 == o30.1) && t60), (⟨o30.2.2.2.2, o30.2.2.1⟩ : auth_List), o30.2.2.2.1)
theorem lombardlaw30_does.ok {x0 : auth_List} {x1 : List lombardref30_Member} {x2 : lombardlaw30_Act} {r : Bool × auth_List × (List lombardref30_Member)} (h : lombardlaw30_does.f x0 x1 x2 = some r) : Pm.Spec prog 30 [.xbox [.xown 32 5 (List.map auth_Member.enc x0.l), .imm (.val (.bool x0.made))], .xbox [.xown 31 5 (List.map lombardref30_Member.enc x1)], .agg (im (lombardlaw30_Act.enc x2))] (.imm (.val (.bool r.1))) [some (.xbox [.xown 32 5 (List.map auth_Member.enc r.2.1.l), .imm (.val (.bool r.2.1.made))]), some (.xbox [.xown 31 5 (List.map lombardref30_Member.enc r.2.2)]), none] := by
 unfold lombardlaw30_does.f at h; refine Pm.Spec.of_body Tryz.func30 Z (by kernel_rfl) (L Z) (L Z) ?_; refine W.ghost (σ' := (mkSt [(0, some (.ptr 0 0)), (1, some (.ptr 2 0)), (2, some (.agg (lombardlaw30_Act.av x2)))] [(0, some (.box [.own 1, .b x0.made])), (1, some (.rows 32 5 (List.map auth_Member.enc x0.l) false)), (2, some (.box [.own 3])), (3, some (.rows 31 5 (List.map lombardref30_Member.enc x1) false))] 1000)) (Gives.entry (.c Z (.c Z (.c Z .n))) (.c Z (.c Z (.c Z (.c Z .n))))) (W.ghost (σ' := (mkSt [(0, some (.ptr 0 0)), (1, some (.ptr 2 0)), (2, some (.agg (lombardlaw30_Act.av x2)))] [(0, some (.box [.own 1000, .b x0.made])), (2, some (.box [.own 1001])), (1000, some (.rows 32 5 (List.map auth_Member.enc x0.l) false)), (1001, some (.rows 31 5 (List.map lombardref30_Member.enc x1) false))] 1002)) (Gm [(1000, 1), (1001, 3)] (.e Z Z) (.e Z Z) Z) (W.seq (W.pk (.t Z Z (O.box Z Z Z Z Z) (.A Z (.nil (W.seq (W.pk (.A Z (.nil (W.seq ?_))))))))))); refine W.pk (.A Z (.nil (W.seq (W.pk (.A Z (.nil (W.seq (W.seq (W.pk (.F fld75_0 Z (.V Z (O.ld (y := .i x2.Kind) ty3 Z Z Z) ?_))))))))))); refine .nil ?_; obtain ⟨o30, b31, h⟩ := bnd1 h; refine W.fork (mkSt [(0, some (.ptr 0 0)), (1, some (.ptr 2 0)), (7, some (.own 1003)), (8, some (.i o30.1)), (9, some (.i o30.2.1))] [(0, some (.box [.own 1004, .b o30.2.2.1])), (2, some (.box [.own 1001])), (1003, some (.rows 31 5 (List.map lombardref30_Member.enc o30.2.2.2.1) false)), (1004, some (.rows 32 5 (List.map auth_Member.enc o30.2.2.2.2) false))] 1005) ?_ ?_
 ·refine W.seq (W.pk (.M Z (.M Z (.V Z (OpL.nilP Z Z Z) (.S ty24 Z [.own 1003] Z (.nil (W.seq ?_))))))); obtain ⟨t56, b57, h⟩ := bnd1 h; obtain ⟨t58, b59, h⟩ := bnd1 h; obtain ⟨t60, b61, h⟩ := bnd1 h; refine W.fork (mkSt [(6, some (.b ((o30.2.1 == o30.1) && t60)))] [(0, some (.box [.own 1006, .b ((⟨o30.2.2.2.2, o30.2.2.1⟩ : auth_List).made)])), (2, some (.box [.own 1003])), (1003, some (.rows 31 5 (List.map lombardref30_Member.enc o30.2.2.2.1) false)), (1006, some (.rows 32 5 (List.map auth_Member.enc ((⟨o30.2.2.2.2, o30.2.2.1⟩ : auth_List).l)) false))] 1008) ?_ ?_
  ·refine W.ret ?_; cases h; exact leaves (.inr Z) Z (.imm _) (cS (.ptr _ _ _ _ _ Z (cC (.own _ _ _ _ Z) (cI .nil))) (cS (.ptr _ _ _ _ _ Z (cC (.own _ _ _ _ Z) .nil)) (cN .nil))) Z Z
  ·clear h; refine W.dk (unm 13 [0, 0, 3, 7, 15, 31, 63, 15, 143, 399, 1023, 2047, 4095]) Z (by kernel_rfl) ?_; refine .M Z (.M Z (.B Z (.M Z ?_))); rcases tf (o30.2.1 == o30.1) with g62 | g62
   ·refine .N Z g62 (.call (.own 1005) [(1005, some (.rows 32 5 (List.map auth_Member.enc t56) false)), (0, some (.box [.own 1006, .b ((⟨o30.2.2.2.2, o30.2.2.1⟩ : auth_List).made)])), (1006, some (.rows 32 5 (List.map auth_Member.enc ((⟨o30.2.2.2.2, o30.2.2.1⟩ : auth_List).l)) false)), (0, none), (1004, none)] 2 (auth_List_All.ok ((if_pos (by simp only [g62, BL])).symm.trans b57)) Z (met Z Z Z g62) Z ca17 Z Z (cC (.ptr _ _ _ _ _ Z (cC (.own _ _ _ _ Z) (cI .nil))) .nil) Z Z Z Z Z ?_); refine .call (.own 1007) [(1007, some (.rows 31 5 (List.map lombardref30_Member.enc t58) false)), (1005, some (.rows 32 5 (List.map auth_Member.enc t56) false)), (1005, none)] 1 (lombardlaw30_Told.ok ((if_pos (by simp only [g62, BL])).symm.trans b59)) Z (met Z Z Z g62) Z ca16 Z Z (cC (.own _ _ _ _ Z) .nil) Z Z Z Z Z ?_; refine .N Z g62 (.U Z g62 (OpL.nilP Z Z Z) (.U Z g62 (O.ld (y := .own 1003) ty24 Z Z Z) (.call (.b t60) [(1007, some (.rows 31 5 (List.map lombardref30_Member.enc t58) false)), (1003, some (.rows 31 5 (List.map lombardref30_Member.enc o30.2.2.2.1) false)), (1007, none), (1003, none)] 0 (lombardref30_Same.ok ((if_pos (by simp only [g62, BL])).symm.trans b61)) Z (met Z Z Z g62) Z ca15 Z Z (cC (.own _ _ _ _ Z) (cC (.own _ _ _ _ Z) .nil)) Z Z Z Z Z ?_))); refine .T g62 Z (.A Z (.nil ?_)); refine ⟨by kernel_rfl, by kernel_rfl, ?_⟩; exact toN (Gm [] (.c Z (sbb (by simp only [g62, BL])) Z .n) (.e Z Z) Z)
   ·(iterate 7 refine .X Z g62 ?_); refine .E g62 Z (.A Z (.nil ?_)); refine ⟨by kernel_rfl, by kernel_rfl, ?_⟩; exact toN (Gm [(1006, 1004)] (.c Z (sbb (by simp only [g62, BL])) Z .n) (.c Z (.box (.cons (.rfl _) (.cons (sbb (by simp only [g62, BL])) .nil))) Z Z (.r Z Z Z (.r Z Z Z (.c Z (kro (by simp only [g62, BL])) Z Z .n)))) Z)
 ·clear h; have h := b31; refine W.block (W.seq (W.pk (.B Z (.A Z (.nil (W.cnd Z h (fun q32 h => ?_) (fun q32 h => ?_)))))))
  ·refine W.seq ?_; obtain ⟨t33, b34, h⟩ := bnd1 h; refine W.dk (unm 13 [0, 1, 3, 0, 8, 0, 32, 127, 255, 511, 511, 1023, 4095]) Z (by kernel_rfl) ?_; refine .M Z (.V Z (OpL.nilP Z Z Z) (.V Z (O.ld (y := .own 1001) ty24 Z Z Z) (.F fld75_1 Z (.V Z (O.ld (y := .i x2.ID) ty3 Z Z Z) (.F fld75_2 Z (.V Z (O.ld (y := .s x2.Name) ty9 Z Z Z) (.C (.tup [.own 1003, .i t33.2]) [(1003, some (.rows 31 5 (List.map lombardref30_Member.enc t33.1) false)), (1001, none)] 1 (lombardref30_Join.ok b34) ca31 Z (cC (.own _ _ _ _ Z) (cI (cI .nil))) Z ?_))))))); refine .M Z ?_; (iterate 2 refine .V Z (OpL.extract Z Z Z) ?_); refine .A Z (.A Z (.nil ?_)); refine ⟨by kernel_rfl, by kernel_rfl, ?_⟩; obtain ⟨t35, b36, h⟩ := bnd1 h; refine W.pk (.M Z (.F fld75_1 Z (.V Z (O.ld (y := .i x2.ID) ty3 Z Z Z) (.F fld75_2 Z (.V Z (O.ld (y := .s x2.Name) ty9 Z Z Z) (.C (.i t35.1) [(0, some (.box [.own 1004, .b t35.2.made])), (1004, some (.rows 32 5 (List.map auth_Member.enc t35.2.l) false)), (0, none), (1000, none)] 1 (auth_List_Join.ok b36) ca13 Z (cC (.ptr _ _ _ _ _ Z (cC (.own _ _ _ _ Z) (cI .nil))) (cI (cI .nil))) Z ?_)))))); refine .A Z (.nil ?_); cases h; exact toN (Gm [] (.e Z Z) (.e Z Z) Z)
  ·refine W.seq (W.pk (.B Z (.A Z (.nil (W.cnd Z h (fun q37 h => ?_) (fun q37 h => ?_))))))
   ·refine W.seq ?_; obtain ⟨t38, b39, h⟩ := bnd1 h; refine W.dk (unm 15 [0, 1, 3, 0, 8, 0, 32, 0, 128, 511, 1023, 2047, 2047, 4095, 16383]) Z (by kernel_rfl) ?_; refine .M Z (.V Z (OpL.nilP Z Z Z) (.V Z (O.ld (y := .own 1001) ty24 Z Z Z) (.F fld75_1 Z (.V Z (O.ld (y := .i x2.ID) ty3 Z Z Z) (.F fld75_3 Z (.V Z (O.ld (y := .i x2.N) ty3 Z Z Z) (.F fld75_4 Z (.V Z (O.ld (y := .b x2.Yes) ty4 Z Z Z) (.C (.tup [.own 1003, .i t38.2]) [(1003, some (.rows 31 5 (List.map lombardref30_Member.enc t38.1) false)), (1001, none)] 1 (lombardref30_Change.ok b39) ca50 Z (cC (.own _ _ _ _ Z) (cI (cI (cI (cI .nil))))) Z ?_))))))))); refine .M Z ?_; (iterate 2 refine .V Z (OpL.extract Z Z Z) ?_); refine .A Z (.A Z (.nil ?_)); refine ⟨by kernel_rfl, by kernel_rfl, ?_⟩; obtain ⟨t40, b41, h⟩ := bnd1 h; refine W.pk (.M Z (.F fld75_1 Z (.V Z (O.ld (y := .i x2.ID) ty3 Z Z Z) (.F fld75_3 Z (.V Z (O.ld (y := .i x2.N) ty3 Z Z Z) (.C (.i t40.1) [(0, some (.box [.own 1004, .b t40.2.made])), (1004, some (.rows 32 5 (List.map auth_Member.enc t40.2.l) false)), (0, none), (1000, none)] 1 (auth_List_Bound.ok b41) ca51 Z (cC (.ptr _ _ _ _ _ Z (cC (.own _ _ _ _ Z) (cI .nil))) (cI (cI .nil))) Z ?_)))))); refine .A Z (.nil ?_); cases h; exact toN (Gm [] (.e Z Z) (.e Z Z) Z)
   ·refine W.seq (W.pk (.B Z (.A Z (.nil (W.cnd Z h (fun q42 h => ?_) (fun q42 h => ?_))))))
    ·refine W.seq ?_; obtain ⟨t43, b44, h⟩ := bnd1 h; refine W.dk (unm 15 [0, 1, 3, 0, 8, 0, 32, 0, 128, 511, 1023, 2047, 2047, 4095, 16383]) Z (by kernel_rfl) ?_; refine .M Z (.V Z (OpL.nilP Z Z Z) (.V Z (O.ld (y := .own 1001) ty24 Z Z Z) (.F fld75_1 Z (.V Z (O.ld (y := .i x2.ID) ty3 Z Z Z) (.F fld75_3 Z (.V Z (O.ld (y := .i x2.N) ty3 Z Z Z) (.F fld75_4 Z (.V Z (O.ld (y := .b x2.Yes) ty4 Z Z Z) (.C (.tup [.own 1003, .i t43.2]) [(1003, some (.rows 31 5 (List.map lombardref30_Member.enc t43.1) false)), (1001, none)] 1 (lombardref30_Change.ok b44) ca50 Z (cC (.own _ _ _ _ Z) (cI (cI (cI (cI .nil))))) Z ?_))))))))); refine .M Z ?_; (iterate 2 refine .V Z (OpL.extract Z Z Z) ?_); refine .A Z (.A Z (.nil ?_)); refine ⟨by kernel_rfl, by kernel_rfl, ?_⟩; obtain ⟨t45, b46, h⟩ := bnd1 h; refine W.pk (.M Z (.F fld75_1 Z (.V Z (O.ld (y := .i x2.ID) ty3 Z Z Z) (.F fld75_4 Z (.V Z (O.ld (y := .b x2.Yes) ty4 Z Z Z) (.C (.i t45.1) [(0, some (.box [.own 1004, .b t45.2.made])), (1004, some (.rows 32 5 (List.map auth_Member.enc t45.2.l) false)), (0, none), (1000, none)] 1 (auth_List_Late.ok b46) ca52 Z (cC (.ptr _ _ _ _ _ Z (cC (.own _ _ _ _ Z) (cI .nil))) (cI (cI .nil))) Z ?_)))))); refine .A Z (.nil ?_); cases h; exact toN (Gm [] (.e Z Z) (.e Z Z) Z)
    ·refine W.seq (W.pk (.B Z (.A Z (.nil (W.cnd Z h (fun q47 h => ?_) (fun q47 h => ?_))))))
     ·refine W.seq ?_; obtain ⟨t48, b49, h⟩ := bnd1 h; refine W.dk (unm 15 [0, 1, 3, 0, 8, 0, 32, 0, 128, 511, 1023, 2047, 2047, 4095, 16383]) Z (by kernel_rfl) ?_; refine .M Z (.V Z (OpL.nilP Z Z Z) (.V Z (O.ld (y := .own 1001) ty24 Z Z Z) (.F fld75_1 Z (.V Z (O.ld (y := .i x2.ID) ty3 Z Z Z) (.F fld75_3 Z (.V Z (O.ld (y := .i x2.N) ty3 Z Z Z) (.F fld75_4 Z (.V Z (O.ld (y := .b x2.Yes) ty4 Z Z Z) (.C (.tup [.own 1003, .i t48.2]) [(1003, some (.rows 31 5 (List.map lombardref30_Member.enc t48.1) false)), (1001, none)] 1 (lombardref30_Change.ok b49) ca50 Z (cC (.own _ _ _ _ Z) (cI (cI (cI (cI .nil))))) Z ?_))))))))); refine .M Z ?_; (iterate 2 refine .V Z (OpL.extract Z Z Z) ?_); refine .A Z (.A Z (.nil ?_)); refine ⟨by kernel_rfl, by kernel_rfl, ?_⟩; obtain ⟨t50, b51, h⟩ := bnd1 h; refine W.pk (.M Z (.F fld75_1 Z (.V Z (O.ld (y := .i x2.ID) ty3 Z Z Z) (.F fld75_4 Z (.V Z (O.ld (y := .b x2.Yes) ty4 Z Z Z) (.C (.i t50.1) [(0, some (.box [.own 1004, .b t50.2.made])), (1004, some (.rows 32 5 (List.map auth_Member.enc t50.2.l) false)), (0, none), (1000, none)] 1 (auth_List_Call.ok b51) ca28 Z (cC (.ptr _ _ _ _ _ Z (cC (.own _ _ _ _ Z) (cI .nil))) (cI (cI .nil))) Z ?_)))))); refine .A Z (.nil ?_); cases h; exact toN (Gm [] (.e Z Z) (.e Z Z) Z)
     ·refine W.seq ?_; obtain ⟨t52, b53, h⟩ := bnd1 h; refine W.dk (unm 15 [0, 1, 3, 0, 8, 0, 32, 0, 128, 511, 1023, 2047, 2047, 4095, 16383]) Z (by kernel_rfl) ?_; refine .M Z (.V Z (OpL.nilP Z Z Z) (.V Z (O.ld (y := .own 1001) ty24 Z Z Z) (.F fld75_1 Z (.V Z (O.ld (y := .i x2.ID) ty3 Z Z Z) (.F fld75_3 Z (.V Z (O.ld (y := .i x2.N) ty3 Z Z Z) (.F fld75_4 Z (.V Z (O.ld (y := .b x2.Yes) ty4 Z Z Z) (.C (.tup [.own 1003, .i t52.2]) [(1003, some (.rows 31 5 (List.map lombardref30_Member.enc t52.1) false)), (1001, none)] 1 (lombardref30_Change.ok b53) ca50 Z (cC (.own _ _ _ _ Z) (cI (cI (cI (cI .nil))))) Z ?_))))))))); refine .M Z ?_; (iterate 2 refine .V Z (OpL.extract Z Z Z) ?_); refine .A Z (.A Z (.nil ?_)); refine ⟨by kernel_rfl, by kernel_rfl, ?_⟩; obtain ⟨t54, b55, h⟩ := bnd1 h; refine W.pk (.M Z (.F fld75_1 Z (.V Z (O.ld (y := .i x2.ID) ty3 Z Z Z) (.C (.i t54.1) [(0, some (.box [.own 1004, .b t54.2.made])), (1004, some (.rows 32 5 (List.map auth_Member.enc t54.2.l) false)), (0, none), (1000, none)] 1 (auth_List_Default.ok b55) ca14 Z (cC (.ptr _ _ _ _ _ Z (cC (.own _ _ _ _ Z) (cI .nil))) (cI .nil)) Z ?_)))); refine .A Z (.nil ?_); cases h; exact toN (Gm [] (.e Z Z) (.e Z Z) Z)

noncomputable def lombardlaw30_filled.b0 (x0 : List lombardlaw30_Act) (v24 : Int) (v25 : Bool) (v26 : List auth_Member) (v27 : List lombardref30_Member) : Option ((Int × Bool × (List auth_Member) × (List lombardref30_Member)) ⊕ ((auth_List × (List lombardref30_Member) × Bool) ⊕ (Bool × (List auth_Member) × (List lombardref30_Member)))) :=
 if ((decide (v24 < (List.length x0 : Int))) && (decide (v24 < 50))) = true then
 if (0 : Int) ≤ v24 ∧ v24 < (List.length x0 : Int) then
 if ((decide ((List.length ((nth x0 v24).Name) : Int) ≤ 600)) = true → (0 : Int) ≤ v24 ∧ v24 < (List.length x0 : Int)) then
 (if (decide ((List.length ((nth x0 v24).Name) : Int) ≤ 600)) = true then lombardlaw30_does.f (⟨v26, v25⟩ : auth_List) v27 (nth x0 v24) else some (default, (⟨v26, v25⟩ : auth_List), v27)).bind fun t54 =>
 if ((decide ((List.length ((nth x0 v24).Name) : Int) ≤ 600)) && (!t54.1)) = true then
 some (.inr (.inl (t54.2.1, t54.2.2, false)))
 else some (.inl ((IntKind.wrap .i64 (v24 + 1)), t54.2.1.made, t54.2.1.l, t54.2.2))
 else none
 else none
 else some (.inr (.inr (v25, v26, v27)))
noncomputable def lombardlaw30_filled.r0 (x0 : List lombardlaw30_Act) (s : Int × Bool × (List auth_Member) × (List lombardref30_Member)) : Option ((Int × Bool × (List auth_Member) × (List lombardref30_Member)) ⊕ ((auth_List × (List lombardref30_Member) × Bool) ⊕ (Bool × (List auth_Member) × (List lombardref30_Member)))) := lombardlaw30_filled.b0 x0 s.1 s.2.1 s.2.2.1 s.2.2.2
noncomputable def lombardlaw30_filled.f (x0 : List lombardlaw30_Act) : Option (auth_List × (List lombardref30_Member) × Bool) :=
 (auth_New.f).bind fun t1 =>
 (loop (lombardlaw30_filled.r0 x0) (0, t1.made, t1.l, [])).bind fun o47 =>
 match o47 with
 | .inl r59 => some r59
 | .inr w46 =>
 some ((⟨w46.2.1, w46.1⟩ : auth_List), w46.2.2, true)
theorem lombardlaw30_filled.ok {x0 : List lombardlaw30_Act} {r : auth_List × (List lombardref30_Member) × Bool} (h : lombardlaw30_filled.f x0 = some r) : Pm.Spec prog 8 [.imm (.row 5 (List.map lombardlaw30_Act.enc x0))] (.tup [.xbox [.xown 32 5 (List.map auth_Member.enc r.1.l), .imm (.val (.bool r.1.made))], .xown 31 5 (List.map lombardref30_Member.enc r.2.1), .imm (.val (.bool r.2.2))]) [none] := by
 unfold lombardlaw30_filled.f at h; refine Pm.Spec.of_body Tryz.func8 Z (by kernel_rfl) (L Z) (L Z) ?_; refine W.ghost (σ' := (mkSt [(0, some (.imm (.row 5 (List.map lombardlaw30_Act.enc x0))))] [] 1000)) (Gives.entry (.c Z .n) .n) (W.seq (W.pk (.A Z (.A Z (.A Z (.nil (W.seq ?_))))))); obtain ⟨t1, b2, h⟩ := bnd1 h; refine W.pk (.C (.ptr 1000 0) [(1000, some (.box [.own 1001, .b t1.made])), (1001, some (.rows 32 5 (List.map auth_Member.enc t1.l) false))] 2 (auth_New.ok b2) ca29 Z .nil Z ?_); refine .A Z (.nil (W.seq (W.pk (.t Z Z (O.alloc z24 Z) (.nil (W.seq (W.seq (W.pk (.A Z (.nil (W.ghost (Gives.mintB 1002 0 31 5 Z Z) ?_))))))))))); obtain ⟨o47, b48, z49⟩ := bnd1 h; refine W.fork2 (out := o47) (fun (w46 : Bool × (List auth_Member) × (List lombardref30_Member)) => mkSt [(5, some (.ptr 1000 0)), (6, some (.ptr 1002 0))] [(1000, some (.box [.own 1001, .b w46.1])), (1001, some (.rows 32 5 (List.map auth_Member.enc w46.2.1) false)), (1002, some (.box [.own 1003])), (1003, some (.rows 31 5 (List.map lombardref30_Member.enc w46.2.2) false))] 1004) ?_ ?_
 ·clear h; refine W.block (W.loopF (fun (s_ : Int × Bool × (List auth_Member) × (List lombardref30_Member)) => mkSt [(0, some (.imm (.row 5 (List.map lombardlaw30_Act.enc x0)))), (5, some (.ptr 1000 0)), (6, some (.ptr 1002 0)), (7, some (.i s_.1))] [(1000, some (.box [.own 1001, .b s_.2.1])), (1001, some (.rows 32 5 (List.map auth_Member.enc s_.2.2.1) false)), (1002, some (.box [.own 1003])), (1003, some (.rows 31 5 (List.map lombardref30_Member.enc s_.2.2.2) false))] 1004) b48 (Gm [] (.e Z Z) (.e Z Z) Z) ?_); rintro ⟨v24, v25, v26, v27⟩ s_ hr; have h : lombardlaw30_filled.b0 x0 v24 v25 v26 v27 = some s_ := hr; unfold lombardlaw30_filled.b0 at h; refine W.seq (W.seq (W.fork (mkSt [(0, some (.imm (.row 5 (List.map lombardlaw30_Act.enc x0)))), (5, some (.ptr 1000 0)), (6, some (.ptr 1002 0)), (7, some (.i v24)), (16, some (.b ((decide (v24 < (List.length x0 : Int))) && (decide (v24 < 50)))))] [(1000, some (.box [.own 1001, .b v25])), (1001, some (.rows 32 5 (List.map auth_Member.enc v26) false)), (1002, some (.box [.own 1003])), (1003, some (.rows 31 5 (List.map lombardref30_Member.enc v27) false))] 1004) ?_ ?_))
  ·refine W.cnd Z h (fun q51 h => ?_) (fun q51 h => ?_)
   ·refine W.skip (W.seq (W.block (W.seq ?_))); obtain ⟨c52, h⟩ := chk h; obtain ⟨c53, h⟩ := chk h; obtain ⟨t54, b55, h⟩ := bnd1 h; refine W.fork (mkSt [(0, some (.imm (.row 5 (List.map lombardlaw30_Act.enc x0)))), (5, some (.ptr 1000 0)), (6, some (.ptr 1002 0)), (7, some (.i v24)), (34, some (.b ((decide ((List.length ((nth x0 v24).Name) : Int) ≤ 600)) && (!t54.1))))] [(1000, some (.box [.own 1004, .b t54.2.1.made])), (1002, some (.box [.own 1005])), (1004, some (.rows 32 5 (List.map auth_Member.enc t54.2.1.l) false)), (1005, some (.rows 31 5 (List.map lombardref30_Member.enc t54.2.2) false))] 1006) ?_ ?_
    ·refine W.cnd Z h (fun q57 h => ?_) (fun q57 h => ?_)
     ·refine W.seq (W.dk (unm 5 [0, 0, 1, 7, 15]) Z (by kernel_rfl) ?_); refine .M Z (.V Z (O.ld (y := .own 1005) ty24 Z Z Z) (.A Z (.A Z (.A Z (.nil ?_))))); refine ⟨by kernel_rfl, by kernel_rfl, ?_⟩; refine W.ret ?_; cases h; refine rdR fun e_ => ?_; subst e_; have h := z49; dsimp only at h; refine fkR ?_; cases h; exact leaves (.inr Z) Z (.tup _ _ _ _ (cC (.ptr _ _ _ _ _ Z (cC (.own _ _ _ _ Z) (cI .nil))) (cC (.own _ _ _ _ Z) (cI .nil)))) (cN .nil) Z Z
     ·refine W.skip (W.pk (.M Z (.B Z (.A Z (.nil ?_))))); cases h; exact rdN (Gm [(1001, 1004), (1003, 1005)] (.e Z Z) (.e Z Z) Z)
    ·clear h; refine W.pk (.M Z (.M Z (.V Z (O.idx sl22 c52 Z Z Z) (.F fld75_2 Z (.V Z (O.ld (y := .s ((nth x0 v24).Name)) ty9 Z Z Z) (.V Z (O.lenS u9 Z Z) (.B Z (.M Z ?_)))))))); rcases tf (decide ((List.length ((nth x0 v24).Name) : Int) ≤ 600)) with g56 | g56
     ·(iterate 3 refine .N Z g56 ?_); refine .U Z g56 (O.idx sl22 (c53 (by simp only [g56, BL])) Z Z Z) ?_; refine .U Z g56 (O.ldN ty75 Z Z Z) (.call (.b t54.1) [(1000, some (.box [.own 1004, .b t54.2.1.made])), (1004, some (.rows 32 5 (List.map auth_Member.enc t54.2.1.l) false)), (1002, some (.box [.own 1005])), (1005, some (.rows 31 5 (List.map lombardref30_Member.enc t54.2.2) false)), (1000, none), (1001, none), (1002, none), (1003, none)] 2 (lombardlaw30_does.ok ((if_pos (by simp only [g56, BL])).symm.trans b55)) Z (met Z Z Z g56) Z ca30 Z Z (cC (.ptr _ _ _ _ _ Z (cC (.own _ _ _ _ Z) (cI .nil))) (cC (.ptr _ _ _ _ _ Z (cC (.own _ _ _ _ Z) .nil)) (cC (.agg _ _ _ _ (cI (cI (cI (cI (cI .nil)))))) .nil))) Z Z Z Z Z ?_); exact .U Z g56 (OpL.unV Z Z Z) (.T g56 Z (.nil (toN (Gm [] (.r Z Z (.r Z Z (.r Z Z (.r Z Z (.c Z (sbb (by simp only [g56, BL])) Z .n))))) (.e Z Z) Z))))
     ·(iterate 7 refine .X Z g56 ?_); refine .E g56 Z (.nil ?_); have e58 : t54 = (default, (⟨v26, v25⟩ : auth_List), v27) := (Option.some.inj ((if_neg (by simp only [g56, BL, Bool.true_eq_false, Bool.false_eq_true, false_and, and_false, true_and, and_true, not_false_eq_true])).symm.trans b55)).symm; exact toN (Gm [(1004, 1001), (1005, 1003)] (.r Z Z (.r Z Z (.r Z Z (.r Z Z (.c Z (sbb (by first | (simp only [g56, e58, BL]; done) | (repeat (first | rw [g56] | rw [e58])) <;> simp only [BL])) Z .n))))) (.c Z (.box (.cons (.rfl _) (.cons (sbb (by first | (simp only [g56, e58, BL]; done) | (repeat (first | rw [g56] | rw [e58])) <;> simp only [BL])) .nil))) Z Z (.r Z Z Z (.c Z (kro (by first | (simp only [g56, e58, BL]; done) | (repeat (first | rw [g56] | rw [e58])) <;> simp only [BL])) Z Z (.c Z (kro (by first | (simp only [g56, e58, BL]; done) | (repeat (first | rw [g56] | rw [e58])) <;> simp only [BL])) Z Z .n)))) Z)
   ·refine W.exit ?_; cases h; refine rdX fun e_ => ?_; subst e_; (repeat with_reducible refine thru ?_); exact hit (fkN (Gm [] (.e Z Z) (.e Z Z) Z))
  ·clear h; refine W.pk (.M Z (.M Z (.V Z (O.lenR sl22 Z Z) (.B Z (.M Z ?_))))); rcases tf (decide (v24 < (List.length x0 : Int))) with g50 | g50
   ·exact .N Z g50 (.G Z g50 Z (.T g50 Z (.nil (toN (Gm [] (.r Z Z (.r Z Z (.r Z Z (.r Z Z (.c Z (sbb (by simp only [g50, BL])) Z .n))))) (.e Z Z) Z)))))
   ·exact .X Z g50 (.X Z g50 (.E g50 Z (.nil (toN (Gm [] (.r Z Z (.r Z Z (.r Z Z (.r Z Z (.c Z (sbb (by simp only [g50, BL])) Z .n))))) (.e Z Z) Z)))))
 ·intro w46 e_; subst e_; clear h; have h := z49; dsimp only at h; refine W.seq (W.dk (unm 5 [0, 0, 1, 7, 15]) Z (by kernel_rfl) ?_); refine .M Z (.V Z (O.ld (y := .own 1003) ty24 Z Z Z) (.A Z (.A Z (.A Z (.nil ?_))))); refine ⟨by kernel_rfl, by kernel_rfl, ?_⟩; refine W.ret ?_; cases h; exact leaves (.inr Z) Z (.tup _ _ _ _ (cC (.ptr _ _ _ _ _ Z (cC (.own _ _ _ _ Z) (cI .nil))) (cC (.own _ _ _ _ Z) (cI .nil)))) (cN .nil) Z Z

noncomputable def auth_List_Get.f (x0 : auth_List) (x1 : Int) : Option (auth_Member × Bool) :=
 (auth_List_place.f x0 x1).bind fun t1 =>
 if (!t1.2) = true then
 some ((⟨0, [], 0, 0, false⟩ : auth_Member), false)
 else if (0 : Int) ≤ t1.1 ∧ t1.1 < (List.length x0.l : Int) then
 some ((nth x0.l t1.1), true)
 else none
theorem auth_List_Get.ok {x0 : auth_List} {x1 : Int} {r : auth_Member × Bool} (h : auth_List_Get.f x0 x1 = some r) : Pm.Spec prog 18 [.xbox [.xown 32 5 (List.map auth_Member.enc x0.l), .imm (.val (.bool x0.made))], .imm (.val (.int .i64 x1))] (.tup [.agg [.imm (.val (.int .i64 r.1.ID)), .imm (.val (.string (tx r.1.Name))), .imm (.val (.int .i64 r.1.State)), .imm (.val (.int .i64 r.1.Bound)), .imm (.val (.bool r.1.Late))], .imm (.val (.bool r.2))]) [some (.xbox [.xown 32 5 (List.map auth_Member.enc x0.l), .imm (.val (.bool x0.made))]), none] := by
 unfold auth_List_Get.f at h; refine Pm.Spec.of_body Tryz.func18 Z (by kernel_rfl) (L Z) (L Z) ?_; refine W.ghost (σ' := (mkSt [(0, some (.ptr 0 0)), (1, some (.i x1))] [(0, some (.box [.own 1, .b x0.made])), (1, some (.rows 32 5 (List.map auth_Member.enc x0.l) false))] 1000)) (Gives.entry (.c Z (.c Z .n)) (.c Z (.c Z .n))) (W.ghost (σ' := (mkSt [(0, some (.ptr 0 0)), (1, some (.i x1))] [(0, some (.box [.own 1000, .b x0.made])), (1000, some (.rows 32 5 (List.map auth_Member.enc x0.l) false))] 1001)) (Gm [(1000, 1)] (.e Z Z) (.e Z Z) Z) (W.seq (W.pk (.t Z Z (O.alloc z32 Z) (.A Z (.nil (W.seq (W.seq (W.pk (.M Z (.V Z (OpL.eqP Z u23 Z Z Z) ?_))))))))))); refine .nil (W.cond Z (fun q => by cases q) (fun _ => ?_))
 refine W.skip (W.seq ?_); obtain ⟨t1, b2, h⟩ := bnd1 h; refine W.pk (.M Z (.M Z (.C (.tup [.i t1.1, .b t1.2]) [(0, some (.box [.own 1002, .b x0.made])), (1002, some (.rows 32 5 (List.map auth_Member.enc x0.l) false)), (0, none), (1000, none)] 1 (auth_List_place.ok b2) ca34 Z (cC (.ptr _ _ _ _ _ Z (cC (.own _ _ _ _ Z) (cI .nil))) (cI .nil)) Z ?_))); refine .M Z ?_; (iterate 2 refine .V Z (OpL.extract Z Z Z) ?_); refine .A Z (.A Z (.nil (W.seq (W.seq (W.pk (.M Z (.V Z (OpL.unV Z Z Z) (.nil (W.cnd Z h (fun q3 h => ?_) (fun q3 h => ?_))))))))))
 ·refine W.seq (W.pk (.V Z (O.build (out := [.i 0, .s [], .i 0, .i 0, .b false]) bl32 Z Z Z Z (by kernel_rfl)) ?_)); refine .S ty32 Z [.i 0, .s [], .i 0, .i 0, .b false] Z (.A Z (.nil (W.ret ?_))); cases h; exact leaves (.inr Z) Z (.tup _ _ _ _ (cC (.agg _ _ _ _ (cI (cI (cI (cI (cI .nil)))))) (cI .nil))) (cS (.ptr _ _ _ _ _ Z (cC (.own _ _ _ _ Z) (cI .nil))) (cN .nil)) Z Z
 ·refine W.skip (W.seq ?_); obtain ⟨c4, h⟩ := chk h; refine W.pk (.M Z (.V Z (OpL.nilP Z Z Z) (.F fld79_0 Z (.V Z (O.ld (y := .own 1002) ty29 Z Z Z) (.M Z (.V Z (O.idxO sl29 c4 Z Z Z Z) (.V Z (O.ldEN ty32 c4 Z Z Z Z Z) (.S ty32 Z [.i ((nth x0.l t1.1).ID), .s ((nth x0.l t1.1).Name), .i ((nth x0.l t1.1).State), .i ((nth x0.l t1.1).Bound), .b ((nth x0.l t1.1).Late)] Z (.A Z (.nil (W.ret ?_))))))))))); cases h; exact leaves (.inr Z) Z (.tup _ _ _ _ (cC (.agg _ _ _ _ (cI (cI (cI (cI (cI .nil)))))) (cI .nil))) (cS (.ptr _ _ _ _ _ Z (cC (.own _ _ _ _ Z) (cI .nil))) (cN .nil)) Z Z

noncomputable def auth_List_Able.f (x0 : auth_List) (x1 : Int) : Option (Bool) :=
 (auth_List_Get.f x0 x1).bind fun t1 =>
 some (t1.2 && (t1.1.State != 3))
theorem auth_List_Able.ok {x0 : auth_List} {x1 : Int} {r : Bool} (h : auth_List_Able.f x0 x1 = some r) : Pm.Spec prog 22 [.xbox [.xown 32 5 (List.map auth_Member.enc x0.l), .imm (.val (.bool x0.made))], .imm (.val (.int .i64 x1))] (.imm (.val (.bool r))) [some (.xbox [.xown 32 5 (List.map auth_Member.enc x0.l), .imm (.val (.bool x0.made))]), none] := by
 unfold auth_List_Able.f at h; refine Pm.Spec.of_body Tryz.func22 Z (by kernel_rfl) (L Z) (L Z) ?_; refine W.ghost (σ' := (mkSt [(0, some (.ptr 0 0)), (1, some (.i x1))] [(0, some (.box [.own 1, .b x0.made])), (1, some (.rows 32 5 (List.map auth_Member.enc x0.l) false))] 1000)) (Gives.entry (.c Z (.c Z .n)) (.c Z (.c Z .n))) (W.ghost (σ' := (mkSt [(0, some (.ptr 0 0)), (1, some (.i x1))] [(0, some (.box [.own 1000, .b x0.made])), (1000, some (.rows 32 5 (List.map auth_Member.enc x0.l) false))] 1001)) (Gm [(1000, 1)] (.e Z Z) (.e Z Z) Z) (W.seq (W.pk (.A Z (.nil (W.seq ?_)))))); obtain ⟨t1, b2, h⟩ := bnd1 h; refine W.pk (.M Z (.M Z (.C (.tup [.agg (auth_Member.av t1.1), .b t1.2]) [(0, some (.box [.own 1001, .b x0.made])), (1001, some (.rows 32 5 (List.map auth_Member.enc x0.l) false)), (0, none), (1000, none)] 1 (auth_List_Get.ok b2) ca18 Z (cC (.ptr _ _ _ _ _ Z (cC (.own _ _ _ _ Z) (cI .nil))) (cI .nil)) Z ?_))); refine .M Z ?_; (iterate 2 refine .V Z (OpL.extract Z Z Z) ?_); refine .t Z Z (O.alloc z32 Z) (.S ty32 Z [.i t1.1.ID, .s t1.1.Name, .i t1.1.State, .i t1.1.Bound, .b t1.1.Late] Z (.A Z (.nil (W.seq (W.fork (mkSt [(4, some (.b (t1.2 && (t1.1.State != 3))))] [(0, some (.box [.own 1001, .b x0.made])), (1001, some (.rows 32 5 (List.map auth_Member.enc x0.l) false))] 1003) ?_ ?_)))))
 ·refine W.ret ?_; cases h; exact leaves (.inr Z) Z (.imm _) (cS (.ptr _ _ _ _ _ Z (cC (.own _ _ _ _ Z) (cI .nil))) (cN .nil)) Z Z
 ·clear h; refine W.pk (.M Z (.M Z ?_)); rcases tf t1.2 with g3 | g3
  ·exact .H fld32_2 Z g3 Z (.U Z g3 (O.ld (y := .i t1.1.State) ty3 Z Z Z) (.G Z g3 Z (.T g3 Z (.A Z (.nil (toN (Gm [] (.c Z (sbb (by simp only [g3, BL])) Z .n) (.e Z Z) Z)))))))
  ·exact .X Z g3 (.X Z g3 (.X Z g3 (.E g3 Z (.A Z (.nil (toN (Gm [] (.c Z (sbb (by simp only [g3, BL])) Z .n) (.e Z Z) Z)))))))

noncomputable def lombardlaw30_awake.f  : Option (Bool) :=
 (auth_New.f).bind fun t1 =>
 (auth_List_Join.f t1 1 [77, 195, 188, 108, 108, 101, 114]).bind fun t3 =>
 (if (t3.1 == 0) = true then auth_List_Join.f t3.2 2 [77, 195, 156, 76, 76, 69, 82] else some (default, t3.2)).bind fun t5 =>
 (if ((t3.1 == 0) && (t5.1 == 7)) = true then auth_List_Able.f t5.2 1 else some default).bind fun t7 =>
 some (((t3.1 == 0) && (t5.1 == 7)) && t7)
theorem lombardlaw30_awake.ok  {r : Bool} (h : lombardlaw30_awake.f  = some r) : Pm.Spec prog 9 [] (.imm (.val (.bool r))) [] := by
 unfold lombardlaw30_awake.f at h; refine Pm.Spec.of_body Tryz.func9 Z (by kernel_rfl) (L Z) (L Z) ?_; refine W.ghost (σ' := (mkSt [] [] 1000)) (Gives.entry .n .n) (W.seq (W.pk (.A Z (.nil (W.seq ?_))))); obtain ⟨t1, b2, h⟩ := bnd1 h; refine W.pk (.C (.ptr 1000 0) [(1000, some (.box [.own 1001, .b t1.made])), (1001, some (.rows 32 5 (List.map auth_Member.enc t1.l) false))] 2 (auth_New.ok b2) ca29 Z .nil Z ?_); refine .A Z (.nil (W.seq ?_)); obtain ⟨t3, b4, h⟩ := bnd1 h; obtain ⟨t5, b6, h⟩ := bnd1 h; obtain ⟨t7, b8, h⟩ := bnd1 h; refine W.fork (mkSt [(0, some (.b (((t3.1 == 0) && (t5.1 == 7)) && t7)))] [] 1005) ?_ ?_
 ·refine W.ret ?_; cases h; exact leaves (.inr Z) Z (.imm _) .nil Z Z
 ·clear h; refine W.pk (.M Z (.C (.i t3.1) [(1000, some (.box [.own 1002, .b t3.2.made])), (1002, some (.rows 32 5 (List.map auth_Member.enc t3.2.l) false)), (1000, none), (1001, none)] 1 (auth_List_Join.ok b4) ca13 Z (cC (.ptr _ _ _ _ _ Z (cC (.own _ _ _ _ Z) (cI .nil))) (cI (cI .nil))) Z ?_)); refine .B Z (.M Z ?_); rcases tf (t3.1 == 0) with g9 | g9
  ·refine .N Z g9 (.call (.i t5.1) [(1000, some (.box [.own 1003, .b t5.2.made])), (1003, some (.rows 32 5 (List.map auth_Member.enc t5.2.l) false)), (1000, none), (1002, none)] 1 (auth_List_Join.ok ((if_pos (by simp only [g9, BL])).symm.trans b6)) Z (met Z Z Z g9) Z ca13 Z Z (cC (.ptr _ _ _ _ _ Z (cC (.own _ _ _ _ Z) (cI .nil))) (cI (cI .nil))) Z Z Z Z Z ?_); refine .G Z g9 Z (.T g9 Z (.M Z ?_)); rcases tf (t5.1 == 7) with g10 | g10
   ·refine .N Z g10 (.call (.b t7) [(1000, some (.box [.own 1004, .b t5.2.made])), (1004, some (.rows 32 5 (List.map auth_Member.enc t5.2.l) false)), (1000, none), (1003, none)] 1 (auth_List_Able.ok ((if_pos (by first | (simp only [g9, g10, BL]; done) | (repeat (first | rw [g9] | rw [g10])) <;> simp only [BL])).symm.trans b8)) Z (met Z Z Z g10) Z ca22 Z Z (cC (.ptr _ _ _ _ _ Z (cC (.own _ _ _ _ Z) (cI .nil))) (cI .nil)) Z Z Z Z Z ?_); exact .T g10 Z (.A Z (.nil (toN (Gm [] (.c Z (sbb (by first | (simp only [g9, g10, BL]; done) | (repeat (first | rw [g9] | rw [g10])) <;> simp only [BL])) Z .n) .n Z))))
   ·exact .X Z g10 (.X Z g10 (.E g10 Z (.A Z (.nil (toN (Gm [] (.c Z (sbb (by first | (simp only [g9, g10, BL]; done) | (repeat (first | rw [g9] | rw [g10])) <;> simp only [BL])) Z .n) .n Z))))))
  ·refine .X Z g9 (.X Z g9 (.X Z g9 (.E g9 Z (.M Z (.X Z Z (.X Z Z (.E Z Z (.A Z (.nil ?_))))))))); have e11 : t5 = (default, t3.2) := (Option.some.inj ((if_neg (by simp only [g9, BL, Bool.true_eq_false, Bool.false_eq_true, false_and, and_false, true_and, and_true, not_false_eq_true])).symm.trans b6)).symm; exact toN (Gm [] (.c Z (sbb (by first | (simp only [g9, e11, BL]; done) | (repeat (first | rw [g9] | rw [e11])) <;> simp only [BL])) Z .n) .n Z)

noncomputable def lombardlaw30_AuthPlays.f (x0 : List lombardlaw30_Act) : Option (Bool) :=
 (lombardlaw30_filled.f x0).bind fun t1 =>
 (if t1.2.2 = true then lombardlaw30_awake.f else some default).bind fun t3 =>
 some (t1.2.2 && t3)
theorem lombardlaw30_AuthPlays.ok {x0 : List lombardlaw30_Act} {r : Bool} (h : lombardlaw30_AuthPlays.f x0 = some r) : Pm.Spec prog 3 [.imm (.row 5 (List.map lombardlaw30_Act.enc x0))] (.imm (.val (.bool r))) [none] := by
 unfold lombardlaw30_AuthPlays.f at h; refine Pm.Spec.of_body Tryz.func3 Z (by kernel_rfl) (L Z) (L Z) ?_; refine W.ghost (σ' := (mkSt [(0, some (.imm (.row 5 (List.map lombardlaw30_Act.enc x0))))] [] 1000)) (Gives.entry (.c Z .n) .n) (W.seq (W.pk (.A Z (.nil (W.seq ?_))))); obtain ⟨t1, b2, h⟩ := bnd1 h; refine W.pk (.M Z (.C (.tup [.ptr 1000 0, .own 1002, .b t1.2.2]) [(1000, some (.box [.own 1001, .b t1.1.made])), (1001, some (.rows 32 5 (List.map auth_Member.enc t1.1.l) false)), (1002, some (.rows 31 5 (List.map lombardref30_Member.enc t1.2.1) false))] 3 (lombardlaw30_filled.ok b2) ca8 Z (cI .nil) Z ?_)); refine .M Z ?_; (iterate 3 refine .V Z (OpL.extract Z Z Z) ?_); refine .A Z (.A Z (.A Z (.nil (W.seq ?_)))); obtain ⟨t3, b4, h⟩ := bnd1 h; refine W.fork (mkSt [(2, some (.b (t1.2.2 && t3)))] [] 1003) ?_ ?_
 ·refine W.ret ?_; cases h; exact lv Z Z
 ·clear h; refine W.pk (.M Z (.M Z ?_)); rcases tf t1.2.2 with g5 | g5
  ·refine .call (.b t3) [] 0 (lombardlaw30_awake.ok ((if_pos (by simp only [g5, BL])).symm.trans b4)) Z (met Z Z Z g5) Z ca9 Z Z .nil Z Z Z Z Z ?_; exact .T g5 Z (.A Z (.nil (toN (Gm [] (.c Z (sbb (by simp only [g5, BL])) Z .n) .n Z))))
  ·exact .X Z g5 (.E g5 Z (.A Z (.nil (toN (Gm [] (.c Z (sbb (by simp only [g5, BL])) Z .n) .n Z)))))

noncomputable def auth_Load.b0 (x0 : List auth_Member) (v19 : Int) (v20 : Bool) (v21 : List auth_Member) : Option ((Int × Bool × (List auth_Member)) ⊕ (((Option auth_List) × Int) ⊕ (Bool × (List auth_Member)))) :=
 if (decide (v19 < (List.length x0 : Int))) = true then
 if (0 : Int) ≤ v19 ∧ v19 < (List.length x0 : Int) then
 if ((decide (v19 > 0)) = true → (0 : Int) ≤ (IntKind.wrap .i64 (v19 - 1)) ∧ (IntKind.wrap .i64 (v19 - 1)) < (List.length x0 : Int)) then
 if ((((((decide (v19 > 0)) && (decide (((nth x0 v19).ID) ≤ ((nth x0 (IntKind.wrap .i64 (v19 - 1))).ID)))) || (decide (((nth x0 v19).State) < 1))) || (decide (((nth x0 v19).State) > 3))) || (decide (((nth x0 v19).Bound) < 0))) || (decide (((nth x0 v19).Bound) > 1125899906842624))) = true then
 some (.inr (.inl (none, 1)))
 else (auth_List_Join.f (⟨v21, v20⟩ : auth_List) ((nth x0 v19).ID) ((nth x0 v19).Name)).bind fun t70 =>
 if (t70.1 != 0) = true then
 some (.inr (.inl (none, t70.1)))
 else if (0 : Int) ≤ (IntKind.wrap .i64 ((List.length t70.2.l : Int) - 1)) ∧ (IntKind.wrap .i64 ((List.length t70.2.l : Int) - 1)) < (List.length t70.2.l : Int) then
 some (.inl ((IntKind.wrap .i64 (v19 + 1)), t70.2.made, (List.set t70.2.l (Int.toNat (IntKind.wrap .i64 ((List.length t70.2.l : Int) - 1))) (nth x0 v19))))
 else none
 else none
 else none
 else some (.inr (.inr (v20, v21)))
noncomputable def auth_Load.r0 (x0 : List auth_Member) (s : Int × Bool × (List auth_Member)) : Option ((Int × Bool × (List auth_Member)) ⊕ (((Option auth_List) × Int) ⊕ (Bool × (List auth_Member)))) := auth_Load.b0 x0 s.1 s.2.1 s.2.2
noncomputable def auth_Load.f (x0 : List auth_Member) : Option ((Option auth_List) × Int) :=
 (auth_New.f).bind fun t1 =>
 (loop (auth_Load.r0 x0) (0, t1.made, t1.l)).bind fun o55 =>
 match o55 with
 | .inl r74 => some r74
 | .inr w54 =>
 some ((some (⟨w54.2, w54.1⟩ : auth_List)), 0)
theorem auth_Load.ok {x0 : List auth_Member} {r : (Option auth_List) × Int} (h : auth_Load.f x0 = some r) : Pm.Spec prog 10 [.xown 32 5 (List.map auth_Member.enc x0)] (.tup [(match (generalizing := false) r.1 with | none => .imm (.val (.pointer none)) | some v_ => .xbox [.xown 32 5 (List.map auth_Member.enc v_.l), .imm (.val (.bool v_.made))]), .imm (.val (.int .i64 r.2))]) [some (.xown 32 5 (List.map auth_Member.enc x0))] := by
 unfold auth_Load.f at h; refine Pm.Spec.of_body Tryz.func10 Z (by kernel_rfl) (L Z) (L Z) ?_; refine W.ghost (σ' := (mkSt [(0, some (.own 0))] [(0, some (.rows 32 5 (List.map auth_Member.enc x0) false))] 1000)) (Gives.entry (.c Z .n) (.c Z .n)) (W.seq (W.pk (.A Z (.A Z (.nil (W.seq ?_)))))); obtain ⟨t1, b2, h⟩ := bnd1 h; refine W.pk (.C (.ptr 1000 0) [(1000, some (.box [.own 1001, .b t1.made])), (1001, some (.rows 32 5 (List.map auth_Member.enc t1.l) false))] 2 (auth_New.ok b2) ca29 Z .nil Z ?_); refine .A Z (.nil (W.seq (W.seq (W.pk (.M Z (.V Z (O.lenO sl29 Z Z Z) (.M Z (.nil ?_)))))))); obtain ⟨o55, b56, z57⟩ := bnd1 h; refine W.fork2 (out := o55) (fun (w54 : Bool × (List auth_Member)) => mkSt [(4, some (.ptr 1000 0))] [(0, some (.rows 32 5 (List.map auth_Member.enc x0) false)), (1000, some (.box [.own 1001, .b w54.1])), (1001, some (.rows 32 5 (List.map auth_Member.enc w54.2) false))] 1002) ?_ ?_
 ·clear h; refine W.block (W.loopF (fun (s_ : Int × Bool × (List auth_Member)) => mkSt [(0, some (.own 0)), (4, some (.ptr 1000 0)), (9, some (.own 0)), (10, some (.i (List.length x0 : Int))), (11, some (.i s_.1))] [(0, some (.rows 32 5 (List.map auth_Member.enc x0) false)), (1000, some (.box [.own 1001, .b s_.2.1])), (1001, some (.rows 32 5 (List.map auth_Member.enc s_.2.2) false))] 1002) b56 (Gm [] (.e Z Z) (.e Z Z) Z) ?_); rintro ⟨v19, v20, v21⟩ s_ hr; have h : auth_Load.b0 x0 v19 v20 v21 = some s_ := hr; unfold auth_Load.b0 at h; refine W.seq (W.pk (.B Z (.nil (W.seq (W.cnd Z h (fun q58 h => ?_) (fun q58 h => ?_))))))
  ·refine W.skip (W.seq (W.block (W.seq ?_))); obtain ⟨c59, h⟩ := chk h; refine W.pk (.M Z (.V Z (O.idxO sl29 c59 Z Z Z Z) (.V Z (O.ldEN ty32 c59 Z Z Z Z Z) (.t Z Z (O.alloc z32 Z) (.A Z (.S ty32 Z [.i ((nth x0 v19).ID), .s ((nth x0 v19).Name), .i ((nth x0 v19).State), .i ((nth x0 v19).Bound), .b ((nth x0 v19).Late)] Z (.nil (W.seq (W.seq ?_))))))))); obtain ⟨c60, h⟩ := chk h; refine W.fork (mkSt [(0, some (.own 0)), (4, some (.ptr 1000 0)), (6, some (.ptr 1002 0)), (9, some (.own 0)), (10, some (.i (List.length x0 : Int))), (11, some (.i v19)), (48, some (.b ((((((decide (v19 > 0)) && (decide (((nth x0 v19).ID) ≤ ((nth x0 (IntKind.wrap .i64 (v19 - 1))).ID)))) || (decide (((nth x0 v19).State) < 1))) || (decide (((nth x0 v19).State) > 3))) || (decide (((nth x0 v19).Bound) < 0))) || (decide (((nth x0 v19).Bound) > 1125899906842624)))))] [(0, some (.rows 32 5 (List.map auth_Member.enc x0) false)), (1000, some (.box [.own 1001, .b v20])), (1001, some (.rows 32 5 (List.map auth_Member.enc v21) false)), (1002, some (.box [.i ((nth x0 v19).ID), .s ((nth x0 v19).Name), .i ((nth x0 v19).State), .i ((nth x0 v19).Bound), .b ((nth x0 v19).Late)]))] 1003) ?_ ?_
   ·refine W.cnd Z h (fun q69 h => ?_) (fun q69 h => ?_)
    ·refine W.seq (W.pk (.A Z (.A Z (.nil (W.ret ?_))))); cases h; refine rdR fun e_ => ?_; subst e_; have h := z57; dsimp only at h; refine fkR ?_; cases h; exact leaves (.inr Z) Z (.tup _ _ _ _ (cI (cI .nil))) (cS (.own _ _ _ _ Z) .nil) Z Z
    ·refine W.skip (W.seq (W.seq ?_)); obtain ⟨t70, b71, h⟩ := bnd1 h; refine W.pk (.M Z (.F fld32_0 Z (.V Z (O.ld (y := .i ((nth x0 v19).ID)) ty3 Z Z Z) (.F fld32_1 Z (.V Z (O.ld (y := .s ((nth x0 v19).Name)) ty9 Z Z Z) (.C (.i t70.1) [(1000, some (.box [.own 1003, .b t70.2.made])), (1003, some (.rows 32 5 (List.map auth_Member.enc t70.2.l) false)), (1000, none), (1001, none)] 1 (auth_List_Join.ok b71) ca13 Z (cC (.ptr _ _ _ _ _ Z (cC (.own _ _ _ _ Z) (cI .nil))) (cI (cI .nil))) Z ?_)))))); refine .A Z (.nil (W.seq (W.pk (.M Z (.B Z (.nil (W.cnd Z h (fun q72 h => ?_) (fun q72 h => ?_))))))))
     ·refine W.seq (W.pk (.M Z (.A Z (.A Z (.nil (W.ret ?_)))))); cases h; refine rdR fun e_ => ?_; subst e_; have h := z57; dsimp only at h; refine fkR ?_; cases h; exact leaves (.inr Z) Z (.tup _ _ _ _ (cI (cI .nil))) (cS (.own _ _ _ _ Z) .nil) Z Z
     ·refine W.skip ?_; obtain ⟨c73, h⟩ := chk h; refine W.dk (unm 13 [0, 1, 3, 7, 0, 16, 48, 112, 240, 496, 0, 2047, 4095]) Z (by kernel_rfl) ?_; refine .M Z (.V Z (OpL.nilP Z Z Z) (.F fld79_0 Z (.V Z (O.ld (y := .own 1003) ty29 Z Z Z) (.M Z (.V Z (OpL.nilP Z Z Z) (.F fld79_0 Z (.V Z (O.ld (y := .own 1003) ty29 Z Z Z) (.V Z (O.lenO sl29 Z Z Z) (.B Z (.V Z (O.ldN ty32 Z Z Z) (.V Z (O.idxO sl29 c73 Z Z Z Z) ?_))))))))))); refine .s Z Z (O.stE (x' := (nth x0 v19)) ty32 c73 Z Z Z Z Z Z Z Z Z Z Z) (.nil ?_); refine ⟨by kernel_rfl, by kernel_rfl, ?_⟩; refine W.pk (.B Z (.M Z (.nil ?_))); cases h; exact rdN (Gm [(1001, 1003)] (.e Z Z) (.e Z Z) Z)
   ·clear h; refine W.dk (unm 33 [0, 1, 3, 7, 15, 7, 7, 71, 231, 487, 999, 2047, 4095, 8191, 16383, 32767, 65535, 131071, 262143, 524287, 1048575, 2097151, 4194303, 8388607, 16777215, 33554431, 67108863, 134217727, 268435455, 536870911, 1073741823, 2147483647, 4294967295]) Z (by kernel_rfl) ?_; refine .M Z (.B Z (.M Z ?_)); rcases tf (decide (v19 > 0)) with g61 | g61
    ·refine .H fld32_0 Z g61 Z (.U Z g61 (O.ld (y := .i ((nth x0 v19).ID)) ty3 Z Z Z) (.N Z g61 (.N Z g61 (.G Z g61 Z (.U Z g61 (O.idxO sl29 (c60 (by simp only [g61, BL])) Z Z Z Z) ?_))))); refine .H fld32_0 Z g61 Z (.U Z g61 (O.ldE (c := (.val (.int .i64 ((nth x0 (IntKind.wrap .i64 (v19 - 1))).ID)))) ty3 (c60 (by simp only [g61, BL])) Z Z Z Z Z) ?_); refine .G Z g61 Z (.T g61 Z (.M Z ?_)); rcases tf (decide (((nth x0 v19).ID) ≤ ((nth x0 (IntKind.wrap .i64 (v19 - 1))).ID))) with g62 | g62
     ·(iterate 3 refine .X Z g62 ?_); refine .T g62 Z (.M Z (.X Z Z (.X Z Z (.X Z Z (.T Z Z (.M Z (.X Z Z (.X Z Z (.X Z Z (.T Z Z (.M Z ?_))))))))))); refine .X Z Z (.X Z Z (.X Z Z (.T Z Z (.nil ?_)))); refine ⟨by kernel_rfl, by kernel_rfl, ?_⟩; exact toN (Gm [] (.r Z Z (.r Z Z (.r Z Z (.r Z Z (.r Z Z (.r Z Z (.c Z (sbb (by simp only [g61, g62, BL])) Z .n))))))) (.e Z Z) Z)
     ·refine .H fld32_2 Z g62 Z (.U Z g62 (O.ld (y := .i ((nth x0 v19).State)) ty3 Z Z Z) (.G Z g62 Z (.E g62 Z (.M Z ?_)))); rcases tf (decide (((nth x0 v19).State) < 1)) with g63 | g63
      ·(iterate 3 refine .X Z g63 ?_); refine .T g63 Z (.M Z (.X Z Z (.X Z Z (.X Z Z (.T Z Z (.M Z (.X Z Z (.X Z Z (.X Z Z (.T Z Z (.nil ?_))))))))))); refine ⟨by kernel_rfl, by kernel_rfl, ?_⟩; exact toN (Gm [] (.r Z Z (.r Z Z (.r Z Z (.r Z Z (.r Z Z (.r Z Z (.c Z (sbb (by simp only [g61, g62, g63, BL])) Z .n))))))) (.e Z Z) Z)
      ·refine .H fld32_2 Z g63 Z (.U Z g63 (O.ld (y := .i ((nth x0 v19).State)) ty3 Z Z Z) (.G Z g63 Z (.E g63 Z (.M Z ?_)))); rcases tf (decide (((nth x0 v19).State) > 3)) with g64 | g64
       ·(iterate 3 refine .X Z g64 ?_); refine .T g64 Z (.M Z (.X Z Z (.X Z Z (.X Z Z (.T Z Z (.nil ?_)))))); refine ⟨by kernel_rfl, by kernel_rfl, ?_⟩; exact toN (Gm [] (.r Z Z (.r Z Z (.r Z Z (.r Z Z (.r Z Z (.r Z Z (.c Z (sbb (by simp only [g61, g62, g63, g64, BL])) Z .n))))))) (.e Z Z) Z)
       ·refine .H fld32_3 Z g64 Z (.U Z g64 (O.ld (y := .i ((nth x0 v19).Bound)) ty3 Z Z Z) (.G Z g64 Z (.E g64 Z (.M Z ?_)))); rcases tf (decide (((nth x0 v19).Bound) < 0)) with g65 | g65
        ·(iterate 3 refine .X Z g65 ?_); refine .T g65 Z (.nil ?_); refine ⟨by kernel_rfl, by kernel_rfl, ?_⟩; exact toN (Gm [] (.r Z Z (.r Z Z (.r Z Z (.r Z Z (.r Z Z (.r Z Z (.c Z (sbb (by simp only [g61, g62, g63, g64, g65, BL])) Z .n))))))) (.e Z Z) Z)
        ·refine .H fld32_3 Z g65 Z (.U Z g65 (O.ld (y := .i ((nth x0 v19).Bound)) ty3 Z Z Z) (.G Z g65 Z (.E g65 Z (.nil ?_)))); refine ⟨by kernel_rfl, by kernel_rfl, ?_⟩; exact toN (Gm [] (.r Z Z (.r Z Z (.r Z Z (.r Z Z (.r Z Z (.r Z Z (.c Z (sbb (by simp only [g61, g62, g63, g64, g65, BL])) Z .n))))))) (.e Z Z) Z)
    ·(iterate 9 refine .X Z g61 ?_); refine .E g61 Z (.M Z (.H fld32_2 Z Z Z (.U Z Z (O.ld (y := .i ((nth x0 v19).State)) ty3 Z Z Z) (.G Z Z Z (.E Z Z (.M Z ?_)))))); rcases tf (decide (((nth x0 v19).State) < 1)) with g66 | g66
     ·(iterate 3 refine .X Z g66 ?_); refine .T g66 Z (.M Z (.X Z Z (.X Z Z (.X Z Z (.T Z Z (.M Z (.X Z Z (.X Z Z (.X Z Z (.T Z Z (.nil ?_))))))))))); refine ⟨by kernel_rfl, by kernel_rfl, ?_⟩; exact toN (Gm [] (.r Z Z (.r Z Z (.r Z Z (.r Z Z (.r Z Z (.r Z Z (.c Z (sbb (by simp only [g61, g66, BL])) Z .n))))))) (.e Z Z) Z)
     ·refine .H fld32_2 Z g66 Z (.U Z g66 (O.ld (y := .i ((nth x0 v19).State)) ty3 Z Z Z) (.G Z g66 Z (.E g66 Z (.M Z ?_)))); rcases tf (decide (((nth x0 v19).State) > 3)) with g67 | g67
      ·(iterate 3 refine .X Z g67 ?_); refine .T g67 Z (.M Z (.X Z Z (.X Z Z (.X Z Z (.T Z Z (.nil ?_)))))); refine ⟨by kernel_rfl, by kernel_rfl, ?_⟩; exact toN (Gm [] (.r Z Z (.r Z Z (.r Z Z (.r Z Z (.r Z Z (.r Z Z (.c Z (sbb (by simp only [g61, g66, g67, BL])) Z .n))))))) (.e Z Z) Z)
      ·refine .H fld32_3 Z g67 Z (.U Z g67 (O.ld (y := .i ((nth x0 v19).Bound)) ty3 Z Z Z) (.G Z g67 Z (.E g67 Z (.M Z ?_)))); rcases tf (decide (((nth x0 v19).Bound) < 0)) with g68 | g68
       ·(iterate 3 refine .X Z g68 ?_); refine .T g68 Z (.nil ?_); refine ⟨by kernel_rfl, by kernel_rfl, ?_⟩; exact toN (Gm [] (.r Z Z (.r Z Z (.r Z Z (.r Z Z (.r Z Z (.r Z Z (.c Z (sbb (by simp only [g61, g66, g67, g68, BL])) Z .n))))))) (.e Z Z) Z)
       ·refine .H fld32_3 Z g68 Z (.U Z g68 (O.ld (y := .i ((nth x0 v19).Bound)) ty3 Z Z Z) (.G Z g68 Z (.E g68 Z (.nil ?_)))); refine ⟨by kernel_rfl, by kernel_rfl, ?_⟩; exact toN (Gm [] (.r Z Z (.r Z Z (.r Z Z (.r Z Z (.r Z Z (.r Z Z (.c Z (sbb (by simp only [g61, g66, g67, g68, BL])) Z .n))))))) (.e Z Z) Z)
  ·refine W.exit ?_; cases h; refine rdX fun e_ => ?_; subst e_; (repeat with_reducible refine thru ?_); exact hit (fkN (Gm [] (.r Z Z .n) (.e Z Z) Z))
 ·intro w54 e_; subst e_; clear h; have h := z57; dsimp only at h; refine W.seq (W.pk (.M Z (.A Z (.A Z (.nil (W.ret ?_)))))); cases h; exact leaves (.inr Z) Z (.tup _ _ _ _ (cC (.ptr _ _ _ _ _ Z (cC (.own _ _ _ _ Z) (cI .nil))) (cI .nil))) (cS (.own _ _ _ _ Z) .nil) Z Z

theorem lombardref30_Find_v2.ok {x0 : List lombardref30_Member} {x1 : Int} {r : Int} (h : lombardref30_Find.f x0 x1 = some r) : Pm.Spec prog 19 [.imm (.row 5 (List.map lombardref30_Member.enc x0)), .imm (.val (.int .i64 x1))] (.imm (.val (.int .i64 r))) [none, none] := by
 unfold lombardref30_Find.f at h; refine Pm.Spec.of_body Tryz.func19 Z (by kernel_rfl) (L Z) (L Z) ?_; refine W.ghost (σ' := (mkSt [(0, some (.imm (.row 5 (List.map lombardref30_Member.enc x0)))), (1, some (.i x1))] [] 1000)) (Gives.entry (.c Z (.c Z .n)) .n) (W.seq (W.pk (.A Z (.nil (W.seq (W.seq (W.pk (.A Z (.nil ?_))))))))); obtain ⟨o12, b13, z14⟩ := bnd1 h; refine W.fork2 (out := o12) (fun (w11 : Unit) => mkSt [] [] 1000) ?_ ?_
 ·clear h; refine W.block (W.loopF (fun (s_ : Int) => mkSt [(0, some (.imm (.row 5 (List.map lombardref30_Member.enc x0)))), (1, some (.i x1)), (5, some (.i s_))] [] 1000) b13 (Gm [] (.e Z Z) .n Z) ?_); rintro v4 s_ hr; have h : lombardref30_Find.b0 x0 x1 v4 = some s_ := hr; unfold lombardref30_Find.b0 at h; refine W.seq (W.seq (W.pk (.M Z (.M Z (.V Z (O.lenR sl24 Z Z) (.B Z (.nil (W.cnd Z h (fun q15 h => ?_) (fun q15 h => ?_)))))))))
  ·refine W.skip (W.seq (W.block (W.seq ?_))); obtain ⟨c16, h⟩ := chk h; refine W.pk (.M Z (.M Z (.V Z (O.idx sl24 c16 Z Z Z) (.F fld31_0 Z (.V Z (O.ld (y := .i ((nth x0 v4).ID)) ty3 Z Z Z) (.M Z (.B Z (.nil (W.cnd Z h (fun q17 h => ?_) (fun q17 h => ?_))))))))))
   ·refine W.seq (W.pk (.M Z (.A Z (.nil (W.ret ?_))))); cases h; refine rdR fun e_ => ?_; subst e_; have h := z14; dsimp only at h; refine fkR ?_; cases h; exact leaves (.inr Z) Z (.imm _) (cN (cN .nil)) Z Z
   ·refine W.skip (W.pk (.M Z (.B Z (.A Z (.nil ?_))))); cases h; exact rdN (Gm [] (.e Z Z) .n Z)
  ·refine W.exit ?_; cases h; refine rdX fun e_ => ?_; subst e_; (repeat with_reducible refine thru ?_); exact hit (fkN (Gm [] .n .n Z))
 ·intro w11 e_; subst e_; clear h; have h := z14; dsimp only at h; refine W.seq (W.pk (.A Z (.nil (W.ret ?_)))); cases h; exact leaves (.inr Z) Z (.imm _) (cN (cN .nil)) Z Z

theorem lombardref30_Named_v2.ok {x0 : List lombardref30_Member} {x1 : Bs} {r : Int} (h : lombardref30_Named.f x0 x1 = some r) : Pm.Spec prog 21 [.imm (.row 5 (List.map lombardref30_Member.enc x0)), .imm (.val (.string (tx x1)))] (.imm (.val (.int .i64 r))) [none, none] := by
 unfold lombardref30_Named.f at h; refine Pm.Spec.of_body Tryz.func21 Z (by kernel_rfl) (L Z) (L Z) ?_; refine W.ghost (σ' := (mkSt [(0, some (.imm (.row 5 (List.map lombardref30_Member.enc x0)))), (1, some (.s x1))] [] 1000)) (Gives.entry (.c Z (.c Z .n)) .n) (W.seq (W.pk (.A Z (.nil (W.seq (W.seq (W.pk (.A Z (.nil ?_))))))))); obtain ⟨o24, b25, z26⟩ := bnd1 h; refine W.fork2 (out := o24) (fun (w23 : Unit) => mkSt [] [] 1000) ?_ ?_
 ·clear h; refine W.block (W.loopF (fun (s_ : Int) => mkSt [(0, some (.imm (.row 5 (List.map lombardref30_Member.enc x0)))), (1, some (.s x1)), (5, some (.i s_))] [] 1000) b25 (Gm [] (.e Z Z) .n Z) ?_); rintro v8 s_ hr; have h : lombardref30_Named.b0 x0 x1 v8 = some s_ := hr; unfold lombardref30_Named.b0 at h; refine W.seq (W.seq (W.pk (.M Z (.M Z (.V Z (O.lenR sl24 Z Z) (.B Z (.nil (W.cnd Z h (fun q27 h => ?_) (fun q27 h => ?_)))))))))
  ·refine W.skip (W.seq (W.block (W.seq ?_))); obtain ⟨c28, h⟩ := chk h; obtain ⟨t29, b30, h⟩ := bnd1 h; obtain ⟨t31, b32, h⟩ := bnd1 h; refine W.pk (.M Z (.M Z (.V Z (O.idx sl24 c28 Z Z Z) (.F fld31_1 Z (.V Z (O.ld (y := .s ((nth x0 v8).Name)) ty9 Z Z Z) (.C (.s t29) [] 0 (lombardref04_Fold.ok b30) ca27 Z (cI .nil) Z ?_)))))); refine .M Z (.C (.s t31) [] 0 (lombardref04_Fold.ok b32) ca27 Z (cI .nil) Z ?_); refine .V Z (O.cmpS Z Z Z Z) (.nil (W.cnd Z h (fun q33 h => ?_) (fun q33 h => ?_)))
   ·refine W.seq (W.pk (.M Z (.A Z (.nil (W.ret ?_))))); cases h; refine rdR fun e_ => ?_; subst e_; have h := z26; dsimp only at h; refine fkR ?_; cases h; exact leaves (.inr Z) Z (.imm _) (cN (cN .nil)) Z Z
   ·refine W.skip (W.pk (.M Z (.B Z (.A Z (.nil ?_))))); cases h; exact rdN (Gm [] (.e Z Z) .n Z)
  ·refine W.exit ?_; cases h; refine rdX fun e_ => ?_; subst e_; (repeat with_reducible refine thru ?_); exact hit (fkN (Gm [] .n .n Z))
 ·intro w23 e_; subst e_; clear h; have h := z26; dsimp only at h; refine W.seq (W.pk (.A Z (.nil (W.ret ?_)))); cases h; exact leaves (.inr Z) Z (.imm _) (cN (cN .nil)) Z Z

theorem lombardref30_Join_v2.ok {x0 : List lombardref30_Member} {x1 : Int} {x2 : Bs} {r : (List lombardref30_Member) × Int} (h : lombardref30_Join.f x0 x1 x2 = some r) : Pm.Spec prog 31 [.imm (.row 5 (List.map lombardref30_Member.enc x0)), .imm (.val (.int .i64 x1)), .imm (.val (.string (tx x2)))] (.tup [.imm (.row 5 (List.map lombardref30_Member.enc r.1)), .imm (.val (.int .i64 r.2))]) [none, none, none] := by
 unfold lombardref30_Join.f at h; refine Pm.Spec.of_body Tryz.func31 Z (by kernel_rfl) (L Z) (L Z) ?_; refine W.ghost (σ' := (mkSt [(0, some (.imm (.row 5 (List.map lombardref30_Member.enc x0)))), (1, some (.i x1)), (2, some (.s x2))] [] 1000)) (Gives.entry (.c Z (.c Z (.c Z .n))) .n) (W.seq (W.pk (.A Z (.A Z (.nil (W.seq (W.seq ?_))))))); obtain ⟨t1, b2, h⟩ := bnd1 h; refine W.pk (.M Z (.M Z (.V Z (O.build (out := [.i 1, .i x1, .s x2, .s [], .i 0, .i 0, .i 0, .s [], .i 0, .i 0, .s [], .i 0, .i 0, .i 0, .imm (.val (.slice none 0 0)), .i 0, .i 0, .imm (.val (.slice none 0 0)), .imm (.val (.slice none 0 0)), .i 0, .s [], .i 0, .i 0, .i 0, .i 0, .i 0, .i 0, .i 0, .i 0, .i 0, .s [], .i 0, .imm (.val (.slice none 0 0)), .i 0, .b false, .i 0]) bl64 Z Z Z Z (by kernel_rfl)) ?_))); refine .C (.i t1) [] 0 (lombardref10_Check.ok b2) ca44 Z (cC (.agg _ _ _ _ (cI (cI (cI (cI (cI (cI (cI (cI (cI (cI (cI (cI (cI (cI (cC (.nilrow _) (cI (cI (cC (.nilrow _) (cC (.nilrow _) (cI (cI (cI (cI (cI (cI (cI (cI (cI (cI (cI (cI (cI (cC (.nilrow _) (cI (cI (cI .nil))))))))))))))))))))))))))))))))))))) .nil) Z ?_; refine .A Z (.nil (W.seq (W.pk (.M Z (.B Z (.nil (W.cnd Z h (fun q3 h => ?_) (fun q3 h => ?_))))))))
 ·refine W.seq (W.pk (.M Z (.M Z (.A Z (.A Z (.nil (W.ret ?_))))))); cases h; exact leaves (.inr Z) Z (.tup _ _ _ _ (cI (cI .nil))) (cN (cN (cN .nil))) Z Z
 ·refine W.skip (W.seq (W.seq ?_)); obtain ⟨t4, b5, h⟩ := bnd1 h; obtain ⟨t6, b7, h⟩ := bnd1 h; refine W.fork (mkSt [(0, some (.imm (.row 5 (List.map lombardref30_Member.enc x0)))), (1, some (.i x1)), (2, some (.s x2)), (29, some (.b ((decide (t4 ≥ 0)) || (decide (t6 ≥ 0)))))] [] 1000) ?_ ?_
  ·refine W.cnd Z h (fun q9 h => ?_) (fun q9 h => ?_)
   ·refine W.seq (W.pk (.M Z (.A Z (.A Z (.nil (W.ret ?_)))))); cases h; exact leaves (.inr Z) Z (.tup _ _ _ _ (cI (cI .nil))) (cN (cN (cN .nil))) Z Z
   ·refine W.skip (W.seq (W.pk (.A Z (.nil (W.seq (W.pk (.A Z (.nil (W.seq (W.seq (W.pk ?_))))))))))); refine .A Z (.nil (W.ghost (Gives.mintS 9 31 5 Z) ?_)); obtain ⟨o67, b68, h⟩ := bnd1 h; refine W.fork (mkSt [(1, some (.i x1)), (2, some (.s x2)), (9, some (.own 1000)), (10, some (.b o67.1))] [(1000, some (.rows 31 5 (List.map lombardref30_Member.enc o67.2) false))] 1001) ?_ ?_
    ·refine W.seq (W.seq (W.pk (.M Z (.V Z (OpL.unV Z Z Z) (.nil (W.cnd Z h (fun q83 h => ?_) (fun q83 h => ?_)))))))
     ·obtain ⟨c84, h⟩ := chk h; refine W.pk (.M Z (.M Z (.M Z (.V Z (O.build (out := [.i x1, .s x2, .i 1, .i 0, .b false]) bl31 Z Z Z Z (by kernel_rfl)) ?_)))); refine .t Z Z (O.lit (enc := lombardref30_Member.enc) (l := [(⟨x1, x2, 1, 0, false⟩ : lombardref30_Member)]) sl24 Z Z Z Z Z Z Z Z Z) (.t Z Z (O.appO sl24 lombardref30_Member.ok c84 Z Z Z Z Z) (.A Z (.nil (W.seq (W.pk (.M Z (.A Z (.A Z (.nil (W.ret ?_)))))))))); cases h; exact leaves (.inr Z) Z (.tup _ _ _ _ (cC (.lend _ _ _ _ _ Z) (cI .nil))) (cN (cN (cN .nil))) Z Z
     ·refine W.skip (W.seq (W.pk (.M Z (.A Z (.A Z (.nil (W.ret ?_))))))); cases h; exact leaves (.inr Z) Z (.tup _ _ _ _ (cC (.lend _ _ _ _ _ Z) (cI .nil))) (cN (cN (cN .nil))) Z Z
    ·clear h; refine W.block (W.loopF (fun (s_ : Bool × Int × (List lombardref30_Member)) => mkSt [(0, some (.imm (.row 5 (List.map lombardref30_Member.enc x0)))), (1, some (.i x1)), (2, some (.s x2)), (9, some (.own 1000)), (10, some (.b s_.1)), (11, some (.i s_.2.1))] [(1000, some (.rows 31 5 (List.map lombardref30_Member.enc s_.2.2) false))] 1001) b68 (Gm [] (.e Z Z) (.r Z Z Z .n) Z) ?_); rintro ⟨v37, v38, v39⟩ s_ hr; have h : lombardref30_Join.b0 x0 x1 x2 v37 v38 v39 = some s_ := hr; unfold lombardref30_Join.b0 at h; refine W.seq (W.seq (W.pk (.M Z (.M Z (.V Z (O.lenR sl24 Z Z) (.B Z (.nil (W.cnd Z h (fun q70 h => ?_) (fun q70 h => ?_)))))))))
     ·refine W.skip (W.seq (W.block (W.seq (W.seq ?_)))); obtain ⟨c71, h⟩ := chk h; refine W.fork (mkSt [(0, some (.imm (.row 5 (List.map lombardref30_Member.enc x0)))), (1, some (.i x1)), (2, some (.s x2)), (9, some (.own 1000)), (10, some (.b v37)), (11, some (.i v38)), (47, some (.b ((!v37) && (decide (((nth x0 v38).ID) > x1)))))] [(1000, some (.rows 31 5 (List.map lombardref30_Member.enc v39) false))] 1001) ?_ ?_
      ·obtain ⟨o77, b78, h⟩ := bnd1 h; refine W.fork (mkSt [(0, some (.imm (.row 5 (List.map lombardref30_Member.enc x0)))), (1, some (.i x1)), (2, some (.s x2)), (9, some (.own 1003)), (10, some (.b o77.1)), (11, some (.i v38))] [(1003, some (.rows 31 5 (List.map lombardref30_Member.enc o77.2) false))] 1004) ?_ ?_
       ·obtain ⟨c81, h⟩ := chk h; obtain ⟨c82, h⟩ := chk h; refine W.pk (.M Z (.M Z (.M Z (.V Z (O.idx sl24 c81 Z Z Z) (.V Z (O.ldN ty31 Z Z Z) (.t Z Z (O.lit (enc := lombardref30_Member.enc) (l := [(nth x0 v38)]) sl24 Z Z Z Z Z Z Z Z Z) (.t Z Z (O.appO sl24 lombardref30_Member.ok c82 Z Z Z Z Z) (.A Z (.nil (W.pk (.M Z ?_))))))))))); refine .B Z (.A Z (.nil ?_)); cases h; exact rdN (Gm [(1000, 1005)] (.e Z Z) (.r Z Z Z .n) Z)
       ·clear h; have h := b78; refine W.cnd Z h (fun q79 h => ?_) (fun q79 h => ?_)
        ·refine W.seq ?_; obtain ⟨c80, h⟩ := chk h; refine W.pk (.M Z (.M Z (.M Z (.V Z (O.build (out := [.i x1, .s x2, .i 1, .i 0, .b false]) bl31 Z Z Z Z (by kernel_rfl)) ?_)))); refine .t Z Z (O.lit (enc := lombardref30_Member.enc) (l := [(⟨x1, x2, 1, 0, false⟩ : lombardref30_Member)]) sl24 Z Z Z Z Z Z Z Z Z) (.t Z Z (O.appO sl24 lombardref30_Member.ok c80 Z Z Z Z Z) (.A Z (.nil (W.pk (.A Z (.nil ?_)))))); cases h; exact toN (Gm [(1003, 1002)] (.e Z Z) (.r Z Z Z .n) Z)
        ·refine W.skip ?_; cases h; exact toN (Gm [(1003, 1000)] (.e Z Z) (.r Z Z Z .n) Z)
      ·clear h; refine W.pk (.M Z (.V Z (OpL.unV Z Z Z) (.M Z ?_))); rcases tf v37 with g72 | g72
       ·(iterate 7 refine .X Z (notT g72) ?_); exact .E (notT g72) Z (.nil (toN (Gm [] (.r Z Z (.r Z Z (.r Z Z (.r Z Z (.r Z Z (.r Z Z (.c Z (sbb (by simp only [g72, BL])) Z .n))))))) (.r Z Z Z .n) Z)))
       ·refine .N Z (notF g72) (.N Z (notF g72) (.U Z (notF g72) (O.idx sl24 (c71 (by simp only [g72, BL])) Z Z Z) ?_)); exact .H fld31_0 Z (notF g72) Z (.U Z (notF g72) (O.ld (y := .i ((nth x0 v38).ID)) ty3 Z Z Z) (.N Z (notF g72) (.G Z (notF g72) Z (.T (notF g72) Z (.nil (toN (Gm [] (.r Z Z (.r Z Z (.r Z Z (.r Z Z (.r Z Z (.r Z Z (.c Z (sbb (by simp only [g72, BL])) Z .n))))))) (.r Z Z Z .n) Z)))))))
     ·refine W.exit ?_; cases h; refine rdX fun e_ => ?_; subst e_; (repeat with_reducible refine thru ?_); exact hit (toN (Gm [] (.e Z Z) (.r Z Z Z .n) Z))
  ·clear h; refine W.pk (.M Z (.M Z (.C (.i t4) [] 0 (lombardref30_Find_v2.ok b5) ca19 Z (cI (cI .nil)) Z ?_))); refine .B Z (.M Z ?_); rcases tf (decide (t4 ≥ 0)) with g8 | g8
   ·(iterate 4 refine .X Z g8 ?_); exact .T g8 Z (.nil (toN (Gm [] (.r Z Z (.r Z Z (.r Z Z (.c Z (sbb (by simp only [g8, BL])) Z .n)))) .n Z)))
   ·refine .N Z g8 (.N Z g8 (.call (.i t6) [] 0 (lombardref30_Named_v2.ok ((if_pos (by simp only [g8, BL])).symm.trans b7)) Z (met Z Z Z g8) Z ca21 Z Z (cI (cI .nil)) Z Z Z Z Z ?_)); exact .G Z g8 Z (.E g8 Z (.nil (toN (Gm [] (.r Z Z (.r Z Z (.r Z Z (.c Z (sbb (by simp only [g8, BL])) Z .n)))) .n Z))))

noncomputable def lombardref30_Load.b0 (x0 : List lombardref30_Member) (v16 : List lombardref30_Member) (v17 : Int) : Option (((List lombardref30_Member) × Int) ⊕ (Int ⊕ Unit)) :=
 if (decide (v17 < (List.length x0 : Int))) = true then
 if (0 : Int) ≤ v17 ∧ v17 < (List.length x0 : Int) then
 if ((decide (v17 > 0)) = true → (0 : Int) ≤ (IntKind.wrap .i64 (v17 - 1)) ∧ (IntKind.wrap .i64 (v17 - 1)) < (List.length x0 : Int)) then
 if ((((((decide (v17 > 0)) && (decide (((nth x0 v17).ID) ≤ ((nth x0 (IntKind.wrap .i64 (v17 - 1))).ID)))) || (decide (((nth x0 v17).State) < 1))) || (decide (((nth x0 v17).State) > 3))) || (decide (((nth x0 v17).Bound) < 0))) || (decide (((nth x0 v17).Bound) > 1125899906842624))) = true then
 some (.inr (.inl 1))
 else (lombardref30_Join.f v16 ((nth x0 v17).ID) ((nth x0 v17).Name)).bind fun t64 =>
 if (t64.2 != 0) = true then
 some (.inr (.inl t64.2))
 else some (.inl (t64.1, (IntKind.wrap .i64 (v17 + 1))))
 else none
 else none
 else some (.inr (.inr ()))
noncomputable def lombardref30_Load.r0 (x0 : List lombardref30_Member) (s : (List lombardref30_Member) × Int) : Option (((List lombardref30_Member) × Int) ⊕ (Int ⊕ Unit)) := lombardref30_Load.b0 x0 s.1 s.2
noncomputable def lombardref30_Load.f (x0 : List lombardref30_Member) : Option (Int) :=
 (loop (lombardref30_Load.r0 x0) ([], 0)).bind fun o49 =>
 match o49 with
 | .inl r67 => some r67
 | .inr w48 =>
 some 0
theorem lombardref30_Load.ok {x0 : List lombardref30_Member} {r : Int} (h : lombardref30_Load.f x0 = some r) : Pm.Spec prog 11 [.imm (.row 5 (List.map lombardref30_Member.enc x0))] (.imm (.val (.int .i64 r))) [none] := by
 unfold lombardref30_Load.f at h; refine Pm.Spec.of_body Tryz.func11 Z (by kernel_rfl) (L Z) (L Z) ?_; refine W.ghost (σ' := (mkSt [(0, some (.imm (.row 5 (List.map lombardref30_Member.enc x0))))] [] 1000)) (Gives.entry (.c Z .n) .n) (W.seq (W.pk (.A Z (.nil (W.seq (W.pk (.A Z (.nil (W.seq (W.seq (W.pk ?_))))))))))); refine .A Z (.nil ?_); obtain ⟨o49, b50, z51⟩ := bnd1 h; refine W.fork2 (out := o49) (fun (w48 : Unit) => mkSt [] [] 1000) ?_ ?_
 ·clear h; refine W.block (W.loopF (fun (s_ : (List lombardref30_Member) × Int) => mkSt [(0, some (.imm (.row 5 (List.map lombardref30_Member.enc x0)))), (3, some (.imm (.row 5 (List.map lombardref30_Member.enc s_.1)))), (4, some (.i s_.2))] [] 1000) b50 (Gm [] (.r Z Z (.c Z (.nil _) Z (.r Z Z .n))) .n Z) ?_); rintro ⟨v16, v17⟩ s_ hr; have h : lombardref30_Load.b0 x0 v16 v17 = some s_ := hr; unfold lombardref30_Load.b0 at h; refine W.seq (W.seq (W.pk (.M Z (.M Z (.V Z (O.lenR sl24 Z Z) (.B Z (.nil (W.cnd Z h (fun q52 h => ?_) (fun q52 h => ?_)))))))))
  ·refine W.skip (W.seq (W.block (W.seq ?_))); obtain ⟨c53, h⟩ := chk h; refine W.pk (.M Z (.M Z (.V Z (O.idx sl24 c53 Z Z Z) (.V Z (O.ldN ty31 Z Z Z) (.t Z Z (O.alloc z31 Z) (.S ty31 Z [.i ((nth x0 v17).ID), .s ((nth x0 v17).Name), .i ((nth x0 v17).State), .i ((nth x0 v17).Bound), .b ((nth x0 v17).Late)] Z (.nil (W.seq (W.seq ?_))))))))); obtain ⟨c54, h⟩ := chk h; refine W.fork (mkSt [(0, some (.imm (.row 5 (List.map lombardref30_Member.enc x0)))), (3, some (.imm (.row 5 (List.map lombardref30_Member.enc v16)))), (4, some (.i v17)), (5, some (.ptr 1000 0)), (50, some (.b ((((((decide (v17 > 0)) && (decide (((nth x0 v17).ID) ≤ ((nth x0 (IntKind.wrap .i64 (v17 - 1))).ID)))) || (decide (((nth x0 v17).State) < 1))) || (decide (((nth x0 v17).State) > 3))) || (decide (((nth x0 v17).Bound) < 0))) || (decide (((nth x0 v17).Bound) > 1125899906842624)))))] [(1000, some (.box [.i ((nth x0 v17).ID), .s ((nth x0 v17).Name), .i ((nth x0 v17).State), .i ((nth x0 v17).Bound), .b ((nth x0 v17).Late)]))] 1001) ?_ ?_
   ·refine W.cnd Z h (fun q63 h => ?_) (fun q63 h => ?_)
    ·refine W.seq (W.pk (.A Z (.nil (W.ret ?_)))); cases h; refine rdR fun e_ => ?_; subst e_; have h := z51; dsimp only at h; refine fkR ?_; cases h; exact lv Z Z
    ·refine W.skip (W.seq ?_); obtain ⟨t64, b65, h⟩ := bnd1 h; refine W.pk (.M Z (.F fld31_0 Z (.V Z (O.ld (y := .i ((nth x0 v17).ID)) ty3 Z Z Z) (.F fld31_1 Z (.V Z (O.ld (y := .s ((nth x0 v17).Name)) ty9 Z Z Z) (.C (.tup [.imm (.row 5 (List.map lombardref30_Member.enc t64.1)), .i t64.2]) [] 0 (lombardref30_Join_v2.ok b65) ca31 Z (cI (cI (cI .nil))) Z ?_)))))); refine .M Z ?_; (iterate 2 refine .V Z (OpL.extract Z Z Z) ?_); refine .A Z (.A Z (.nil (W.seq (W.seq (W.pk (.M Z (.B Z (.nil (W.cnd Z h (fun q66 h => ?_) (fun q66 h => ?_))))))))))
     ·refine W.seq (W.pk (.M Z (.A Z (.nil (W.ret ?_))))); cases h; refine rdR fun e_ => ?_; subst e_; have h := z51; dsimp only at h; refine fkR ?_; cases h; exact lv Z Z
     ·refine W.skip (W.pk (.M Z (.A Z (.nil (W.pk (.M Z (.B Z (.A Z (.nil ?_))))))))); cases h; exact rdN (Gm [] (.e Z Z) .n Z)
   ·clear h; refine W.dk (unm 33 [0, 1, 3, 7, 15, 7, 7, 71, 231, 487, 999, 2047, 4095, 8191, 16383, 32767, 65535, 131071, 262143, 524287, 1048575, 2097151, 4194303, 8388607, 16777215, 33554431, 67108863, 134217727, 268435455, 536870911, 1073741823, 2147483647, 4294967295]) Z (by kernel_rfl) ?_; refine .M Z (.B Z (.M Z ?_)); rcases tf (decide (v17 > 0)) with g55 | g55
    ·refine .H fld31_0 Z g55 Z (.U Z g55 (O.ld (y := .i ((nth x0 v17).ID)) ty3 Z Z Z) (.N Z g55 (.N Z g55 (.G Z g55 Z (.U Z g55 (O.idx sl24 (c54 (by simp only [g55, BL])) Z Z Z) ?_))))); refine .H fld31_0 Z g55 Z (.U Z g55 (O.ld (y := .i ((nth x0 (IntKind.wrap .i64 (v17 - 1))).ID)) ty3 Z Z Z) (.G Z g55 Z (.T g55 Z (.M Z ?_)))); rcases tf (decide (((nth x0 v17).ID) ≤ ((nth x0 (IntKind.wrap .i64 (v17 - 1))).ID))) with g56 | g56
     ·(iterate 3 refine .X Z g56 ?_); refine .T g56 Z (.M Z (.X Z Z (.X Z Z (.X Z Z (.T Z Z (.M Z (.X Z Z (.X Z Z (.X Z Z (.T Z Z (.M Z ?_))))))))))); refine .X Z Z (.X Z Z (.X Z Z (.T Z Z (.nil ?_)))); refine ⟨by kernel_rfl, by kernel_rfl, ?_⟩; exact toN (Gm [] (.r Z Z (.r Z Z (.r Z Z (.r Z Z (.c Z (sbb (by simp only [g55, g56, BL])) Z .n))))) (.r Z Z Z .n) Z)
     ·refine .H fld31_2 Z g56 Z (.U Z g56 (O.ld (y := .i ((nth x0 v17).State)) ty3 Z Z Z) (.G Z g56 Z (.E g56 Z (.M Z ?_)))); rcases tf (decide (((nth x0 v17).State) < 1)) with g57 | g57
      ·(iterate 3 refine .X Z g57 ?_); refine .T g57 Z (.M Z (.X Z Z (.X Z Z (.X Z Z (.T Z Z (.M Z (.X Z Z (.X Z Z (.X Z Z (.T Z Z (.nil ?_))))))))))); refine ⟨by kernel_rfl, by kernel_rfl, ?_⟩; exact toN (Gm [] (.r Z Z (.r Z Z (.r Z Z (.r Z Z (.c Z (sbb (by simp only [g55, g56, g57, BL])) Z .n))))) (.r Z Z Z .n) Z)
      ·refine .H fld31_2 Z g57 Z (.U Z g57 (O.ld (y := .i ((nth x0 v17).State)) ty3 Z Z Z) (.G Z g57 Z (.E g57 Z (.M Z ?_)))); rcases tf (decide (((nth x0 v17).State) > 3)) with g58 | g58
       ·(iterate 3 refine .X Z g58 ?_); refine .T g58 Z (.M Z (.X Z Z (.X Z Z (.X Z Z (.T Z Z (.nil ?_)))))); refine ⟨by kernel_rfl, by kernel_rfl, ?_⟩; exact toN (Gm [] (.r Z Z (.r Z Z (.r Z Z (.r Z Z (.c Z (sbb (by simp only [g55, g56, g57, g58, BL])) Z .n))))) (.r Z Z Z .n) Z)
       ·refine .H fld31_3 Z g58 Z (.U Z g58 (O.ld (y := .i ((nth x0 v17).Bound)) ty3 Z Z Z) (.G Z g58 Z (.E g58 Z (.M Z ?_)))); rcases tf (decide (((nth x0 v17).Bound) < 0)) with g59 | g59
        ·(iterate 3 refine .X Z g59 ?_); refine .T g59 Z (.nil ?_); refine ⟨by kernel_rfl, by kernel_rfl, ?_⟩; exact toN (Gm [] (.r Z Z (.r Z Z (.r Z Z (.r Z Z (.c Z (sbb (by simp only [g55, g56, g57, g58, g59, BL])) Z .n))))) (.r Z Z Z .n) Z)
        ·refine .H fld31_3 Z g59 Z (.U Z g59 (O.ld (y := .i ((nth x0 v17).Bound)) ty3 Z Z Z) (.G Z g59 Z (.E g59 Z (.nil ?_)))); refine ⟨by kernel_rfl, by kernel_rfl, ?_⟩; exact toN (Gm [] (.r Z Z (.r Z Z (.r Z Z (.r Z Z (.c Z (sbb (by simp only [g55, g56, g57, g58, g59, BL])) Z .n))))) (.r Z Z Z .n) Z)
    ·(iterate 9 refine .X Z g55 ?_); refine .E g55 Z (.M Z (.H fld31_2 Z Z Z (.U Z Z (O.ld (y := .i ((nth x0 v17).State)) ty3 Z Z Z) (.G Z Z Z (.E Z Z (.M Z ?_)))))); rcases tf (decide (((nth x0 v17).State) < 1)) with g60 | g60
     ·(iterate 3 refine .X Z g60 ?_); refine .T g60 Z (.M Z (.X Z Z (.X Z Z (.X Z Z (.T Z Z (.M Z (.X Z Z (.X Z Z (.X Z Z (.T Z Z (.nil ?_))))))))))); refine ⟨by kernel_rfl, by kernel_rfl, ?_⟩; exact toN (Gm [] (.r Z Z (.r Z Z (.r Z Z (.r Z Z (.c Z (sbb (by simp only [g55, g60, BL])) Z .n))))) (.r Z Z Z .n) Z)
     ·refine .H fld31_2 Z g60 Z (.U Z g60 (O.ld (y := .i ((nth x0 v17).State)) ty3 Z Z Z) (.G Z g60 Z (.E g60 Z (.M Z ?_)))); rcases tf (decide (((nth x0 v17).State) > 3)) with g61 | g61
      ·(iterate 3 refine .X Z g61 ?_); refine .T g61 Z (.M Z (.X Z Z (.X Z Z (.X Z Z (.T Z Z (.nil ?_)))))); refine ⟨by kernel_rfl, by kernel_rfl, ?_⟩; exact toN (Gm [] (.r Z Z (.r Z Z (.r Z Z (.r Z Z (.c Z (sbb (by simp only [g55, g60, g61, BL])) Z .n))))) (.r Z Z Z .n) Z)
      ·refine .H fld31_3 Z g61 Z (.U Z g61 (O.ld (y := .i ((nth x0 v17).Bound)) ty3 Z Z Z) (.G Z g61 Z (.E g61 Z (.M Z ?_)))); rcases tf (decide (((nth x0 v17).Bound) < 0)) with g62 | g62
       ·(iterate 3 refine .X Z g62 ?_); refine .T g62 Z (.nil ?_); refine ⟨by kernel_rfl, by kernel_rfl, ?_⟩; exact toN (Gm [] (.r Z Z (.r Z Z (.r Z Z (.r Z Z (.c Z (sbb (by simp only [g55, g60, g61, g62, BL])) Z .n))))) (.r Z Z Z .n) Z)
       ·refine .H fld31_3 Z g62 Z (.U Z g62 (O.ld (y := .i ((nth x0 v17).Bound)) ty3 Z Z Z) (.G Z g62 Z (.E g62 Z (.nil ?_)))); refine ⟨by kernel_rfl, by kernel_rfl, ?_⟩; exact toN (Gm [] (.r Z Z (.r Z Z (.r Z Z (.r Z Z (.c Z (sbb (by simp only [g55, g60, g61, g62, BL])) Z .n))))) (.r Z Z Z .n) Z)
  ·refine W.exit ?_; cases h; refine rdX fun e_ => ?_; subst e_; (repeat with_reducible refine thru ?_); exact hit (fkN (Gm [] .n .n Z))
 ·intro w48 e_; subst e_; clear h; have h := z51; dsimp only at h; refine W.seq (W.pk (.A Z (.nil (W.ret ?_)))); cases h; exact lv Z Z

noncomputable def auth_List_Clone.f  : Option (Unit) :=
 some ()
theorem auth_List_Clone.ok  {r : Unit} (h : auth_List_Clone.f  = some r) : Pm.Spec prog 12 [.imm (.val (.pointer none))] (.imm (.val (.pointer none))) [none] := by
 unfold auth_List_Clone.f at h; refine Pm.Spec.of_body Tryz.func12 Z (by kernel_rfl) (L Z) (L Z) ?_; refine W.ghost (σ' := (mkSt [(0, some (.imm (.val (.pointer none))))] [] 1000)) (Gives.entry (.c Z .n) .n) (W.seq (W.pk (.A Z (.nil (W.seq (W.seq (W.pk (.M Z (.V Z (O.eqPnn Z u23 Z Z) (.M Z ?_)))))))))); (iterate 5 refine .X Z Z ?_); refine .T Z Z (.nil (W.cond Z (fun _ => ?_) (fun q => by cases q)))
 refine W.seq (W.pk (.A Z (.nil (W.ret ?_)))); cases h; exact lv Z Z

noncomputable def auth_List_Join_v2.f (x1 : Int) (x2 : Bs) : Option (Int) :=
 some 3
theorem auth_List_Join_v2.ok {x1 : Int} {x2 : Bs} {r : Int} (h : auth_List_Join_v2.f x1 x2 = some r) : Pm.Spec prog 13 [.imm (.val (.pointer none)), .imm (.val (.int .i64 x1)), .imm (.val (.string (tx x2)))] (.imm (.val (.int .i64 r))) [none, none, none] := by
 unfold auth_List_Join_v2.f at h; refine Pm.Spec.of_body Tryz.func13 Z (by kernel_rfl) (L Z) (L Z) ?_; refine W.ghost (σ' := (mkSt [(0, some (.imm (.val (.pointer none)))), (1, some (.i x1)), (2, some (.s x2))] [] 1000)) (Gives.entry (.c Z (.c Z (.c Z .n))) .n) (W.seq (W.pk (.t Z Z (O.box Z Z Z Z Z) (.A Z (.nil (W.seq (W.seq (W.pk (.M Z (.V Z (O.eqPnn Z u23 Z Z) (.M Z ?_))))))))))); (iterate 5 refine .X Z Z ?_); refine .T Z Z (.nil (W.cond Z (fun _ => ?_) (fun q => by cases q)))
 refine W.seq (W.pk (.A Z (.nil (W.ret ?_)))); cases h; exact leaves (.inr Z) Z (.imm _) (cN (cN (cN .nil))) Z Z

noncomputable def auth_List_change__auth_List_Default_1_v2.f (x1 : Int) : Option (Int) :=
 some 3
theorem auth_List_change__auth_List_Default_1_v2.ok {x1 : Int} {r : Int} (h : auth_List_change__auth_List_Default_1_v2.f x1 = some r) : Pm.Spec prog 39 [.imm (.val (.pointer none)), .imm (.val (.int .i64 x1)), .fn 40 []] (.imm (.val (.int .i64 r))) [none, none, none] := by
 unfold auth_List_change__auth_List_Default_1_v2.f at h; refine Pm.Spec.of_body Tryz.func39 Z (by kernel_rfl) (L Z) (L Z) ?_; refine W.ghost (σ' := (mkSt [(0, some (.imm (.val (.pointer none)))), (1, some (.i x1)), (2, some (.fn 40 []))] [] 1000)) (Gives.entry (.c Z (.c Z (.c Z .n))) .n) (W.seq (W.pk (.A Z (.nil (W.seq (W.seq (W.pk (.M Z (.V Z (O.eqPnn Z u23 Z Z) (.M Z ?_)))))))))); (iterate 5 refine .X Z Z ?_); refine .T Z Z (.nil (W.cond Z (fun _ => ?_) (fun q => by cases q)))
 refine W.seq (W.pk (.A Z (.nil (W.ret ?_)))); cases h; exact leaves (.inr Z) Z (.imm _) (cN (cN (cN .nil))) Z Z

noncomputable def auth_List_Default_v2.f (x1 : Int) : Option (Int) :=
 (auth_List_change__auth_List_Default_1_v2.f x1).bind fun t1 =>
 some t1
theorem auth_List_Default_v2.ok {x1 : Int} {r : Int} (h : auth_List_Default_v2.f x1 = some r) : Pm.Spec prog 14 [.imm (.val (.pointer none)), .imm (.val (.int .i64 x1))] (.imm (.val (.int .i64 r))) [none, none] := by
 unfold auth_List_Default_v2.f at h; refine Pm.Spec.of_body Tryz.func14 Z (by kernel_rfl) (L Z) (L Z) ?_; refine W.ghost (σ' := (mkSt [(0, some (.imm (.val (.pointer none)))), (1, some (.i x1))] [] 1000)) (Gives.entry (.c Z (.c Z .n)) .n) (W.seq (W.pk (.A Z (.nil (W.seq ?_))))); obtain ⟨t1, b2, h⟩ := bnd1 h; refine W.pk (.M Z (.M Z (.C (.i t1) [] 0 (auth_List_change__auth_List_Default_1_v2.ok b2) ca39 Z (cI (cI (cC (.fn _ _ _ _ _ .nil) .nil))) Z ?_))); refine .A Z (.nil (W.ret ?_)); cases h; exact leaves (.inr Z) Z (.imm _) (cN (cN .nil)) Z Z

noncomputable def auth_List_All_v2.f  : Option (List auth_Member) :=
 some []
theorem auth_List_All_v2.ok  {r : List auth_Member} (h : auth_List_All_v2.f  = some r) : Pm.Spec prog 17 [.imm (.val (.pointer none))] (.imm (.row 5 (List.map auth_Member.enc r))) [none] := by
 unfold auth_List_All_v2.f at h; refine Pm.Spec.of_body Tryz.func17 Z (by kernel_rfl) (L Z) (L Z) ?_; refine W.ghost (σ' := (mkSt [(0, some (.imm (.val (.pointer none))))] [] 1000)) (Gives.entry (.c Z .n) .n) (W.seq (W.pk (.A Z (.nil (W.seq (W.seq (W.pk (.M Z (.V Z (O.eqPnn Z u23 Z Z) (.nil (W.cond Z (fun _ => ?_) (fun q => by cases q))))))))))))
 refine W.seq (W.pk (.A Z (.nil (W.ret ?_)))); cases h; exact leaves (.inr Z) Z (.nilrow _) (cN .nil) Z Z
end Go.Proofs.YtjdkibnhlmgppaaGreat
