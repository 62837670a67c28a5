/- Shows what functions of the program come to, each as a plain function: written by a program of the author's for this claim. -/
import Derived.Test.YtjdkibnhlmgppaaGreatGx0
namespace Go.Proofs.YtjdkibnhlmgppaaGreat
open Go Go.Pm
set_option linter.unusedVariables false
set_option maxRecDepth 100000
set_option maxHeartbeats 4000000
set_option linter.unusedSimpArgs false
noncomputable def lombardref10_rest.b0 (x0 : lombardref10_Msg) (v57 : Int) (v58 : Int) : Option ((Int × Int) ⊕ Int) :=
 if ((decide (v58 < (List.length x0.In : Int))) && (v57 == 0)) = true then
 if (0 : Int) ≤ v58 ∧ v58 < (List.length x0.In : Int) then
 (lombardref10_Lot.f (nth x0.In v58)).bind fun t76 =>
 some (.inl (t76, (IntKind.wrap .i64 (v58 + 1))))
 else none
 else some (.inr v57)
noncomputable def lombardref10_rest.r0 (x0 : lombardref10_Msg) (s : Int × Int) : Option ((Int × Int) ⊕ Int) := lombardref10_rest.b0 x0 s.1 s.2
noncomputable def lombardref10_rest.f (x0 : lombardref10_Msg) : Option (Int) :=
 if (x0.Kind == 1) = true then
 (lombardref04_Check.f x0.Name).bind fun t2 =>
 some t2.2
 else (if ((x0.Kind == 6) || (x0.Kind == 7)) = true then lombardref10_signed.f x0.N else some default).bind fun t4 =>
 (if (((x0.Kind == 6) || (x0.Kind == 7)) && (!t4)) = false ∧ (x0.Kind == 9) = true then lombardref10_Amount.f x0.N else some default).bind fun t6 =>
 (if ((((x0.Kind == 6) || (x0.Kind == 7)) && (!t4)) || ((x0.Kind == 9) && (!t6))) = false ∧ (x0.Kind == 14) = true then lombardref10_in.f x0.N 0 1125899906842624 else some default).bind fun t8 =>
 if (((((x0.Kind == 6) || (x0.Kind == 7)) && (!t4)) || ((x0.Kind == 9) && (!t6))) || ((x0.Kind == 14) && (!t8))) = true then
 some 1
 else (if (((x0.Kind == 10) || (x0.Kind == 11)) || (x0.Kind == 15)) = true then lombardref10_Amount.f x0.Trade else some default).bind fun t27 =>
 (if ((((x0.Kind == 10) || (x0.Kind == 11)) || (x0.Kind == 15)) && (!t27)) = false ∧ (x0.Kind == 15) = true then lombardref10_in.f x0.Rate (-1000000) 1000000 else some default).bind fun t29 =>
 if (((((x0.Kind == 10) || (x0.Kind == 11)) || (x0.Kind == 15)) && (!t27)) || ((x0.Kind == 15) && (!t29))) = true then
 some 1
 else if (x0.Kind == 7) = true then
 (lombardref05_Check.f x0.Text).bind fun t41 =>
 some t41
 else if (((x0.Kind == 10) || (x0.Kind == 12)) || (x0.Kind == 15)) = true then
 (lombardref10_day.f x0.Day).bind fun t46 =>
 some t46
 else if (x0.Kind == 11) = true then
 if (decide ((List.length x0.In : Int) > 64)) = true then
 some 1
 else (lombardref10_Lot.f x0.Out).bind fun t50 =>
 (loop (lombardref10_rest.r0 x0) (t50, 0)).bind fun o70 =>
 some o70
 else some 0
theorem lombardref10_rest.ok {x0 : lombardref10_Msg} {r : Int} (h : lombardref10_rest.f x0 = some r) : Pm.Spec prog 80 [.agg (im (lombardref10_Msg.enc x0))] (.imm (.val (.int .i64 r))) [none] := by
 unfold lombardref10_rest.f at h; refine Pm.Spec.of_body Tryz.func80 Z (by kernel_rfl) (L Z) (L Z) ?_; refine W.ghost (σ' := (mkSt [(0, some (.agg (lombardref10_Msg.av x0)))] [] 1000)) (Gives.entry (.c Z .n) .n) (W.seq (W.pk (.t Z Z (O.box Z Z Z Z Z) (.A Z (.nil (W.seq (W.seq (W.pk (.F fld64_0 Z (.V Z (O.ld (y := .i x0.Kind) ty3 Z Z Z) (.B Z ?_))))))))))); refine .nil (W.cnd Z h (fun q1 h => ?_) (fun q1 h => ?_))
 ·refine W.seq ?_; obtain ⟨t2, b3, h⟩ := bnd1 h; refine W.pk (.F fld64_2 Z (.V Z (O.ld (y := .s x0.Name) ty9 Z Z Z) (.C (.tup [.i t2.1, .i t2.2]) [] 0 (lombardref04_Check.ok b3) ca100 Z (cI .nil) Z ?_))); refine .M Z ?_; (iterate 2 refine .V Z (OpL.extract Z Z Z) ?_); refine .A Z (.A Z (.nil (W.seq (W.pk (.M Z (.A Z (.nil (W.ret ?_)))))))); cases h; exact lv Z Z
 ·refine W.skip (W.seq (W.seq ?_)); obtain ⟨t4, b5, h⟩ := bnd1 h; obtain ⟨t6, b7, h⟩ := bnd1 h; obtain ⟨t8, b9, h⟩ := bnd1 h; refine W.fork (mkSt [(1, some (.ptr 1000 0)), (52, some (.b (((((x0.Kind == 6) || (x0.Kind == 7)) && (!t4)) || ((x0.Kind == 9) && (!t6))) || ((x0.Kind == 14) && (!t8)))))] [(1000, some (.box (lombardref10_Msg.av x0)))] 1001) ?_ ?_
  ·refine W.cnd Z h (fun q26 h => ?_) (fun q26 h => ?_)
   ·refine W.seq (W.pk (.A Z (.nil (W.ret ?_)))); cases h; exact lv Z Z
   ·refine W.skip (W.seq (W.seq ?_)); obtain ⟨t27, b28, h⟩ := bnd1 h; obtain ⟨t29, b30, h⟩ := bnd1 h; refine W.fork (mkSt [(1, some (.ptr 1000 0)), (82, some (.b (((((x0.Kind == 10) || (x0.Kind == 11)) || (x0.Kind == 15)) && (!t27)) || ((x0.Kind == 15) && (!t29)))))] [(1000, some (.box (lombardref10_Msg.av x0)))] 1001) ?_ ?_
    ·refine W.cnd Z h (fun q39 h => ?_) (fun q39 h => ?_)
     ·refine W.seq (W.pk (.A Z (.nil (W.ret ?_)))); cases h; exact lv Z Z
     ·refine W.skip (W.seq (W.seq (W.pk (.F fld64_0 Z (.V Z (O.ld (y := .i x0.Kind) ty3 Z Z Z) (.B Z (.nil (W.cnd Z h (fun q40 h => ?_) (fun q40 h => ?_)))))))))
      ·refine W.seq ?_; obtain ⟨t41, b42, h⟩ := bnd1 h; refine W.pk (.F fld64_7 Z (.V Z (O.ld (y := .s x0.Text) ty9 Z Z Z) (.C (.i t41) [] 0 (lombardref05_Check.ok b42) ca96 Z (cI .nil) Z ?_))); refine .A Z (.nil (W.ret ?_)); cases h; exact lv Z Z
      ·refine W.skip (W.seq (W.seq (W.fork (mkSt [(1, some (.ptr 1000 0)), (101, some (.b (((x0.Kind == 10) || (x0.Kind == 12)) || (x0.Kind == 15))))] [(1000, some (.box (lombardref10_Msg.av x0)))] 1001) ?_ ?_)))
       ·refine W.cnd Z h (fun q45 h => ?_) (fun q45 h => ?_)
        ·refine W.seq ?_; obtain ⟨t46, b47, h⟩ := bnd1 h; refine W.pk (.F fld64_6 Z (.V Z (O.ld (y := .i x0.Day) ty3 Z Z Z) (.C (.i t46) [] 0 (lombardref10_day.ok b47) ca76 Z (cI .nil) Z ?_))); refine .A Z (.nil (W.ret ?_)); cases h; exact lv Z Z
        ·refine W.skip (W.seq (W.seq (W.pk (.F fld64_0 Z (.V Z (O.ld (y := .i x0.Kind) ty3 Z Z Z) (.B Z (.nil (W.cnd Z h (fun q48 h => ?_) (fun q48 h => ?_)))))))))
         ·refine W.seq (W.seq (W.pk (.F fld64_11 Z (.V Z (O.ld (y := .imm (.row 2 (List.map api_Lot.enc x0.In))) ty62 Z Z Z) (.V Z (O.lenR sl62 Z Z) (.B Z (.nil (W.cnd Z h (fun q49 h => ?_) (fun q49 h => ?_)))))))))
          ·refine W.seq (W.pk (.A Z (.nil (W.ret ?_)))); cases h; exact lv Z Z
          ·refine W.skip (W.seq ?_); obtain ⟨t50, b51, h⟩ := bnd1 h; refine W.pk (.F fld64_10 Z (.V Z (O.ldN ty61 Z Z Z) (.C (.i t50) [] 0 (lombardref10_Lot.ok b51) ca102 Z (cC (.agg _ _ _ _ (cI (cI .nil))) .nil) Z ?_))); refine .A Z (.nil (W.seq (W.seq (W.pk (.A Z (.nil ?_)))))); obtain ⟨o70, b71, h⟩ := bnd1 h; refine W.fork (mkSt [(5, some (.i o70))] [] 1001) ?_ ?_
           ·refine W.seq (W.pk (.M Z (.A Z (.nil (W.ret ?_))))); cases h; exact lv Z Z
           ·clear h; refine W.block (W.loopF (fun (s_ : Int × Int) => mkSt [(1, some (.ptr 1000 0)), (5, some (.i s_.1)), (6, some (.i s_.2))] [(1000, some (.box (lombardref10_Msg.av x0)))] 1001) b71 (Gm [] (.e Z Z) (.r Z Z Z .n) Z) ?_); rintro ⟨v57, v58⟩ s_ hr; have h : lombardref10_rest.b0 x0 v57 v58 = some s_ := hr; unfold lombardref10_rest.b0 at h; refine W.seq (W.seq (W.fork (mkSt [(1, some (.ptr 1000 0)), (5, some (.i v57)), (6, some (.i v58)), (123, some (.b ((decide (v58 < (List.length x0.In : Int))) && (v57 == 0))))] [(1000, some (.box (lombardref10_Msg.av x0)))] 1001) ?_ ?_))
            ·refine W.cnd Z h (fun q74 h => ?_) (fun q74 h => ?_)
             ·refine W.skip (W.seq (W.block ?_)); obtain ⟨c75, h⟩ := chk h; obtain ⟨t76, b77, h⟩ := bnd1 h; refine W.pk (.F fld64_11 Z (.V Z (O.ld (y := .imm (.row 2 (List.map api_Lot.enc x0.In))) ty62 Z Z Z) (.M Z (.V Z (O.idx sl62 c75 Z Z Z) (.V Z (O.ldN ty61 Z Z Z) (.C (.i t76) [] 0 (lombardref10_Lot.ok b77) ca102 Z (cC (.agg _ _ _ _ (cI (cI .nil))) .nil) Z ?_)))))); refine .A Z (.nil (W.pk (.M Z (.B Z (.A Z (.nil ?_)))))); cases h; exact rdN (Gm [] (.e Z Z) (.r Z Z Z .n) Z)
             ·refine W.exit ?_; cases h; refine rdX fun e_ => ?_; subst e_; (repeat with_reducible refine thru ?_); exact hit (toN (Gm [] (.r Z Z .n) .n Z))
            ·clear h; refine W.pk (.M Z (.F fld64_11 Z (.V Z (O.ld (y := .imm (.row 2 (List.map api_Lot.enc x0.In))) ty62 Z Z Z) (.V Z (O.lenR sl62 Z Z) (.B Z (.M Z ?_)))))); rcases tf (decide (v58 < (List.length x0.In : Int))) with g73 | g73
             ·exact .N Z g73 (.G Z g73 Z (.T g73 Z (.nil (toN (Gm [] (.r Z Z (.r Z Z (.r Z Z (.c Z (sbb (by simp only [g73, BL])) Z .n)))) (.r Z Z Z .n) Z)))))
             ·exact .X Z g73 (.X Z g73 (.E g73 Z (.nil (toN (Gm [] (.r Z Z (.r Z Z (.r Z Z (.c Z (sbb (by simp only [g73, BL])) Z .n)))) (.r Z Z Z .n) Z)))))
         ·refine W.skip (W.seq (W.pk (.A Z (.nil (W.ret ?_))))); cases h; exact lv Z Z
       ·clear h; refine W.pk (.F fld64_0 Z (.V Z (O.ld (y := .i x0.Kind) ty3 Z Z Z) (.B Z (.M Z ?_)))); rcases tf (x0.Kind == 10) with g43 | g43
        ·(iterate 3 refine .X Z g43 ?_); exact .T g43 Z (.M Z (.X Z Z (.X Z Z (.X Z Z (.T Z Z (.nil (toN (Gm [] (.r Z Z (.c Z (sbb (by simp only [g43, BL])) Z .n)) (.r Z Z Z .n) Z))))))))
        ·refine .H fld64_0 Z g43 Z (.U Z g43 (O.ld (y := .i x0.Kind) ty3 Z Z Z) (.G Z g43 Z (.E g43 Z (.M Z ?_)))); rcases tf (x0.Kind == 12) with g44 | g44
         ·(iterate 3 refine .X Z g44 ?_); exact .T g44 Z (.nil (toN (Gm [] (.r Z Z (.c Z (sbb (by simp only [g43, g44, BL])) Z .n)) (.r Z Z Z .n) Z)))
         ·exact .H fld64_0 Z g44 Z (.U Z g44 (O.ld (y := .i x0.Kind) ty3 Z Z Z) (.G Z g44 Z (.E g44 Z (.nil (toN (Gm [] (.r Z Z (.c Z (sbb (by simp only [g43, g44, BL])) Z .n)) (.r Z Z Z .n) Z))))))
    ·clear h; refine W.pk (.F fld64_0 Z (.V Z (O.ld (y := .i x0.Kind) ty3 Z Z Z) (.B Z (.M Z ?_)))); rcases tf (x0.Kind == 10) with g31 | g31
     ·(iterate 3 refine .X Z g31 ?_); refine .T g31 Z (.M Z (.X Z Z (.X Z Z (.X Z Z (.T Z Z (.M Z (.H fld64_12 Z Z Z (.U Z Z (O.ld (y := .i x0.Trade) ty3 Z Z Z) (.call (.b t27) [] 0 (lombardref10_Amount.ok ((if_pos (by simp only [g31, BL])).symm.trans b28)) Z (met Z Z Z Z) Z ca98 Z Z (cI .nil) Z Z Z Z Z ?_))))))))); refine .U Z Z (OpL.unV Z Z Z) (.T Z Z (.M Z ?_)); rcases tf t27 with g32 | g32
      ·refine .H fld64_0 Z (notT g32) Z (.U Z (notT g32) (O.ld (y := .i x0.Kind) ty3 Z Z Z) (.G Z (notT g32) Z (.N Z (notT g32) ?_))); rcases tf (x0.Kind == 15) with g33 | g33
       ·refine .H fld64_14 Z g33 Z (.U Z g33 (O.ld (y := .i x0.Rate) ty3 Z Z Z) (.call (.b t29) [] 0 (lombardref10_in.ok ((if_pos ⟨(by simp only [g31, g32, g33, BL]), (by simp only [g31, g32, g33, BL])⟩).symm.trans b30)) Z (met Z Z Z g33) Z ca97 Z Z (cI (cI (cI .nil))) Z Z Z Z Z ?_)); exact .U Z g33 (OpL.unV Z Z Z) (.U Z (notT g32) (O.pickT g33 Z Z Z) (.E (notT g32) Z (.nil (toN (Gm [] (.r Z Z (.c Z (sbb (by simp only [g31, g32, g33, BL])) Z .n)) (.r Z Z Z .n) Z)))))
       ·(iterate 4 refine .X Z g33 ?_); exact .U Z (notT g32) (O.pickF g33 Z Z Z) (.E (notT g32) Z (.nil (toN (Gm [] (.r Z Z (.c Z (sbb (by simp only [g31, g32, g33, BL])) Z .n)) (.r Z Z Z .n) Z))))
      ·(iterate 4 refine .X Z (notF g32) ?_); (iterate 4 refine .x Z (unmetU Z Z Z) ?_); exact .X Z (notF g32) (.T (notF g32) Z (.nil (toN (Gm [] (.r Z Z (.c Z (sbb (by simp only [g31, g32, BL])) Z .n)) (.r Z Z Z .n) Z))))
     ·refine .H fld64_0 Z g31 Z (.U Z g31 (O.ld (y := .i x0.Kind) ty3 Z Z Z) (.G Z g31 Z (.E g31 Z (.M Z ?_)))); rcases tf (x0.Kind == 11) with g34 | g34
      ·(iterate 3 refine .X Z g34 ?_); refine .T g34 Z (.M Z (.H fld64_12 Z Z Z (.U Z Z (O.ld (y := .i x0.Trade) ty3 Z Z Z) (.call (.b t27) [] 0 (lombardref10_Amount.ok ((if_pos (by simp only [g31, g34, BL])).symm.trans b28)) Z (met Z Z Z Z) Z ca98 Z Z (cI .nil) Z Z Z Z Z ?_)))); refine .U Z Z (OpL.unV Z Z Z) (.T Z Z (.M Z ?_)); rcases tf t27 with g35 | g35
       ·refine .H fld64_0 Z (notT g35) Z (.U Z (notT g35) (O.ld (y := .i x0.Kind) ty3 Z Z Z) (.G Z (notT g35) Z (.N Z (notT g35) ?_))); rcases tf (x0.Kind == 15) with g36 | g36
        ·refine .H fld64_14 Z g36 Z (.U Z g36 (O.ld (y := .i x0.Rate) ty3 Z Z Z) (.call (.b t29) [] 0 (lombardref10_in.ok ((if_pos ⟨(by simp only [g31, g34, g35, g36, BL]), (by simp only [g31, g34, g35, g36, BL])⟩).symm.trans b30)) Z (met Z Z Z g36) Z ca97 Z Z (cI (cI (cI .nil))) Z Z Z Z Z ?_)); exact .U Z g36 (OpL.unV Z Z Z) (.U Z (notT g35) (O.pickT g36 Z Z Z) (.E (notT g35) Z (.nil (toN (Gm [] (.r Z Z (.c Z (sbb (by simp only [g31, g34, g35, g36, BL])) Z .n)) (.r Z Z Z .n) Z)))))
        ·(iterate 4 refine .X Z g36 ?_); exact .U Z (notT g35) (O.pickF g36 Z Z Z) (.E (notT g35) Z (.nil (toN (Gm [] (.r Z Z (.c Z (sbb (by simp only [g31, g34, g35, g36, BL])) Z .n)) (.r Z Z Z .n) Z))))
       ·(iterate 4 refine .X Z (notF g35) ?_); (iterate 4 refine .x Z (unmetU Z Z Z) ?_); exact .X Z (notF g35) (.T (notF g35) Z (.nil (toN (Gm [] (.r Z Z (.c Z (sbb (by simp only [g31, g34, g35, BL])) Z .n)) (.r Z Z Z .n) Z))))
      ·refine .H fld64_0 Z g34 Z (.U Z g34 (O.ld (y := .i x0.Kind) ty3 Z Z Z) (.G Z g34 Z (.E g34 Z (.M Z ?_)))); rcases tf (x0.Kind == 15) with g37 | g37
       ·refine .H fld64_12 Z g37 Z (.U Z g37 (O.ld (y := .i x0.Trade) ty3 Z Z Z) (.call (.b t27) [] 0 (lombardref10_Amount.ok ((if_pos (by simp only [g31, g34, g37, BL])).symm.trans b28)) Z (met Z Z Z g37) Z ca98 Z Z (cI .nil) Z Z Z Z Z ?_)); refine .U Z g37 (OpL.unV Z Z Z) (.T g37 Z (.M Z ?_)); rcases tf t27 with g38 | g38
        ·refine .H fld64_0 Z (notT g38) Z (.U Z (notT g38) (O.ld (y := .i x0.Kind) ty3 Z Z Z) (.G Z (notT g38) Z (.N Z (notT g38) (.H fld64_14 Z g37 Z (.U Z g37 (O.ld (y := .i x0.Rate) ty3 Z Z Z) (.call (.b t29) [] 0 (lombardref10_in.ok ((if_pos ⟨(by simp only [g31, g34, g37, g38, BL]), (by simp only [g31, g34, g37, g38, BL])⟩).symm.trans b30)) Z (met Z Z Z g37) Z ca97 Z Z (cI (cI (cI .nil))) Z Z Z Z Z ?_)))))); exact .U Z g37 (OpL.unV Z Z Z) (.U Z (notT g38) (O.pickT g37 Z Z Z) (.E (notT g38) Z (.nil (toN (Gm [] (.r Z Z (.c Z (sbb (by simp only [g31, g34, g37, g38, BL])) Z .n)) (.r Z Z Z .n) Z)))))
        ·(iterate 4 refine .X Z (notF g38) ?_); (iterate 4 refine .x Z (unmetU Z Z Z) ?_); exact .X Z (notF g38) (.T (notF g38) Z (.nil (toN (Gm [] (.r Z Z (.c Z (sbb (by simp only [g31, g34, g37, g38, BL])) Z .n)) (.r Z Z Z .n) Z))))
       ·(iterate 4 refine .X Z g37 ?_); refine .E g37 Z (.M Z (.H fld64_0 Z Z Z (.U Z Z (O.ld (y := .i x0.Kind) ty3 Z Z Z) (.G Z Z Z (.N Z Z ?_))))); (iterate 4 refine .X Z g37 ?_); exact .U Z Z (O.pickF g37 Z Z Z) (.E Z Z (.nil (toN (Gm [] (.r Z Z (.c Z (sbb (by simp only [g31, g34, g37, BL])) Z .n)) (.r Z Z Z .n) Z))))
  ·clear h; refine W.pk (.F fld64_0 Z (.V Z (O.ld (y := .i x0.Kind) ty3 Z Z Z) (.B Z (.M Z ?_)))); rcases tf (x0.Kind == 6) with g10 | g10
   ·(iterate 3 refine .X Z g10 ?_); refine .T g10 Z (.M Z (.H fld64_8 Z Z Z (.U Z Z (O.ld (y := .i x0.N) ty3 Z Z Z) (.call (.b t4) [] 0 (lombardref10_signed.ok ((if_pos (by simp only [g10, BL])).symm.trans b5)) Z (met Z Z Z Z) Z ca101 Z Z (cI .nil) Z Z Z Z Z ?_)))); refine .U Z Z (OpL.unV Z Z Z) (.T Z Z (.M Z ?_)); rcases tf t4 with g11 | g11
    ·refine .H fld64_0 Z (notT g11) Z (.U Z (notT g11) (O.ld (y := .i x0.Kind) ty3 Z Z Z) (.G Z (notT g11) Z (.N Z (notT g11) ?_))); rcases tf (x0.Kind == 9) with g12 | g12
     ·refine .H fld64_8 Z g12 Z (.U Z g12 (O.ld (y := .i x0.N) ty3 Z Z Z) (.call (.b t6) [] 0 (lombardref10_Amount.ok ((if_pos ⟨(by simp only [g10, g11, g12, BL]), (by simp only [g10, g11, g12, BL])⟩).symm.trans b7)) Z (met Z Z Z g12) Z ca98 Z Z (cI .nil) Z Z Z Z Z ?_)); refine .U Z g12 (OpL.unV Z Z Z) (.U Z (notT g11) (O.pickT g12 Z Z Z) (.E (notT g11) Z (.M Z ?_))); rcases tf t6 with g13 | g13
      ·refine .H fld64_0 Z (notT g13) Z (.U Z (notT g13) (O.ld (y := .i x0.Kind) ty3 Z Z Z) (.G Z (notT g13) Z (.N Z (notT g13) ?_))); rcases tf (x0.Kind == 14) with g14 | g14
       ·refine .H fld64_8 Z g14 Z (.U Z g14 (O.ld (y := .i x0.N) ty3 Z Z Z) (.call (.b t8) [] 0 (lombardref10_in.ok ((if_pos ⟨(by simp only [g10, g11, g12, g13, g14, BL]), (by simp only [g10, g11, g12, g13, g14, BL])⟩).symm.trans b9)) Z (met Z Z Z g14) Z ca97 Z Z (cI (cI (cI .nil))) Z Z Z Z Z ?_)); exact .U Z g14 (OpL.unV Z Z Z) (.U Z (notT g13) (O.pickT g14 Z Z Z) (.E (notT g13) Z (.nil (toN (Gm [] (.r Z Z (.c Z (sbb (by simp only [g10, g11, g12, g13, g14, BL])) Z .n)) (.r Z Z Z .n) Z)))))
       ·(iterate 4 refine .X Z g14 ?_); exact .U Z (notT g13) (O.pickF g14 Z Z Z) (.E (notT g13) Z (.nil (toN (Gm [] (.r Z Z (.c Z (sbb (by simp only [g10, g11, g12, g13, g14, BL])) Z .n)) (.r Z Z Z .n) Z))))
      ·(iterate 4 refine .X Z (notF g13) ?_); (iterate 4 refine .x Z (unmetU Z Z Z) ?_); exact .X Z (notF g13) (.T (notF g13) Z (.nil (toN (Gm [] (.r Z Z (.c Z (sbb (by simp only [g10, g11, g12, g13, BL])) Z .n)) (.r Z Z Z .n) Z))))
     ·(iterate 4 refine .X Z g12 ?_); refine .U Z (notT g11) (O.pickF g12 Z Z Z) (.E (notT g11) Z (.M Z (.H fld64_0 Z Z Z (.U Z Z (O.ld (y := .i x0.Kind) ty3 Z Z Z) (.G Z Z Z (.N Z Z ?_)))))); rcases tf (x0.Kind == 14) with g15 | g15
      ·refine .H fld64_8 Z g15 Z (.U Z g15 (O.ld (y := .i x0.N) ty3 Z Z Z) (.call (.b t8) [] 0 (lombardref10_in.ok ((if_pos ⟨(by simp only [g10, g11, g12, g15, BL]), (by simp only [g10, g11, g12, g15, BL])⟩).symm.trans b9)) Z (met Z Z Z g15) Z ca97 Z Z (cI (cI (cI .nil))) Z Z Z Z Z ?_)); exact .U Z g15 (OpL.unV Z Z Z) (.U Z Z (O.pickT g15 Z Z Z) (.E Z Z (.nil (toN (Gm [] (.r Z Z (.c Z (sbb (by simp only [g10, g11, g12, g15, BL])) Z .n)) (.r Z Z Z .n) Z)))))
      ·(iterate 4 refine .X Z g15 ?_); exact .U Z Z (O.pickF g15 Z Z Z) (.E Z Z (.nil (toN (Gm [] (.r Z Z (.c Z (sbb (by simp only [g10, g11, g12, g15, BL])) Z .n)) (.r Z Z Z .n) Z))))
    ·(iterate 4 refine .X Z (notF g11) ?_); (iterate 4 refine .x Z (unmetU Z Z Z) ?_); refine .X Z (notF g11) (.T (notF g11) Z (.M Z ?_)); (iterate 4 refine .X Z Z ?_); (iterate 4 refine .x Z (unmetU Z Z Z) ?_); exact .X Z Z (.T Z Z (.nil (toN (Gm [] (.r Z Z (.c Z (sbb (by simp only [g10, g11, BL])) Z .n)) (.r Z Z Z .n) Z))))
   ·refine .H fld64_0 Z g10 Z (.U Z g10 (O.ld (y := .i x0.Kind) ty3 Z Z Z) (.G Z g10 Z (.E g10 Z (.M Z ?_)))); rcases tf (x0.Kind == 7) with g16 | g16
    ·refine .H fld64_8 Z g16 Z (.U Z g16 (O.ld (y := .i x0.N) ty3 Z Z Z) (.call (.b t4) [] 0 (lombardref10_signed.ok ((if_pos (by simp only [g10, g16, BL])).symm.trans b5)) Z (met Z Z Z g16) Z ca101 Z Z (cI .nil) Z Z Z Z Z ?_)); refine .U Z g16 (OpL.unV Z Z Z) (.T g16 Z (.M Z ?_)); rcases tf t4 with g17 | g17
     ·refine .H fld64_0 Z (notT g17) Z (.U Z (notT g17) (O.ld (y := .i x0.Kind) ty3 Z Z Z) (.G Z (notT g17) Z (.N Z (notT g17) ?_))); rcases tf (x0.Kind == 9) with g18 | g18
      ·refine .H fld64_8 Z g18 Z (.U Z g18 (O.ld (y := .i x0.N) ty3 Z Z Z) (.call (.b t6) [] 0 (lombardref10_Amount.ok ((if_pos ⟨(by simp only [g10, g16, g17, g18, BL]), (by simp only [g10, g16, g17, g18, BL])⟩).symm.trans b7)) Z (met Z Z Z g18) Z ca98 Z Z (cI .nil) Z Z Z Z Z ?_)); refine .U Z g18 (OpL.unV Z Z Z) (.U Z (notT g17) (O.pickT g18 Z Z Z) (.E (notT g17) Z (.M Z ?_))); rcases tf t6 with g19 | g19
       ·refine .H fld64_0 Z (notT g19) Z (.U Z (notT g19) (O.ld (y := .i x0.Kind) ty3 Z Z Z) (.G Z (notT g19) Z (.N Z (notT g19) ?_))); rcases tf (x0.Kind == 14) with g20 | g20
        ·refine .H fld64_8 Z g20 Z (.U Z g20 (O.ld (y := .i x0.N) ty3 Z Z Z) (.call (.b t8) [] 0 (lombardref10_in.ok ((if_pos ⟨(by simp only [g10, g16, g17, g18, g19, g20, BL]), (by simp only [g10, g16, g17, g18, g19, g20, BL])⟩).symm.trans b9)) Z (met Z Z Z g20) Z ca97 Z Z (cI (cI (cI .nil))) Z Z Z Z Z ?_)); exact .U Z g20 (OpL.unV Z Z Z) (.U Z (notT g19) (O.pickT g20 Z Z Z) (.E (notT g19) Z (.nil (toN (Gm [] (.r Z Z (.c Z (sbb (by simp only [g10, g16, g17, g18, g19, g20, BL])) Z .n)) (.r Z Z Z .n) Z)))))
        ·(iterate 4 refine .X Z g20 ?_); exact .U Z (notT g19) (O.pickF g20 Z Z Z) (.E (notT g19) Z (.nil (toN (Gm [] (.r Z Z (.c Z (sbb (by simp only [g10, g16, g17, g18, g19, g20, BL])) Z .n)) (.r Z Z Z .n) Z))))
       ·(iterate 4 refine .X Z (notF g19) ?_); (iterate 4 refine .x Z (unmetU Z Z Z) ?_); exact .X Z (notF g19) (.T (notF g19) Z (.nil (toN (Gm [] (.r Z Z (.c Z (sbb (by simp only [g10, g16, g17, g18, g19, BL])) Z .n)) (.r Z Z Z .n) Z))))
      ·(iterate 4 refine .X Z g18 ?_); refine .U Z (notT g17) (O.pickF g18 Z Z Z) (.E (notT g17) Z (.M Z (.H fld64_0 Z Z Z (.U Z Z (O.ld (y := .i x0.Kind) ty3 Z Z Z) (.G Z Z Z (.N Z Z ?_)))))); rcases tf (x0.Kind == 14) with g21 | g21
       ·refine .H fld64_8 Z g21 Z (.U Z g21 (O.ld (y := .i x0.N) ty3 Z Z Z) (.call (.b t8) [] 0 (lombardref10_in.ok ((if_pos ⟨(by simp only [g10, g16, g17, g18, g21, BL]), (by simp only [g10, g16, g17, g18, g21, BL])⟩).symm.trans b9)) Z (met Z Z Z g21) Z ca97 Z Z (cI (cI (cI .nil))) Z Z Z Z Z ?_)); exact .U Z g21 (OpL.unV Z Z Z) (.U Z Z (O.pickT g21 Z Z Z) (.E Z Z (.nil (toN (Gm [] (.r Z Z (.c Z (sbb (by simp only [g10, g16, g17, g18, g21, BL])) Z .n)) (.r Z Z Z .n) Z)))))
       ·(iterate 4 refine .X Z g21 ?_); exact .U Z Z (O.pickF g21 Z Z Z) (.E Z Z (.nil (toN (Gm [] (.r Z Z (.c Z (sbb (by simp only [g10, g16, g17, g18, g21, BL])) Z .n)) (.r Z Z Z .n) Z))))
     ·(iterate 4 refine .X Z (notF g17) ?_); (iterate 4 refine .x Z (unmetU Z Z Z) ?_); refine .X Z (notF g17) (.T (notF g17) Z (.M Z ?_)); (iterate 4 refine .X Z Z ?_); (iterate 4 refine .x Z (unmetU Z Z Z) ?_); exact .X Z Z (.T Z Z (.nil (toN (Gm [] (.r Z Z (.c Z (sbb (by simp only [g10, g16, g17, BL])) Z .n)) (.r Z Z Z .n) Z))))
    ·(iterate 4 refine .X Z g16 ?_); refine .E g16 Z (.M Z (.H fld64_0 Z Z Z (.U Z Z (O.ld (y := .i x0.Kind) ty3 Z Z Z) (.G Z Z Z (.N Z Z ?_))))); rcases tf (x0.Kind == 9) with g22 | g22
     ·refine .H fld64_8 Z g22 Z (.U Z g22 (O.ld (y := .i x0.N) ty3 Z Z Z) (.call (.b t6) [] 0 (lombardref10_Amount.ok ((if_pos ⟨(by simp only [g10, g16, g22, BL]), (by simp only [g10, g16, g22, BL])⟩).symm.trans b7)) Z (met Z Z Z g22) Z ca98 Z Z (cI .nil) Z Z Z Z Z ?_)); refine .U Z g22 (OpL.unV Z Z Z) (.U Z Z (O.pickT g22 Z Z Z) (.E Z Z (.M Z ?_))); rcases tf t6 with g23 | g23
      ·refine .H fld64_0 Z (notT g23) Z (.U Z (notT g23) (O.ld (y := .i x0.Kind) ty3 Z Z Z) (.G Z (notT g23) Z (.N Z (notT g23) ?_))); rcases tf (x0.Kind == 14) with g24 | g24
       ·refine .H fld64_8 Z g24 Z (.U Z g24 (O.ld (y := .i x0.N) ty3 Z Z Z) (.call (.b t8) [] 0 (lombardref10_in.ok ((if_pos ⟨(by simp only [g10, g16, g22, g23, g24, BL]), (by simp only [g10, g16, g22, g23, g24, BL])⟩).symm.trans b9)) Z (met Z Z Z g24) Z ca97 Z Z (cI (cI (cI .nil))) Z Z Z Z Z ?_)); exact .U Z g24 (OpL.unV Z Z Z) (.U Z (notT g23) (O.pickT g24 Z Z Z) (.E (notT g23) Z (.nil (toN (Gm [] (.r Z Z (.c Z (sbb (by simp only [g10, g16, g22, g23, g24, BL])) Z .n)) (.r Z Z Z .n) Z)))))
       ·(iterate 4 refine .X Z g24 ?_); exact .U Z (notT g23) (O.pickF g24 Z Z Z) (.E (notT g23) Z (.nil (toN (Gm [] (.r Z Z (.c Z (sbb (by simp only [g10, g16, g22, g23, g24, BL])) Z .n)) (.r Z Z Z .n) Z))))
      ·(iterate 4 refine .X Z (notF g23) ?_); (iterate 4 refine .x Z (unmetU Z Z Z) ?_); exact .X Z (notF g23) (.T (notF g23) Z (.nil (toN (Gm [] (.r Z Z (.c Z (sbb (by simp only [g10, g16, g22, g23, BL])) Z .n)) (.r Z Z Z .n) Z))))
     ·(iterate 4 refine .X Z g22 ?_); refine .U Z Z (O.pickF g22 Z Z Z) (.E Z Z (.M Z (.H fld64_0 Z Z Z (.U Z Z (O.ld (y := .i x0.Kind) ty3 Z Z Z) (.G Z Z Z (.N Z Z ?_)))))); rcases tf (x0.Kind == 14) with g25 | g25
      ·refine .H fld64_8 Z g25 Z (.U Z g25 (O.ld (y := .i x0.N) ty3 Z Z Z) (.call (.b t8) [] 0 (lombardref10_in.ok ((if_pos ⟨(by simp only [g10, g16, g22, g25, BL]), (by simp only [g10, g16, g22, g25, BL])⟩).symm.trans b9)) Z (met Z Z Z g25) Z ca97 Z Z (cI (cI (cI .nil))) Z Z Z Z Z ?_)); exact .U Z g25 (OpL.unV Z Z Z) (.U Z Z (O.pickT g25 Z Z Z) (.E Z Z (.nil (toN (Gm [] (.r Z Z (.c Z (sbb (by simp only [g10, g16, g22, g25, BL])) Z .n)) (.r Z Z Z .n) Z)))))
      ·(iterate 4 refine .X Z g25 ?_); exact .U Z Z (O.pickF g25 Z Z Z) (.E Z Z (.nil (toN (Gm [] (.r Z Z (.c Z (sbb (by simp only [g10, g16, g22, g25, BL])) Z .n)) (.r Z Z Z .n) Z))))

noncomputable def lombardref10_Check.f (x0 : lombardref10_Msg) : Option (Int) :=
 if (x0.Kind == 2) = true then
 (lombardref05_Asset.f x0.Asset).bind fun t2 =>
 some t2
 else if (x0.Kind == 3) = true then
 (lombardref10_Basket.f x0.Basket).bind fun t5 =>
 some t5
 else if (x0.Kind == 4) = true then
 (lombardref10_prices.f x0.Prices).bind fun t8 =>
 some t8
 else if (x0.Kind == 5) = true then
 (lombardref10_day.f x0.Day).bind fun t11 =>
 some t11
 else (if (x0.Kind == 6) = true then lombardref05_Currency.f x0.Text else some default).bind fun t13 =>
 if ((x0.Kind == 6) && (!t13)) = true then
 some 11
 else (if (x0.Kind == 8) = true then lombardref10_Member.f x0.Quote.Member else some default).bind fun t17 =>
 if ((x0.Kind == 8) && (!t17)) = true then
 some 1
 else if (x0.Kind == 8) = true then
 (lombardref10_Quote.f x0.Quote).bind fun t22 =>
 some t22
 else if ((decide (x0.Kind < 1)) || (decide (x0.Kind > 15))) = true then
 some 17
 else (if (x0.Kind != 15) = true then lombardref10_Member.f x0.Member else some default).bind fun t26 =>
 if ((x0.Kind != 15) && (!t26)) = true then
 some 1
 else (lombardref10_rest.f x0).bind fun t30 =>
 some t30
theorem lombardref10_Check.ok {x0 : lombardref10_Msg} {r : Int} (h : lombardref10_Check.f x0 = some r) : Pm.Spec prog 44 [.agg (im (lombardref10_Msg.enc x0))] (.imm (.val (.int .i64 r))) [none] := by
 unfold lombardref10_Check.f at h; refine Pm.Spec.of_body Tryz.func44 Z (by kernel_rfl) (L Z) (L Z) ?_; refine W.ghost (σ' := (mkSt [(0, some (.agg (lombardref10_Msg.av x0)))] [] 1000)) (Gives.entry (.c Z .n) .n) (W.seq (W.pk (.t Z Z (O.box Z Z Z Z Z) (.A Z (.nil (W.seq (W.seq (W.pk (.F fld64_0 Z (.V Z (O.ld (y := .i x0.Kind) ty3 Z Z Z) (.B Z ?_))))))))))); refine .nil (W.cnd Z h (fun q1 h => ?_) (fun q1 h => ?_))
 ·refine W.seq ?_; obtain ⟨t2, b3, h⟩ := bnd1 h; refine W.pk (.F fld64_3 Z (.V Z (O.ldN ty52 Z Z Z) (.C (.i t2) [] 0 (lombardref05_Asset.ok b3) ca73 Z (cC (.agg _ _ _ _ (cI (cI (cI (cI (cI .nil)))))) .nil) Z ?_))); refine .A Z (.nil (W.ret ?_)); cases h; exact lv Z Z
 ·refine W.skip (W.seq (W.seq (W.pk (.F fld64_0 Z (.V Z (O.ld (y := .i x0.Kind) ty3 Z Z Z) (.B Z (.nil (W.cnd Z h (fun q4 h => ?_) (fun q4 h => ?_)))))))))
  ·refine W.seq ?_; obtain ⟨t5, b6, h⟩ := bnd1 h; refine W.pk (.F fld64_4 Z (.V Z (O.ldN ty56 Z Z Z) (.C (.i t5) [] 0 (lombardref10_Basket.ok b6) ca74 Z (cC (.agg _ _ _ _ (cI (cI (cI (cI (cI (cI (cI (cI (cI (cI .nil))))))))))) .nil) Z ?_))); refine .A Z (.nil (W.ret ?_)); cases h; exact lv Z Z
  ·refine W.skip (W.seq (W.seq (W.pk (.F fld64_0 Z (.V Z (O.ld (y := .i x0.Kind) ty3 Z Z Z) (.B Z (.nil (W.cnd Z h (fun q7 h => ?_) (fun q7 h => ?_)))))))))
   ·refine W.seq ?_; obtain ⟨t8, b9, h⟩ := bnd1 h; refine W.pk (.F fld64_5 Z (.V Z (O.ld (y := .imm (.row 2 (List.map api_Price.enc x0.Prices))) ty57 Z Z Z) (.C (.i t8) [] 0 (lombardref10_prices.ok b9) ca75 Z (cI .nil) Z ?_))); refine .A Z (.nil (W.ret ?_)); cases h; exact lv Z Z
   ·refine W.skip (W.seq (W.seq (W.pk (.F fld64_0 Z (.V Z (O.ld (y := .i x0.Kind) ty3 Z Z Z) (.B Z (.nil (W.cnd Z h (fun q10 h => ?_) (fun q10 h => ?_)))))))))
    ·refine W.seq ?_; obtain ⟨t11, b12, h⟩ := bnd1 h; refine W.pk (.F fld64_6 Z (.V Z (O.ld (y := .i x0.Day) ty3 Z Z Z) (.C (.i t11) [] 0 (lombardref10_day.ok b12) ca76 Z (cI .nil) Z ?_))); refine .A Z (.nil (W.ret ?_)); cases h; exact lv Z Z
    ·refine W.skip (W.seq (W.seq ?_)); obtain ⟨t13, b14, h⟩ := bnd1 h; refine W.fork (mkSt [(1, some (.ptr 1000 0)), (35, some (.b ((x0.Kind == 6) && (!t13))))] [(1000, some (.box (lombardref10_Msg.av x0)))] 1001) ?_ ?_
     ·refine W.cnd Z h (fun q16 h => ?_) (fun q16 h => ?_)
      ·refine W.seq (W.pk (.A Z (.nil (W.ret ?_)))); cases h; exact lv Z Z
      ·refine W.skip (W.seq (W.seq ?_)); obtain ⟨t17, b18, h⟩ := bnd1 h; refine W.fork (mkSt [(1, some (.ptr 1000 0)), (45, some (.b ((x0.Kind == 8) && (!t17))))] [(1000, some (.box (lombardref10_Msg.av x0)))] 1001) ?_ ?_
       ·refine W.cnd Z h (fun q20 h => ?_) (fun q20 h => ?_)
        ·refine W.seq (W.pk (.A Z (.nil (W.ret ?_)))); cases h; exact lv Z Z
        ·refine W.skip (W.seq (W.seq (W.pk (.F fld64_0 Z (.V Z (O.ld (y := .i x0.Kind) ty3 Z Z Z) (.B Z (.nil (W.cnd Z h (fun q21 h => ?_) (fun q21 h => ?_)))))))))
         ·refine W.seq ?_; obtain ⟨t22, b23, h⟩ := bnd1 h; refine W.pk (.F fld64_9 Z (.V Z (O.ldN ty59 Z Z Z) (.C (.i t22) [] 0 (lombardref10_Quote.ok b23) ca79 Z (cC (.agg _ _ _ _ (cI (cI (cI (cI (cI (cI (cI (cI .nil))))))))) .nil) Z ?_))); refine .A Z (.nil (W.ret ?_)); cases h; exact lv Z Z
         ·refine W.skip (W.seq (W.seq (W.fork (mkSt [(1, some (.ptr 1000 0)), (59, some (.b ((decide (x0.Kind < 1)) || (decide (x0.Kind > 15)))))] [(1000, some (.box (lombardref10_Msg.av x0)))] 1001) ?_ ?_)))
          ·refine W.cnd Z h (fun q25 h => ?_) (fun q25 h => ?_)
           ·refine W.seq (W.pk (.A Z (.nil (W.ret ?_)))); cases h; exact lv Z Z
           ·refine W.skip (W.seq (W.seq ?_)); obtain ⟨t26, b27, h⟩ := bnd1 h; refine W.fork (mkSt [(1, some (.ptr 1000 0)), (68, some (.b ((x0.Kind != 15) && (!t26))))] [(1000, some (.box (lombardref10_Msg.av x0)))] 1001) ?_ ?_
            ·refine W.cnd Z h (fun q29 h => ?_) (fun q29 h => ?_)
             ·refine W.seq (W.pk (.A Z (.nil (W.ret ?_)))); cases h; exact lv Z Z
             ·refine W.skip (W.seq ?_); obtain ⟨t30, b31, h⟩ := bnd1 h; refine W.pk (.V Z (O.ldN ty64 Z Z Z) (.C (.i t30) [] 0 (lombardref10_rest.ok b31) ca80 Z (cC (.agg _ _ _ _ (cI (cI (cI (cI (cI (cI (cI (cI (cI (cI (cI (cI (cI (cI (cI (cI (cI (cI (cI (cI (cI (cI (cI (cI (cI (cI (cI (cI (cI (cI (cI (cI (cI (cI (cI (cI .nil))))))))))))))))))))))))))))))))))))) .nil) Z ?_)); refine .A Z (.nil (W.ret ?_)); cases h; exact lv Z Z
            ·clear h; refine W.pk (.F fld64_0 Z (.V Z (O.ld (y := .i x0.Kind) ty3 Z Z Z) (.B Z (.M Z ?_)))); rcases tf (x0.Kind != 15) with g28 | g28
             ·refine .H fld64_1 Z g28 Z (.U Z g28 (O.ld (y := .i x0.Member) ty3 Z Z Z) (.call (.b t26) [] 0 (lombardref10_Member.ok ((if_pos (by simp only [g28, BL])).symm.trans b27)) Z (met Z Z Z g28) Z ca78 Z Z (cI .nil) Z Z Z Z Z ?_)); exact .U Z g28 (OpL.unV Z Z Z) (.T g28 Z (.nil (toN (Gm [] (.r Z Z (.c Z (sbb (by simp only [g28, BL])) Z .n)) (.r Z Z Z .n) Z))))
             ·(iterate 4 refine .X Z g28 ?_); exact .E g28 Z (.nil (toN (Gm [] (.r Z Z (.c Z (sbb (by simp only [g28, BL])) Z .n)) (.r Z Z Z .n) Z)))
          ·clear h; refine W.pk (.F fld64_0 Z (.V Z (O.ld (y := .i x0.Kind) ty3 Z Z Z) (.B Z (.M Z ?_)))); rcases tf (decide (x0.Kind < 1)) with g24 | g24
           ·(iterate 3 refine .X Z g24 ?_); exact .T g24 Z (.nil (toN (Gm [] (.r Z Z (.c Z (sbb (by simp only [g24, BL])) Z .n)) (.r Z Z Z .n) Z)))
           ·exact .H fld64_0 Z g24 Z (.U Z g24 (O.ld (y := .i x0.Kind) ty3 Z Z Z) (.G Z g24 Z (.E g24 Z (.nil (toN (Gm [] (.r Z Z (.c Z (sbb (by simp only [g24, BL])) Z .n)) (.r Z Z Z .n) Z))))))
       ·clear h; refine W.pk (.F fld64_0 Z (.V Z (O.ld (y := .i x0.Kind) ty3 Z Z Z) (.B Z (.M Z ?_)))); rcases tf (x0.Kind == 8) with g19 | g19
        ·refine .H fld64_9 Z g19 Z (.H fld59_1 Z g19 Z (.U Z g19 (O.ld (y := .i x0.Quote.Member) ty3 Z Z Z) (.call (.b t17) [] 0 (lombardref10_Member.ok ((if_pos (by simp only [g19, BL])).symm.trans b18)) Z (met Z Z Z g19) Z ca78 Z Z (cI .nil) Z Z Z Z Z ?_))); exact .U Z g19 (OpL.unV Z Z Z) (.T g19 Z (.nil (toN (Gm [] (.r Z Z (.c Z (sbb (by simp only [g19, BL])) Z .n)) (.r Z Z Z .n) Z))))
        ·(iterate 5 refine .X Z g19 ?_); exact .E g19 Z (.nil (toN (Gm [] (.r Z Z (.c Z (sbb (by simp only [g19, BL])) Z .n)) (.r Z Z Z .n) Z)))
     ·clear h; refine W.pk (.F fld64_0 Z (.V Z (O.ld (y := .i x0.Kind) ty3 Z Z Z) (.B Z (.M Z ?_)))); rcases tf (x0.Kind == 6) with g15 | g15
      ·refine .H fld64_7 Z g15 Z (.U Z g15 (O.ld (y := .s x0.Text) ty9 Z Z Z) (.call (.b t13) [] 0 (lombardref05_Currency.ok ((if_pos (by simp only [g15, BL])).symm.trans b14)) Z (met Z Z Z g15) Z ca77 Z Z (cI .nil) Z Z Z Z Z ?_)); exact .U Z g15 (OpL.unV Z Z Z) (.T g15 Z (.nil (toN (Gm [] (.r Z Z (.c Z (sbb (by simp only [g15, BL])) Z .n)) (.r Z Z Z .n) Z))))
      ·(iterate 4 refine .X Z g15 ?_); exact .E g15 Z (.nil (toN (Gm [] (.r Z Z (.c Z (sbb (by simp only [g15, BL])) Z .n)) (.r Z Z Z .n) Z)))

noncomputable def lombardref30_Find.b0 (x0 : List lombardref30_Member) (x1 : Int) (v4 : Int) : Option (Int ⊕ (Int ⊕ Unit)) :=
 if (decide (v4 < (List.length x0 : Int))) = true then
 if (0 : Int) ≤ v4 ∧ v4 < (List.length x0 : Int) then
 if (((nth x0 v4).ID) == x1) = true then
 some (.inr (.inl v4))
 else some (.inl (IntKind.wrap .i64 (v4 + 1)))
 else none
 else some (.inr (.inr ()))
noncomputable def lombardref30_Find.r0 (x0 : List lombardref30_Member) (x1 : Int) (s : Int) : Option (Int ⊕ (Int ⊕ Unit)) := lombardref30_Find.b0 x0 x1 s
noncomputable def lombardref30_Find.f (x0 : List lombardref30_Member) (x1 : Int) : Option (Int) :=
 (loop (lombardref30_Find.r0 x0 x1) 0).bind fun o12 =>
 match o12 with
 | .inl r18 => some r18
 | .inr w11 =>
 some (-1)
theorem lombardref30_Find.ok {x0 : List lombardref30_Member} {x1 : Int} {r : Int} (h : lombardref30_Find.f x0 x1 = some r) : Pm.Spec prog 19 [.xown 31 5 (List.map lombardref30_Member.enc x0), .imm (.val (.int .i64 x1))] (.imm (.val (.int .i64 r))) [some (.xown 31 5 (List.map lombardref30_Member.enc x0)), none] := by
 unfold lombardref30_Find.f at h; refine Pm.Spec.of_body Tryz.func19 Z (by kernel_rfl) (L Z) (L Z) ?_; refine W.ghost (σ' := (mkSt [(0, some (.own 0)), (1, some (.i x1))] [(0, some (.rows 31 5 (List.map lombardref30_Member.enc x0) false))] 1000)) (Gives.entry (.c Z (.c Z .n)) (.c Z .n)) (W.seq (W.pk (.A Z (.nil (W.seq (W.seq (W.pk (.A Z (.nil ?_))))))))); obtain ⟨o12, b13, z14⟩ := bnd1 h; refine W.fork2 (out := o12) (fun (w11 : Unit) => mkSt [] [(0, some (.rows 31 5 (List.map lombardref30_Member.enc x0) false))] 1000) ?_ ?_
 ·clear h; refine W.block (W.loopF (fun (s_ : Int) => mkSt [(0, some (.own 0)), (1, some (.i x1)), (5, some (.i s_))] [(0, some (.rows 31 5 (List.map lombardref30_Member.enc x0) false))] 1000) b13 (Gm [] (.e Z Z) (.r Z Z Z .n) Z) ?_); rintro v4 s_ hr; have h : lombardref30_Find.b0 x0 x1 v4 = some s_ := hr; unfold lombardref30_Find.b0 at h; refine W.seq (W.seq (W.pk (.M Z (.M Z (.V Z (O.lenO sl24 Z Z Z) (.B Z (.nil (W.cnd Z h (fun q15 h => ?_) (fun q15 h => ?_)))))))))
  ·refine W.skip (W.seq (W.block (W.seq ?_))); obtain ⟨c16, h⟩ := chk h; refine W.pk (.M Z (.M Z (.V Z (O.idxO sl24 c16 Z Z Z Z) (.F fld31_0 Z (.V Z (O.ldE (c := (.val (.int .i64 ((nth x0 v4).ID)))) ty3 c16 Z Z Z Z Z) (.M Z (.B Z (.nil (W.cnd Z h (fun q17 h => ?_) (fun q17 h => ?_))))))))))
   ·refine W.seq (W.pk (.M Z (.A Z (.nil (W.ret ?_))))); cases h; refine rdR fun e_ => ?_; subst e_; have h := z14; dsimp only at h; refine fkR ?_; cases h; exact leaves (.inr Z) Z (.imm _) (cS (.own _ _ _ _ Z) (cN .nil)) Z Z
   ·refine W.skip (W.pk (.M Z (.B Z (.A Z (.nil ?_))))); cases h; exact rdN (Gm [] (.e Z Z) (.r Z Z Z .n) Z)
  ·refine W.exit ?_; cases h; refine rdX fun e_ => ?_; subst e_; (repeat with_reducible refine thru ?_); exact hit (fkN (Gm [] .n (.r Z Z Z .n) Z))
 ·intro w11 e_; subst e_; clear h; have h := z14; dsimp only at h; refine W.seq (W.pk (.A Z (.nil (W.ret ?_)))); cases h; exact leaves (.inr Z) Z (.imm _) (cS (.own _ _ _ _ Z) (cN .nil)) Z Z

noncomputable def lombardref04_low.f (x0 : Int) : Option (Int) :=
 if (((decide (x0 ≥ 65)) && (decide (x0 ≤ 90))) || (((decide (x0 ≥ 192)) && (decide (x0 ≤ 222))) && (x0 != 215))) = true then
 some (IntKind.wrap .i64 (x0 + 32))
 else if (x0 == 376) = true then
 some 255
 else if (((decide (x0 ≥ 256)) && (decide (x0 ≤ 311))) || ((decide (x0 ≥ 330)) && (decide (x0 ≤ 375)))) = true then
 some (IntKind.wrap .i64 ((IntKind.wrap .i64 ((IntKind.wrap .i64 (Int.tdiv x0 2)) * 2)) + 1))
 else if ((((decide (x0 ≥ 313)) && (decide (x0 ≤ 328))) || ((decide (x0 ≥ 377)) && (decide (x0 ≤ 382)))) && ((Int.tmod x0 2) == 1)) = true then
 some (IntKind.wrap .i64 (x0 + 1))
 else some x0
theorem lombardref04_low.ok {x0 : Int} {r : Int} (h : lombardref04_low.f x0 = some r) : Pm.Spec prog 48 [.imm (.val (.int .i64 x0))] (.imm (.val (.int .i64 r))) [none] := by
 unfold lombardref04_low.f at h; refine Pm.Spec.of_body Tryz.func48 Z (by kernel_rfl) (L Z) (L Z) ?_; refine W.ghost (σ' := (mkSt [(0, some (.i x0))] [] 1000)) (Gives.entry (.c Z .n) .n) (W.seq (W.pk (.A Z (.nil (W.seq (W.seq (W.fork (mkSt [(0, some (.i x0)), (20, some (.b (((decide (x0 ≥ 65)) && (decide (x0 ≤ 90))) || (((decide (x0 ≥ 192)) && (decide (x0 ≤ 222))) && (x0 != 215)))))] [] 1000) ?_ ?_)))))))
 ·refine W.cnd Z h (fun q7 h => ?_) (fun q7 h => ?_)
  ·refine W.seq (W.pk (.M Z (.B Z (.A Z (.nil (W.ret ?_)))))); cases h; exact lv Z Z
  ·refine W.skip (W.seq (W.seq (W.pk (.M Z (.B Z (.nil (W.cnd Z h (fun q8 h => ?_) (fun q8 h => ?_))))))))
   ·refine W.seq (W.pk (.A Z (.nil (W.ret ?_)))); cases h; exact lv Z Z
   ·refine W.skip (W.seq (W.seq (W.fork (mkSt [(0, some (.i x0)), (38, some (.b (((decide (x0 ≥ 256)) && (decide (x0 ≤ 311))) || ((decide (x0 ≥ 330)) && (decide (x0 ≤ 375))))))] [] 1000) ?_ ?_)))
    ·refine W.cnd Z h (fun q13 h => ?_) (fun q13 h => ?_)
     ·refine W.seq (W.pk (.M Z (.V Z (O.quo Z Z Z (by decide)) ?_))); refine .B Z (.B Z (.A Z (.nil (W.ret ?_)))); cases h; exact lv Z Z
     ·refine W.skip (W.seq (W.seq (W.fork (mkSt [(0, some (.i x0)), (61, some (.b ((((decide (x0 ≥ 313)) && (decide (x0 ≤ 328))) || ((decide (x0 ≥ 377)) && (decide (x0 ≤ 382)))) && ((Int.tmod x0 2) == 1))))] [] 1000) ?_ ?_)))
      ·refine W.cnd Z h (fun q20 h => ?_) (fun q20 h => ?_)
       ·refine W.seq (W.pk (.M Z (.B Z (.A Z (.nil (W.ret ?_)))))); cases h; exact lv Z Z
       ·refine W.skip (W.seq (W.pk (.M Z (.A Z (.nil (W.ret ?_)))))); cases h; exact lv Z Z
      ·clear h; refine W.pk (.M Z (.B Z (.M Z ?_))); rcases tf (decide (x0 ≥ 313)) with g14 | g14
       ·refine .N Z g14 (.G Z g14 Z (.T g14 Z (.M Z ?_))); rcases tf (decide (x0 ≤ 328)) with g15 | g15
        ·(iterate 3 refine .X Z g15 ?_); (iterate 2 refine .x Z (unmetU Z Z Z) ?_); refine .X Z g15 (.T g15 Z (.M Z (.N Z Z (.U Z Z (O.rem Z Z Z (by decide)) ?_)))); exact .G Z Z Z (.T Z Z (.nil (toN (Gm [] (.r Z Z (.c Z (sbb (by simp only [g14, g15, BL])) Z .n)) .n Z))))
        ·refine .N Z g15 (.G Z g15 Z (.N Z g15 ?_)); rcases tf (decide (x0 ≥ 377)) with g16 | g16
         ·refine .N Z g16 (.G Z g16 Z (.U Z g15 (O.pickT g16 Z Z Z) (.E g15 Z (.M Z ?_)))); rcases tf (decide (x0 ≤ 382)) with g17 | g17
          ·refine .N Z g17 (.U Z g17 (O.rem Z Z Z (by decide)) ?_); exact .G Z g17 Z (.T g17 Z (.nil (toN (Gm [] (.r Z Z (.c Z (sbb (by simp only [g14, g15, g16, g17, BL])) Z .n)) .n Z))))
          ·(iterate 3 refine .X Z g17 ?_); exact .E g17 Z (.nil (toN (Gm [] (.r Z Z (.c Z (sbb (by simp only [g14, g15, g16, g17, BL])) Z .n)) .n Z)))
         ·exact .X Z g16 (.X Z g16 (.U Z g15 (O.pickF g16 Z Z Z) (.E g15 Z (.M Z (.X Z Z (.X Z Z (.X Z Z (.E Z Z (.nil (toN (Gm [] (.r Z Z (.c Z (sbb (by simp only [g14, g15, g16, BL])) Z .n)) .n Z)))))))))))
       ·refine .X Z g14 (.X Z g14 (.E g14 Z (.M Z (.N Z Z (.G Z Z Z (.N Z Z ?_)))))); rcases tf (decide (x0 ≥ 377)) with g18 | g18
        ·refine .N Z g18 (.G Z g18 Z (.U Z Z (O.pickT g18 Z Z Z) (.E Z Z (.M Z ?_)))); rcases tf (decide (x0 ≤ 382)) with g19 | g19
         ·refine .N Z g19 (.U Z g19 (O.rem Z Z Z (by decide)) ?_); exact .G Z g19 Z (.T g19 Z (.nil (toN (Gm [] (.r Z Z (.c Z (sbb (by simp only [g14, g18, g19, BL])) Z .n)) .n Z))))
         ·(iterate 3 refine .X Z g19 ?_); exact .E g19 Z (.nil (toN (Gm [] (.r Z Z (.c Z (sbb (by simp only [g14, g18, g19, BL])) Z .n)) .n Z)))
        ·exact .X Z g18 (.X Z g18 (.U Z Z (O.pickF g18 Z Z Z) (.E Z Z (.M Z (.X Z Z (.X Z Z (.X Z Z (.E Z Z (.nil (toN (Gm [] (.r Z Z (.c Z (sbb (by simp only [g14, g18, BL])) Z .n)) .n Z)))))))))))
    ·clear h; refine W.pk (.M Z (.B Z (.M Z ?_))); rcases tf (decide (x0 ≥ 256)) with g9 | g9
     ·refine .N Z g9 (.G Z g9 Z (.T g9 Z (.M Z ?_))); rcases tf (decide (x0 ≤ 311)) with g10 | g10
      ·(iterate 3 refine .X Z g10 ?_); (iterate 2 refine .x Z (unmetU Z Z Z) ?_); exact .X Z g10 (.T g10 Z (.nil (toN (Gm [] (.r Z Z (.c Z (sbb (by simp only [g9, g10, BL])) Z .n)) .n Z))))
      ·refine .N Z g10 (.G Z g10 Z (.N Z g10 ?_)); rcases tf (decide (x0 ≥ 330)) with g11 | g11
       ·exact .N Z g11 (.G Z g11 Z (.U Z g10 (O.pickT g11 Z Z Z) (.E g10 Z (.nil (toN (Gm [] (.r Z Z (.c Z (sbb (by simp only [g9, g10, g11, BL])) Z .n)) .n Z))))))
       ·exact .X Z g11 (.X Z g11 (.U Z g10 (O.pickF g11 Z Z Z) (.E g10 Z (.nil (toN (Gm [] (.r Z Z (.c Z (sbb (by simp only [g9, g10, g11, BL])) Z .n)) .n Z))))))
     ·refine .X Z g9 (.X Z g9 (.E g9 Z (.M Z (.N Z Z (.G Z Z Z (.N Z Z ?_)))))); rcases tf (decide (x0 ≥ 330)) with g12 | g12
      ·exact .N Z g12 (.G Z g12 Z (.U Z Z (O.pickT g12 Z Z Z) (.E Z Z (.nil (toN (Gm [] (.r Z Z (.c Z (sbb (by simp only [g9, g12, BL])) Z .n)) .n Z))))))
      ·exact .X Z g12 (.X Z g12 (.U Z Z (O.pickF g12 Z Z Z) (.E Z Z (.nil (toN (Gm [] (.r Z Z (.c Z (sbb (by simp only [g9, g12, BL])) Z .n)) .n Z))))))
 ·clear h; refine W.pk (.M Z (.B Z (.M Z ?_))); rcases tf (decide (x0 ≥ 65)) with g1 | g1
  ·refine .N Z g1 (.G Z g1 Z (.T g1 Z (.M Z ?_))); rcases tf (decide (x0 ≤ 90)) with g2 | g2
   ·refine .X Z g2 (.X Z g2 (.X Z g2 ?_)); (iterate 2 refine .x Z (unmetU Z Z Z) ?_); refine .X Z g2 (.X Z g2 ?_); (iterate 2 refine .x Z (unmetU Z Z Z) ?_); exact .X Z g2 (.T g2 Z (.nil (toN (Gm [] (.r Z Z (.c Z (sbb (by simp only [g1, g2, BL])) Z .n)) .n Z))))
   ·refine .N Z g2 (.G Z g2 Z (.N Z g2 ?_)); rcases tf (decide (x0 ≥ 192)) with g3 | g3
    ·refine .N Z g3 (.G Z g3 Z (.U Z g2 (O.pickT g3 Z Z Z) (.N Z g2 ?_))); rcases tf (decide (x0 ≤ 222)) with g4 | g4
     ·exact .N Z g4 (.G Z g4 Z (.U Z g2 (O.pickT g4 Z Z Z) (.E g2 Z (.nil (toN (Gm [] (.r Z Z (.c Z (sbb (by simp only [g1, g2, g3, g4, BL])) Z .n)) .n Z))))))
     ·exact .X Z g4 (.X Z g4 (.U Z g2 (O.pickF g4 Z Z Z) (.E g2 Z (.nil (toN (Gm [] (.r Z Z (.c Z (sbb (by simp only [g1, g2, g3, g4, BL])) Z .n)) .n Z))))))
    ·exact .X Z g3 (.X Z g3 (.U Z g2 (O.pickF g3 Z Z Z) (.N Z g2 (.X Z Z (.X Z Z (.U Z g2 (O.pickF Z Z Z Z) (.E g2 Z (.nil (toN (Gm [] (.r Z Z (.c Z (sbb (by simp only [g1, g2, g3, BL])) Z .n)) .n Z))))))))))
  ·refine .X Z g1 (.X Z g1 (.E g1 Z (.M Z (.N Z Z (.G Z Z Z (.N Z Z ?_)))))); rcases tf (decide (x0 ≥ 192)) with g5 | g5
   ·refine .N Z g5 (.G Z g5 Z (.U Z Z (O.pickT g5 Z Z Z) (.N Z Z ?_))); rcases tf (decide (x0 ≤ 222)) with g6 | g6
    ·exact .N Z g6 (.G Z g6 Z (.U Z Z (O.pickT g6 Z Z Z) (.E Z Z (.nil (toN (Gm [] (.r Z Z (.c Z (sbb (by simp only [g1, g5, g6, BL])) Z .n)) .n Z))))))
    ·exact .X Z g6 (.X Z g6 (.U Z Z (O.pickF g6 Z Z Z) (.E Z Z (.nil (toN (Gm [] (.r Z Z (.c Z (sbb (by simp only [g1, g5, g6, BL])) Z .n)) .n Z))))))
   ·exact .X Z g5 (.X Z g5 (.U Z Z (O.pickF g5 Z Z Z) (.N Z Z (.X Z Z (.X Z Z (.U Z Z (O.pickF Z Z Z Z) (.E Z Z (.nil (toN (Gm [] (.r Z Z (.c Z (sbb (by simp only [g1, g5, BL])) Z .n)) .n Z))))))))))

noncomputable def lombardref04_Text.f (x0 : Int) : Option (Bs) :=
 if (decide (x0 < 128)) = true then
 some (toB [(IntKind.wrap .u8 x0)])
 else if (decide (x0 < 2048)) = true then
 some (toB [(IntKind.wrap .u8 (IntKind.wrap .i64 (192 + (IntKind.wrap .i64 (Int.tdiv x0 64))))), (IntKind.wrap .u8 (IntKind.wrap .i64 (128 + (Int.tmod x0 64))))])
 else if (decide (x0 < 65536)) = true then
 some (toB [(IntKind.wrap .u8 (IntKind.wrap .i64 (224 + (IntKind.wrap .i64 (Int.tdiv x0 4096))))), (IntKind.wrap .u8 (IntKind.wrap .i64 (128 + (Int.tmod (IntKind.wrap .i64 (Int.tdiv x0 64)) 64)))), (IntKind.wrap .u8 (IntKind.wrap .i64 (128 + (Int.tmod x0 64))))])
 else some (toB [(IntKind.wrap .u8 (IntKind.wrap .i64 (240 + (IntKind.wrap .i64 (Int.tdiv x0 262144))))), (IntKind.wrap .u8 (IntKind.wrap .i64 (128 + (Int.tmod (IntKind.wrap .i64 (Int.tdiv x0 4096)) 64)))), (IntKind.wrap .u8 (IntKind.wrap .i64 (128 + (Int.tmod (IntKind.wrap .i64 (Int.tdiv x0 64)) 64)))), (IntKind.wrap .u8 (IntKind.wrap .i64 (128 + (Int.tmod x0 64))))])
theorem lombardref04_Text.ok {x0 : Int} {r : Bs} (h : lombardref04_Text.f x0 = some r) : Pm.Spec prog 47 [.imm (.val (.int .i64 x0))] (.imm (.val (.string (tx r)))) [none] := by
 unfold lombardref04_Text.f at h; refine Pm.Spec.of_body Tryz.func47 Z (by kernel_rfl) (L Z) (L Z) ?_; refine W.ghost (σ' := (mkSt [(0, some (.i x0))] [] 1000)) (Gives.entry (.c Z .n) .n) (W.seq (W.pk (.A Z (.nil (W.seq (W.seq (W.pk (.M Z (.B Z (.nil (W.cnd Z h (fun q1 h => ?_) (fun q1 h => ?_))))))))))))
 ·refine W.seq (W.pk (.M Z (.V Z (O.conv h3 u5 Z Z) (.t Z Z (O.lit (enc := (encI .u8)) (l := [(IntKind.wrap .u8 x0)]) sl154 Z Z Z Z Z Z Z Z Z) (.V Z (O.toS (l := [(IntKind.wrap .u8 x0)]) sl154.ht u5 u9 Z Z Z) (.A Z (.nil (W.ret ?_)))))))); cases h; exact lv Z Z
 ·refine W.skip (W.seq (W.seq (W.pk (.M Z (.B Z (.nil (W.cnd Z h (fun q2 h => ?_) (fun q2 h => ?_))))))))
  ·refine W.seq (W.pk (.M Z (.V Z (O.quo Z Z Z (by decide)) ?_))); refine .B Z (.V Z (O.conv h3 u5 Z Z) (.M Z (.V Z (O.rem Z Z Z (by decide)) ?_))); refine .B Z (.V Z (O.conv h3 u5 Z Z) (.t Z Z (O.lit (enc := (encI .u8)) (l := [(IntKind.wrap .u8 (IntKind.wrap .i64 (192 + (IntKind.wrap .i64 (Int.tdiv x0 64))))), (IntKind.wrap .u8 (IntKind.wrap .i64 (128 + (Int.tmod x0 64))))]) sl154 Z Z Z Z Z Z Z Z Z) (.V Z (O.toS (l := [(IntKind.wrap .u8 (IntKind.wrap .i64 (192 + (IntKind.wrap .i64 (Int.tdiv x0 64))))), (IntKind.wrap .u8 (IntKind.wrap .i64 (128 + (Int.tmod x0 64))))]) sl154.ht u5 u9 Z Z Z) (.A Z (.nil (W.ret ?_)))))); cases h; exact lv Z Z
  ·refine W.skip (W.seq (W.seq (W.pk (.M Z (.B Z (.nil (W.cnd Z h (fun q3 h => ?_) (fun q3 h => ?_))))))))
   ·refine W.seq (W.pk (.M Z (.V Z (O.quo Z Z Z (by decide)) ?_))); refine .B Z (.V Z (O.conv h3 u5 Z Z) (.M Z (.V Z (O.quo Z Z Z (by decide)) ?_))); refine .V Z (O.rem Z Z Z (by decide)) ?_; refine .B Z (.V Z (O.conv h3 u5 Z Z) (.M Z (.V Z (O.rem Z Z Z (by decide)) ?_))); refine .B Z (.V Z (O.conv h3 u5 Z Z) (.t Z Z (O.lit (enc := (encI .u8)) (l := [(IntKind.wrap .u8 (IntKind.wrap .i64 (224 + (IntKind.wrap .i64 (Int.tdiv x0 4096))))), (IntKind.wrap .u8 (IntKind.wrap .i64 (128 + (Int.tmod (IntKind.wrap .i64 (Int.tdiv x0 64)) 64)))), (IntKind.wrap .u8 (IntKind.wrap .i64 (128 + (Int.tmod x0 64))))]) sl154 Z Z Z Z Z Z Z Z Z) (.V Z (O.toS (l := [(IntKind.wrap .u8 (IntKind.wrap .i64 (224 + (IntKind.wrap .i64 (Int.tdiv x0 4096))))), (IntKind.wrap .u8 (IntKind.wrap .i64 (128 + (Int.tmod (IntKind.wrap .i64 (Int.tdiv x0 64)) 64)))), (IntKind.wrap .u8 (IntKind.wrap .i64 (128 + (Int.tmod x0 64))))]) sl154.ht u5 u9 Z Z Z) (.A Z (.nil (W.ret ?_)))))); cases h; exact lv Z Z
   ·refine W.skip (W.seq (W.pk (.M Z (.V Z (O.quo Z Z Z (by decide)) ?_)))); refine .B Z (.V Z (O.conv h3 u5 Z Z) (.M Z (.V Z (O.quo Z Z Z (by decide)) ?_))); refine .V Z (O.rem Z Z Z (by decide)) ?_; refine .B Z (.V Z (O.conv h3 u5 Z Z) (.M Z (.V Z (O.quo Z Z Z (by decide)) ?_))); refine .V Z (O.rem Z Z Z (by decide)) ?_; refine .B Z (.V Z (O.conv h3 u5 Z Z) (.M Z (.V Z (O.rem Z Z Z (by decide)) ?_))); refine .B Z (.V Z (O.conv h3 u5 Z Z) (.t Z Z (O.lit (enc := (encI .u8)) (l := [(IntKind.wrap .u8 (IntKind.wrap .i64 (240 + (IntKind.wrap .i64 (Int.tdiv x0 262144))))), (IntKind.wrap .u8 (IntKind.wrap .i64 (128 + (Int.tmod (IntKind.wrap .i64 (Int.tdiv x0 4096)) 64)))), (IntKind.wrap .u8 (IntKind.wrap .i64 (128 + (Int.tmod (IntKind.wrap .i64 (Int.tdiv x0 64)) 64)))), (IntKind.wrap .u8 (IntKind.wrap .i64 (128 + (Int.tmod x0 64))))]) sl154 Z Z Z Z Z Z Z Z Z) (.V Z (O.toS (l := [(IntKind.wrap .u8 (IntKind.wrap .i64 (240 + (IntKind.wrap .i64 (Int.tdiv x0 262144))))), (IntKind.wrap .u8 (IntKind.wrap .i64 (128 + (Int.tmod (IntKind.wrap .i64 (Int.tdiv x0 4096)) 64)))), (IntKind.wrap .u8 (IntKind.wrap .i64 (128 + (Int.tmod (IntKind.wrap .i64 (Int.tdiv x0 64)) 64)))), (IntKind.wrap .u8 (IntKind.wrap .i64 (128 + (Int.tmod x0 64))))]) sl154.ht u5 u9 Z Z Z) (.A Z (.nil (W.ret ?_)))))); cases h; exact lv Z Z

noncomputable def lombardref04_Fold.b0 (t1 : (List Int) × (List Int) × Bool) (v10 : Bs) (v11 : Int) : Option ((Bs × Int) ⊕ Bs) :=
 if (decide (v11 < (List.length t1.1 : Int))) = true then
 if (0 : Int) ≤ v11 ∧ v11 < (List.length t1.1 : Int) then
 (lombardref04_low.f (nth t1.1 v11)).bind fun t32 =>
 (lombardref04_Text.f t32).bind fun t34 =>
 if (v10.length : Int) + t34.length ≤ 9223372036854775807 then
 some (.inl ((v10 ++ t34), (IntKind.wrap .i64 (v11 + 1))))
 else none
 else none
 else some (.inr v10)
noncomputable def lombardref04_Fold.r0 (t1 : (List Int) × (List Int) × Bool) (s : Bs × Int) : Option ((Bs × Int) ⊕ Bs) := lombardref04_Fold.b0 t1 s.1 s.2
noncomputable def lombardref04_Fold.f (x0 : Bs) : Option (Bs) :=
 (lombardref04_Signs.f x0).bind fun t1 =>
 (loop (lombardref04_Fold.r0 t1) ([], 0)).bind fun o27 =>
 some o27
theorem lombardref04_Fold.ok {x0 : Bs} {r : Bs} (h : lombardref04_Fold.f x0 = some r) : Pm.Spec prog 27 [.imm (.val (.string (tx x0)))] (.imm (.val (.string (tx r)))) [none] := by
 unfold lombardref04_Fold.f at h; refine Pm.Spec.of_body Tryz.func27 Z (by kernel_rfl) (L Z) (L Z) ?_; refine W.ghost (σ' := (mkSt [(0, some (.s x0))] [] 1000)) (Gives.entry (.c Z .n) .n) (W.seq (W.pk (.A Z (.nil (W.seq ?_))))); obtain ⟨t1, b2, h⟩ := bnd1 h; refine W.pk (.M Z (.C (.tup [.own 1000, .own 1001, .b t1.2.2]) [(1000, some (.rows 3 1 (List.map (encI .i64) t1.1) false)), (1001, some (.rows 3 1 (List.map (encI .i64) t1.2.1) false))] 2 (lombardref04_Signs.ok b2) ca46 Z (cI .nil) Z ?_)); refine .M Z ?_; (iterate 3 refine .V Z (OpL.extract Z Z Z) ?_); refine .A Z (.A Z (.A Z (.nil (W.seq (W.pk (.A Z (.nil (W.seq (W.seq (W.pk (.A Z ?_))))))))))); refine .nil ?_; obtain ⟨o27, b28, h⟩ := bnd1 h; refine W.fork (mkSt [(6, some (.s o27))] [] 1002) ?_ ?_
 ·refine W.seq (W.pk (.M Z (.A Z (.nil (W.ret ?_))))); cases h; exact lv Z Z
 ·clear h; refine W.block (W.loopF (fun (s_ : Bs × Int) => mkSt [(3, some (.own 1000)), (6, some (.s s_.1)), (7, some (.i s_.2))] [(1000, some (.rows 3 1 (List.map (encI .i64) t1.1) false))] 1002) b28 (Gm [] (.e Z Z) (.r Z Z Z .n) Z) ?_); rintro ⟨v10, v11⟩ s_ hr; have h : lombardref04_Fold.b0 t1 v10 v11 = some s_ := hr; unfold lombardref04_Fold.b0 at h; refine W.seq (W.seq (W.pk (.M Z (.M Z (.V Z (O.lenO sl54 Z Z Z) (.B Z (.nil (W.cnd Z h (fun q30 h => ?_) (fun q30 h => ?_)))))))))
  ·refine W.skip (W.seq (W.block ?_)); obtain ⟨c31, h⟩ := chk h; obtain ⟨t32, b33, h⟩ := bnd1 h; obtain ⟨t34, b35, h⟩ := bnd1 h; obtain ⟨c36, h⟩ := chk h; refine W.pk (.M Z (.M Z (.M Z (.V Z (O.idxO sl54 c31 Z Z Z Z) (.V Z (O.ldE (c := (.val (.int .i64 (nth t1.1 v11)))) ty3 c31 Z Z Z Z Z) (.C (.i t32) [] 0 (lombardref04_low.ok b33) ca48 Z (cI .nil) Z ?_)))))); refine .C (.s t34) [] 0 (lombardref04_Text.ok b35) ca47 Z (cI .nil) Z ?_; refine .V Z (O.catS c36 Z Z Z) (.A Z (.nil (W.pk (.M Z (.B Z (.A Z (.nil ?_))))))); cases h; exact rdN (Gm [] (.e Z Z) (.r Z Z Z .n) Z)
  ·refine W.exit ?_; cases h; refine rdX fun e_ => ?_; subst e_; (repeat with_reducible refine thru ?_); exact hit (toN (Gm [] (.r Z Z .n) .n Z))

noncomputable def lombardref30_Named.b0 (x0 : List lombardref30_Member) (x1 : Bs) (v8 : Int) : Option (Int ⊕ (Int ⊕ Unit)) :=
 if (decide (v8 < (List.length x0 : Int))) = true then
 if (0 : Int) ≤ v8 ∧ v8 < (List.length x0 : Int) then
 (lombardref04_Fold.f ((nth x0 v8).Name)).bind fun t29 =>
 (lombardref04_Fold.f x1).bind fun t31 =>
 if (t29 == t31) = true then
 some (.inr (.inl v8))
 else some (.inl (IntKind.wrap .i64 (v8 + 1)))
 else none
 else some (.inr (.inr ()))
noncomputable def lombardref30_Named.r0 (x0 : List lombardref30_Member) (x1 : Bs) (s : Int) : Option (Int ⊕ (Int ⊕ Unit)) := lombardref30_Named.b0 x0 x1 s
noncomputable def lombardref30_Named.f (x0 : List lombardref30_Member) (x1 : Bs) : Option (Int) :=
 (loop (lombardref30_Named.r0 x0 x1) 0).bind fun o24 =>
 match o24 with
 | .inl r34 => some r34
 | .inr w23 =>
 some (-1)
theorem lombardref30_Named.ok {x0 : List lombardref30_Member} {x1 : Bs} {r : Int} (h : lombardref30_Named.f x0 x1 = some r) : Pm.Spec prog 21 [.xown 31 5 (List.map lombardref30_Member.enc x0), .imm (.val (.string (tx x1)))] (.imm (.val (.int .i64 r))) [some (.xown 31 5 (List.map lombardref30_Member.enc x0)), none] := by
 unfold lombardref30_Named.f at h; refine Pm.Spec.of_body Tryz.func21 Z (by kernel_rfl) (L Z) (L Z) ?_; refine W.ghost (σ' := (mkSt [(0, some (.own 0)), (1, some (.s x1))] [(0, some (.rows 31 5 (List.map lombardref30_Member.enc x0) false))] 1000)) (Gives.entry (.c Z (.c Z .n)) (.c Z .n)) (W.seq (W.pk (.A Z (.nil (W.seq (W.seq (W.pk (.A Z (.nil ?_))))))))); obtain ⟨o24, b25, z26⟩ := bnd1 h; refine W.fork2 (out := o24) (fun (w23 : Unit) => mkSt [] [(0, some (.rows 31 5 (List.map lombardref30_Member.enc x0) false))] 1000) ?_ ?_
 ·clear h; refine W.block (W.loopF (fun (s_ : Int) => mkSt [(0, some (.own 0)), (1, some (.s x1)), (5, some (.i s_))] [(0, some (.rows 31 5 (List.map lombardref30_Member.enc x0) false))] 1000) b25 (Gm [] (.e Z Z) (.r Z Z Z .n) Z) ?_); rintro v8 s_ hr; have h : lombardref30_Named.b0 x0 x1 v8 = some s_ := hr; unfold lombardref30_Named.b0 at h; refine W.seq (W.seq (W.pk (.M Z (.M Z (.V Z (O.lenO sl24 Z Z Z) (.B Z (.nil (W.cnd Z h (fun q27 h => ?_) (fun q27 h => ?_)))))))))
  ·refine W.skip (W.seq (W.block (W.seq ?_))); obtain ⟨c28, h⟩ := chk h; obtain ⟨t29, b30, h⟩ := bnd1 h; obtain ⟨t31, b32, h⟩ := bnd1 h; refine W.pk (.M Z (.M Z (.V Z (O.idxO sl24 c28 Z Z Z Z) (.F fld31_1 Z (.V Z (O.ldE (c := (.val (.string (tx ((nth x0 v8).Name))))) ty9 c28 Z Z Z Z Z) (.C (.s t29) [] 0 (lombardref04_Fold.ok b30) ca27 Z (cI .nil) Z ?_)))))); refine .M Z (.C (.s t31) [] 0 (lombardref04_Fold.ok b32) ca27 Z (cI .nil) Z ?_); refine .V Z (O.cmpS Z Z Z Z) (.nil (W.cnd Z h (fun q33 h => ?_) (fun q33 h => ?_)))
   ·refine W.seq (W.pk (.M Z (.A Z (.nil (W.ret ?_))))); cases h; refine rdR fun e_ => ?_; subst e_; have h := z26; dsimp only at h; refine fkR ?_; cases h; exact leaves (.inr Z) Z (.imm _) (cS (.own _ _ _ _ Z) (cN .nil)) Z Z
   ·refine W.skip (W.pk (.M Z (.B Z (.A Z (.nil ?_))))); cases h; exact rdN (Gm [] (.e Z Z) (.r Z Z Z .n) Z)
  ·refine W.exit ?_; cases h; refine rdX fun e_ => ?_; subst e_; (repeat with_reducible refine thru ?_); exact hit (fkN (Gm [] .n (.r Z Z Z .n) Z))
 ·intro w23 e_; subst e_; clear h; have h := z26; dsimp only at h; refine W.seq (W.pk (.A Z (.nil (W.ret ?_)))); cases h; exact leaves (.inr Z) Z (.imm _) (cS (.own _ _ _ _ Z) (cN .nil)) Z Z

noncomputable def lombardref30_Join.b0 (x0 : List lombardref30_Member) (x1 : Int) (x2 : Bs) (v37 : Bool) (v38 : Int) (v39 : List lombardref30_Member) : Option ((Bool × Int × (List lombardref30_Member)) ⊕ (Bool × (List lombardref30_Member))) :=
 if (decide (v38 < (List.length x0 : Int))) = true then
 if ((!v37) = true → (0 : Int) ≤ v38 ∧ v38 < (List.length x0 : Int)) then
 ((
 if ((!v37) && (decide (((nth x0 v38).ID) > x1))) = true then
 if (List.length v39 + List.length [(⟨x1, x2, 1, 0, false⟩ : lombardref30_Member)]) * 48 ≤ 140737488355328 then
 some (true, (v39 ++ [(⟨x1, x2, 1, 0, false⟩ : lombardref30_Member)]))
 else none
 else some (v37, v39) : Option (Bool × (List lombardref30_Member)))).bind fun o77 =>
 if (0 : Int) ≤ v38 ∧ v38 < (List.length x0 : Int) then
 if (List.length o77.2 + List.length [(nth x0 v38)]) * 48 ≤ 140737488355328 then
 some (.inl (o77.1, (IntKind.wrap .i64 (v38 + 1)), (o77.2 ++ [(nth x0 v38)])))
 else none
 else none
 else none
 else some (.inr (v37, v39))
noncomputable def lombardref30_Join.r0 (x0 : List lombardref30_Member) (x1 : Int) (x2 : Bs) (s : Bool × Int × (List lombardref30_Member)) : Option ((Bool × Int × (List lombardref30_Member)) ⊕ (Bool × (List lombardref30_Member))) := lombardref30_Join.b0 x0 x1 x2 s.1 s.2.1 s.2.2
noncomputable def lombardref30_Join.f (x0 : List lombardref30_Member) (x1 : Int) (x2 : Bs) : Option ((List lombardref30_Member) × Int) :=
 (lombardref10_Check.f (⟨1, x1, x2, (⟨[], 0, 0, 0, []⟩ : api_Asset), (⟨0, 0, [], 0, 0, 0, [], 0, 0, []⟩ : api_Basket), [], 0, [], 0, (⟨0, 0, 0, 0, 0, 0, 0, 0⟩ : api_Quote), (⟨[], 0⟩ : api_Lot), [], 0, false, 0⟩ : lombardref10_Msg)).bind fun t1 =>
 if (t1 != 0) = true then
 some (x0, t1)
 else (lombardref30_Find.f x0 x1).bind fun t4 =>
 (if (decide (t4 ≥ 0)) = false then lombardref30_Named.f x0 x2 else some default).bind fun t6 =>
 if ((decide (t4 ≥ 0)) || (decide (t6 ≥ 0))) = true then
 some (x0, 7)
 else (loop (lombardref30_Join.r0 x0 x1 x2) (false, 0, [])).bind fun o67 =>
 if (!o67.1) = true then
 if (List.length o67.2 + List.length [(⟨x1, x2, 1, 0, false⟩ : lombardref30_Member)]) * 48 ≤ 140737488355328 then
 some ((o67.2 ++ [(⟨x1, x2, 1, 0, false⟩ : lombardref30_Member)]), 0)
 else none
 else some (o67.2, 0)
theorem lombardref30_Join.ok {x0 : List lombardref30_Member} {x1 : Int} {x2 : Bs} {r : (List lombardref30_Member) × Int} (h : lombardref30_Join.f x0 x1 x2 = some r) : Pm.Spec prog 31 [.xown 31 5 (List.map lombardref30_Member.enc x0), .imm (.val (.int .i64 x1)), .imm (.val (.string (tx x2)))] (.tup [.xown 31 5 (List.map lombardref30_Member.enc r.1), .imm (.val (.int .i64 r.2))]) [none, none, none] := by
 unfold lombardref30_Join.f at h; refine Pm.Spec.of_body Tryz.func31 Z (by kernel_rfl) (L Z) (L Z) ?_; refine W.ghost (σ' := (mkSt [(0, some (.own 0)), (1, some (.i x1)), (2, some (.s x2))] [(0, some (.rows 31 5 (List.map lombardref30_Member.enc x0) false))] 1000)) (Gives.entry (.c Z (.c Z (.c Z .n))) (.c Z .n)) (W.seq (W.pk (.A Z (.A Z (.nil (W.seq (W.seq ?_))))))); obtain ⟨t1, b2, h⟩ := bnd1 h; refine W.pk (.M Z (.M Z (.V Z (O.build (out := [.i 1, .i x1, .s x2, .s [], .i 0, .i 0, .i 0, .s [], .i 0, .i 0, .s [], .i 0, .i 0, .i 0, .imm (.val (.slice none 0 0)), .i 0, .i 0, .imm (.val (.slice none 0 0)), .imm (.val (.slice none 0 0)), .i 0, .s [], .i 0, .i 0, .i 0, .i 0, .i 0, .i 0, .i 0, .i 0, .i 0, .s [], .i 0, .imm (.val (.slice none 0 0)), .i 0, .b false, .i 0]) bl64 Z Z Z Z (by kernel_rfl)) ?_))); refine .C (.i t1) [] 0 (lombardref10_Check.ok b2) ca44 Z (cC (.agg _ _ _ _ (cI (cI (cI (cI (cI (cI (cI (cI (cI (cI (cI (cI (cI (cI (cC (.nilrow _) (cI (cI (cC (.nilrow _) (cC (.nilrow _) (cI (cI (cI (cI (cI (cI (cI (cI (cI (cI (cI (cI (cI (cC (.nilrow _) (cI (cI (cI .nil))))))))))))))))))))))))))))))))))))) .nil) Z ?_; refine .A Z (.nil (W.seq (W.pk (.M Z (.B Z (.nil (W.cnd Z h (fun q3 h => ?_) (fun q3 h => ?_))))))))
 ·refine W.seq (W.pk (.M Z (.M Z (.A Z (.A Z (.nil (W.ret ?_))))))); cases h; exact leaves (.inr Z) Z (.tup _ _ _ _ (cC (.own _ _ _ _ Z) (cI .nil))) (cN (cN (cN .nil))) Z Z
 ·refine W.skip (W.seq (W.seq ?_)); obtain ⟨t4, b5, h⟩ := bnd1 h; obtain ⟨t6, b7, h⟩ := bnd1 h; refine W.fork (mkSt [(0, some (.own 0)), (1, some (.i x1)), (2, some (.s x2)), (29, some (.b ((decide (t4 ≥ 0)) || (decide (t6 ≥ 0)))))] [(0, some (.rows 31 5 (List.map lombardref30_Member.enc x0) false))] 1000) ?_ ?_
  ·refine W.cnd Z h (fun q9 h => ?_) (fun q9 h => ?_)
   ·refine W.seq (W.pk (.M Z (.A Z (.A Z (.nil (W.ret ?_)))))); cases h; exact leaves (.inr Z) Z (.tup _ _ _ _ (cC (.own _ _ _ _ Z) (cI .nil))) (cN (cN (cN .nil))) Z Z
   ·refine W.skip (W.seq (W.pk (.A Z (.nil (W.seq (W.pk (.A Z (.nil (W.seq (W.seq (W.pk ?_))))))))))); refine .A Z (.nil (W.ghost (Gives.mintS 9 31 5 Z) ?_)); obtain ⟨o67, b68, h⟩ := bnd1 h; refine W.fork (mkSt [(1, some (.i x1)), (2, some (.s x2)), (9, some (.own 1000)), (10, some (.b o67.1))] [(0, some (.rows 31 5 (List.map lombardref30_Member.enc x0) false)), (1000, some (.rows 31 5 (List.map lombardref30_Member.enc o67.2) false))] 1001) ?_ ?_
    ·refine W.seq (W.seq (W.pk (.M Z (.V Z (OpL.unV Z Z Z) (.nil (W.cnd Z h (fun q83 h => ?_) (fun q83 h => ?_)))))))
     ·obtain ⟨c84, h⟩ := chk h; refine W.pk (.M Z (.M Z (.M Z (.V Z (O.build (out := [.i x1, .s x2, .i 1, .i 0, .b false]) bl31 Z Z Z Z (by kernel_rfl)) ?_)))); refine .t Z Z (O.lit (enc := lombardref30_Member.enc) (l := [(⟨x1, x2, 1, 0, false⟩ : lombardref30_Member)]) sl24 Z Z Z Z Z Z Z Z Z) (.t Z Z (O.appO sl24 lombardref30_Member.ok c84 Z Z Z Z Z) (.A Z (.nil (W.seq (W.pk (.M Z (.A Z (.A Z (.nil (W.ret ?_)))))))))); cases h; exact leaves (.inr Z) Z (.tup _ _ _ _ (cC (.own _ _ _ _ Z) (cI .nil))) (cN (cN (cN .nil))) Z Z
     ·refine W.skip (W.seq (W.pk (.M Z (.A Z (.A Z (.nil (W.ret ?_))))))); cases h; exact leaves (.inr Z) Z (.tup _ _ _ _ (cC (.own _ _ _ _ Z) (cI .nil))) (cN (cN (cN .nil))) Z Z
    ·clear h; refine W.block (W.loopF (fun (s_ : Bool × Int × (List lombardref30_Member)) => mkSt [(0, some (.own 0)), (1, some (.i x1)), (2, some (.s x2)), (9, some (.own 1000)), (10, some (.b s_.1)), (11, some (.i s_.2.1))] [(0, some (.rows 31 5 (List.map lombardref30_Member.enc x0) false)), (1000, some (.rows 31 5 (List.map lombardref30_Member.enc s_.2.2) false))] 1001) b68 (Gm [] (.e Z Z) (.e Z Z) Z) ?_); rintro ⟨v37, v38, v39⟩ s_ hr; have h : lombardref30_Join.b0 x0 x1 x2 v37 v38 v39 = some s_ := hr; unfold lombardref30_Join.b0 at h; refine W.seq (W.seq (W.pk (.M Z (.M Z (.V Z (O.lenO sl24 Z Z Z) (.B Z (.nil (W.cnd Z h (fun q70 h => ?_) (fun q70 h => ?_)))))))))
     ·refine W.skip (W.seq (W.block (W.seq (W.seq ?_)))); obtain ⟨c71, h⟩ := chk h; refine W.fork (mkSt [(0, some (.own 0)), (1, some (.i x1)), (2, some (.s x2)), (9, some (.own 1000)), (10, some (.b v37)), (11, some (.i v38)), (47, some (.b ((!v37) && (decide (((nth x0 v38).ID) > x1)))))] [(0, some (.rows 31 5 (List.map lombardref30_Member.enc x0) false)), (1000, some (.rows 31 5 (List.map lombardref30_Member.enc v39) false))] 1001) ?_ ?_
      ·obtain ⟨o77, b78, h⟩ := bnd1 h; refine W.fork (mkSt [(0, some (.own 0)), (1, some (.i x1)), (2, some (.s x2)), (9, some (.own 1003)), (10, some (.b o77.1)), (11, some (.i v38))] [(0, some (.rows 31 5 (List.map lombardref30_Member.enc x0) false)), (1003, some (.rows 31 5 (List.map lombardref30_Member.enc o77.2) false))] 1004) ?_ ?_
       ·obtain ⟨c81, h⟩ := chk h; obtain ⟨c82, h⟩ := chk h; refine W.pk (.M Z (.M Z (.M Z (.V Z (O.idxO sl24 c81 Z Z Z Z) (.V Z (O.ldEN ty31 c81 Z Z Z Z Z) (.t Z Z (O.lit (enc := lombardref30_Member.enc) (l := [(nth x0 v38)]) sl24 Z Z Z Z Z Z Z Z Z) (.t Z Z (O.appO sl24 lombardref30_Member.ok c82 Z Z Z Z Z) (.A Z (.nil (W.pk (.M Z ?_))))))))))); refine .B Z (.A Z (.nil ?_)); cases h; exact rdN (Gm [(1000, 1005)] (.e Z Z) (.e Z Z) Z)
       ·clear h; have h := b78; refine W.cnd Z h (fun q79 h => ?_) (fun q79 h => ?_)
        ·refine W.seq ?_; obtain ⟨c80, h⟩ := chk h; refine W.pk (.M Z (.M Z (.M Z (.V Z (O.build (out := [.i x1, .s x2, .i 1, .i 0, .b false]) bl31 Z Z Z Z (by kernel_rfl)) ?_)))); refine .t Z Z (O.lit (enc := lombardref30_Member.enc) (l := [(⟨x1, x2, 1, 0, false⟩ : lombardref30_Member)]) sl24 Z Z Z Z Z Z Z Z Z) (.t Z Z (O.appO sl24 lombardref30_Member.ok c80 Z Z Z Z Z) (.A Z (.nil (W.pk (.A Z (.nil ?_)))))); cases h; exact toN (Gm [(1003, 1002)] (.e Z Z) (.e Z Z) Z)
        ·refine W.skip ?_; cases h; exact toN (Gm [(1003, 1000)] (.e Z Z) (.e Z Z) Z)
      ·clear h; refine W.pk (.M Z (.V Z (OpL.unV Z Z Z) (.M Z ?_))); rcases tf v37 with g72 | g72
       ·(iterate 7 refine .X Z (notT g72) ?_); exact .E (notT g72) Z (.nil (toN (Gm [] (.r Z Z (.r Z Z (.r Z Z (.r Z Z (.r Z Z (.r Z Z (.c Z (sbb (by simp only [g72, BL])) Z .n))))))) (.e Z Z) Z)))
       ·refine .N Z (notF g72) (.N Z (notF g72) (.U Z (notF g72) (O.idxO sl24 (c71 (by simp only [g72, BL])) Z Z Z Z) ?_)); refine .H fld31_0 Z (notF g72) Z (.U Z (notF g72) (O.ldE (c := (.val (.int .i64 ((nth x0 v38).ID)))) ty3 (c71 (by simp only [g72, BL])) Z Z Z Z Z) ?_); exact .N Z (notF g72) (.G Z (notF g72) Z (.T (notF g72) Z (.nil (toN (Gm [] (.r Z Z (.r Z Z (.r Z Z (.r Z Z (.r Z Z (.r Z Z (.c Z (sbb (by simp only [g72, BL])) Z .n))))))) (.e Z Z) Z)))))
     ·refine W.exit ?_; cases h; refine rdX fun e_ => ?_; subst e_; (repeat with_reducible refine thru ?_); exact hit (toN (Gm [] (.e Z Z) (.e Z Z) Z))
  ·clear h; refine W.pk (.M Z (.M Z (.C (.i t4) [(0, some (.rows 31 5 (List.map lombardref30_Member.enc x0) false)), (0, none)] 0 (lombardref30_Find.ok b5) ca19 Z (cC (.own _ _ _ _ Z) (cI .nil)) Z ?_))); refine .B Z (.M Z ?_); rcases tf (decide (t4 ≥ 0)) with g8 | g8
   ·(iterate 4 refine .X Z g8 ?_); exact .T g8 Z (.nil (toN (Gm [] (.r Z Z (.r Z Z (.r Z Z (.c Z (sbb (by simp only [g8, BL])) Z .n)))) (.r Z Z Z .n) Z)))
   ·refine .N Z g8 (.N Z g8 (.call (.i t6) [(0, some (.rows 31 5 (List.map lombardref30_Member.enc x0) false)), (0, none)] 0 (lombardref30_Named.ok ((if_pos (by simp only [g8, BL])).symm.trans b7)) Z (met Z Z Z g8) Z ca21 Z Z (cC (.own _ _ _ _ Z) (cI .nil)) Z Z Z Z Z ?_)); exact .G Z g8 Z (.E g8 Z (.nil (toN (Gm [] (.r Z Z (.r Z Z (.r Z Z (.c Z (sbb (by simp only [g8, BL])) Z .n)))) (.r Z Z Z .n) Z))))

noncomputable def name_letter.f (x0 : Int) : Option (Bool) :=
 ((
 if ((decide (x0 ≥ 97)) && (decide (x0 ≤ 122))) = true then
 some ((decide (x0 ≥ 97)) && (decide (x0 ≤ 122)))
 else some ((decide (x0 ≥ 65)) && (decide (x0 ≤ 90))) : Option (Bool))).bind fun o5 =>
 if o5 = true then
 some true
 else if ((x0 == 215) || (x0 == 247)) = true then
 some false
 else some ((decide (x0 ≥ 192)) && (decide (x0 ≤ 383)))
theorem name_letter.ok {x0 : Int} {r : Bool} (h : name_letter.f x0 = some r) : Pm.Spec prog 84 [.imm (.val (.int .i32 x0))] (.imm (.val (.bool r))) [none] := by
 unfold name_letter.f at h; refine Pm.Spec.of_body Tryz.func84 Z (by kernel_rfl) (L Z) (L Z) ?_; refine W.ghost (σ' := (mkSt [(0, some (.imm (.val (.int .i32 x0))))] [] 1000)) (Gives.entry (.c Z .n) .n) (W.seq (W.pk (.A Z (.nil (W.seq (W.block (W.seq (W.seq (W.fork (mkSt [(0, some (.imm (.val (.int .i32 x0)))), (3, some (.b ((decide (x0 ≥ 97)) && (decide (x0 ≤ 122)))))] [] 1000) ?_ ?_)))))))))
 ·obtain ⟨o5, b6, h⟩ := bnd1 h; refine W.fork (mkSt [(0, some (.imm (.val (.int .i32 x0)))), (3, some (.b o5))] [] 1000) ?_ ?_
  ·refine W.cnd Z h (fun q9 h => ?_) (fun q9 h => ?_)
   ·refine W.seq (W.pk (.A Z (.nil (W.ret ?_)))); cases h; exact lv Z Z
   ·refine W.seq (W.fork (mkSt [(0, some (.imm (.val (.int .i32 x0)))), (16, some (.b ((x0 == 215) || (x0 == 247))))] [] 1000) ?_ ?_)
    ·refine W.cnd Z h (fun q11 h => ?_) (fun q11 h => ?_)
     ·refine W.seq (W.pk (.A Z (.nil (W.ret ?_)))); cases h; exact lv Z Z
     ·refine W.skip (W.seq (W.fork (mkSt [(2, some (.b ((decide (x0 ≥ 192)) && (decide (x0 ≤ 383)))))] [] 1000) ?_ ?_))
      ·refine W.ret ?_; cases h; exact lv Z Z
      ·clear h; refine W.pk (.M Z (.B Z (.M Z ?_))); rcases tf (decide (x0 ≥ 192)) with g12 | g12
       ·exact .N Z g12 (.G Z g12 Z (.T g12 Z (.A Z (.nil (toN (Gm [] (.c Z (sbb (by simp only [g12, BL])) Z .n) .n Z))))))
       ·exact .X Z g12 (.X Z g12 (.E g12 Z (.A Z (.nil (toN (Gm [] (.c Z (sbb (by simp only [g12, BL])) Z .n) .n Z))))))
    ·clear h; refine W.pk (.M Z (.B Z (.M Z ?_))); rcases tf (x0 == 215) with g10 | g10
     ·exact .X Z g10 (.X Z g10 (.T g10 Z (.A Z (.nil (toN (Gm [] (.r Z Z (.c Z (sbb (by simp only [g10, BL])) Z .n)) .n Z))))))
     ·exact .N Z g10 (.G Z g10 Z (.E g10 Z (.A Z (.nil (toN (Gm [] (.r Z Z (.c Z (sbb (by simp only [g10, BL])) Z .n)) .n Z))))))
  ·clear h; have h := b6; refine W.cnd Z h (fun q7 h => ?_) (fun q7 h => ?_)
   ·refine W.skip ?_; cases h; exact toN (Gm [] (.e Z Z) .n Z)
   ·refine W.fork (mkSt [(0, some (.imm (.val (.int .i32 x0)))), (3, some (.b ((decide (x0 ≥ 65)) && (decide (x0 ≤ 90)))))] [] 1000) ?_ ?_
    ·cases h; exact toN (Gm [] (.e Z Z) .n Z)
    ·clear h; refine W.pk (.M Z (.B Z (.M Z ?_))); rcases tf (decide (x0 ≥ 65)) with g8 | g8
     ·exact .N Z g8 (.G Z g8 Z (.T g8 Z (.A Z (.nil (toN (Gm [] (.r Z Z (.c Z (sbb (by simp only [g8, BL])) Z .n)) .n Z))))))
     ·exact .X Z g8 (.X Z g8 (.E g8 Z (.A Z (.nil (toN (Gm [] (.r Z Z (.c Z (sbb (by simp only [g8, BL])) Z .n)) .n Z))))))
 ·clear h; refine W.pk (.M Z (.B Z (.M Z ?_))); rcases tf (decide (x0 ≥ 97)) with g1 | g1
  ·exact .N Z g1 (.G Z g1 Z (.T g1 Z (.A Z (.nil (toN (Gm [] (.r Z Z (.c Z (sbb (by simp only [g1, BL])) Z .n)) .n Z))))))
  ·exact .X Z g1 (.X Z g1 (.E g1 Z (.A Z (.nil (toN (Gm [] (.r Z Z (.c Z (sbb (by simp only [g1, BL])) Z .n)) .n Z))))))

noncomputable def name_digit.f (x0 : Int) : Option (Bool) :=
 some ((decide (x0 ≥ 48)) && (decide (x0 ≤ 57)))
theorem name_digit.ok {x0 : Int} {r : Bool} (h : name_digit.f x0 = some r) : Pm.Spec prog 85 [.imm (.val (.int .i32 x0))] (.imm (.val (.bool r))) [none] := by
 unfold name_digit.f at h; refine Pm.Spec.of_body Tryz.func85 Z (by kernel_rfl) (L Z) (L Z) ?_; refine W.ghost (σ' := (mkSt [(0, some (.imm (.val (.int .i32 x0))))] [] 1000)) (Gives.entry (.c Z .n) .n) (W.seq (W.pk (.A Z (.nil (W.seq (W.fork (mkSt [(2, some (.b ((decide (x0 ≥ 48)) && (decide (x0 ≤ 57)))))] [] 1000) ?_ ?_))))))
 ·refine W.ret ?_; cases h; exact lv Z Z
 ·clear h; refine W.pk (.M Z (.B Z (.M Z ?_))); rcases tf (decide (x0 ≥ 48)) with g1 | g1
  ·exact .N Z g1 (.G Z g1 Z (.T g1 Z (.A Z (.nil (toN (Gm [] (.c Z (sbb (by simp only [g1, BL])) Z .n) .n Z))))))
  ·exact .X Z g1 (.X Z g1 (.E g1 Z (.A Z (.nil (toN (Gm [] (.c Z (sbb (by simp only [g1, BL])) Z .n) .n Z))))))

noncomputable def name_joint.f (x0 : Int) : Option (Bool) :=
 if (x0 == 32) = true then
 if (x0 == 32) = true then
 some true
 else some false
 else if (x0 == 45) = true then
 if (x0 == 45) = true then
 some true
 else some false
 else if (x0 == 46) = true then
 if (x0 == 46) = true then
 some true
 else some false
 else if (x0 == 38) = true then
 if (x0 == 38) = true then
 some true
 else some false
 else if (x0 == 39) = true then
 some true
 else some false
theorem name_joint.ok {x0 : Int} {r : Bool} (h : name_joint.f x0 = some r) : Pm.Spec prog 86 [.imm (.val (.int .i32 x0))] (.imm (.val (.bool r))) [none] := by
 unfold name_joint.f at h; refine Pm.Spec.of_body Tryz.func86 Z (by kernel_rfl) (L Z) (L Z) ?_; refine W.ghost (σ' := (mkSt [(0, some (.imm (.val (.int .i32 x0))))] [] 1000)) (Gives.entry (.c Z .n) .n) (W.seq (W.pk (.A Z (.nil (W.seq (W.seq (W.pk (.M Z (.nil (W.block (W.seq ?_))))))))))); refine W.seq (W.pk (.B Z (.A Z (.nil (W.cnd Z h (fun q1 h => ?_) (fun q1 h => ?_))))))
 ·refine W.skip (W.cnd Z h (fun q2 h => ?_) (fun q2 h => ?_))
  ·refine W.seq (W.pk (.A Z (.nil (W.ret ?_)))); cases h; exact lv Z Z
  ·refine W.skip (W.seq (W.pk (.A Z (.nil (W.ret ?_))))); cases h; exact lv Z Z
 ·refine W.seq (W.pk (.B Z (.A Z (.nil (W.cnd Z h (fun q3 h => ?_) (fun q3 h => ?_))))))
  ·refine W.skip (W.cnd Z h (fun q4 h => ?_) (fun q4 h => ?_))
   ·refine W.seq (W.pk (.A Z (.nil (W.ret ?_)))); cases h; exact lv Z Z
   ·refine W.skip (W.seq (W.pk (.A Z (.nil (W.ret ?_))))); cases h; exact lv Z Z
  ·refine W.seq (W.pk (.B Z (.A Z (.nil (W.cnd Z h (fun q5 h => ?_) (fun q5 h => ?_))))))
   ·refine W.skip (W.cnd Z h (fun q6 h => ?_) (fun q6 h => ?_))
    ·refine W.seq (W.pk (.A Z (.nil (W.ret ?_)))); cases h; exact lv Z Z
    ·refine W.skip (W.seq (W.pk (.A Z (.nil (W.ret ?_))))); cases h; exact lv Z Z
   ·refine W.seq (W.pk (.B Z (.A Z (.nil (W.cnd Z h (fun q7 h => ?_) (fun q7 h => ?_))))))
    ·refine W.skip (W.cnd Z h (fun q8 h => ?_) (fun q8 h => ?_))
     ·refine W.seq (W.pk (.A Z (.nil (W.ret ?_)))); cases h; exact lv Z Z
     ·refine W.skip (W.seq (W.pk (.A Z (.nil (W.ret ?_))))); cases h; exact lv Z Z
    ·refine W.pk (.B Z (.A Z (.nil (W.cnd Z h (fun q9 h => ?_) (fun q9 h => ?_)))))
     ·refine W.seq (W.pk (.A Z (.nil (W.ret ?_)))); cases h; exact lv Z Z
     ·refine W.skip (W.seq (W.pk (.A Z (.nil (W.ret ?_))))); cases h; exact lv Z Z

noncomputable def name_Check.b0 (x0 : Bs) (v34 : Int) (v35 : Int) (v36 : Nat) : Option ((Int × Int × Nat) ⊕ ((Int × Int) ⊕ (Int × Int))) :=
 if (nextOk x0 v36) = true then
 if nextOk x0 v36 = true then
 if nextOk x0 v36 = true then
 if (v34 == 40) = true then
 some (.inr (.inl (((v36 : Nat) : Int), 2)))
 else (name_letter.f (nextC x0 v36)).bind fun t109 =>
 (if (!t109) = true then name_digit.f (nextC x0 v36) else some default).bind fun t111 =>
 (if ((!t109) && (!t111)) = true then name_joint.f (nextC x0 v36) else some default).bind fun t113 =>
 if (((!t109) && (!t111)) && (!t113)) = true then
 some (.inr (.inl (((v36 : Nat) : Int), 11)))
 else (if (v34 == 0) = true then name_letter.f (nextC x0 v36) else some default).bind fun t118 =>
 ((
 if ((v34 == 0) && (!t118)) = true then
 some ((v34 == 0) && (!t118))
 else (if ((nextC x0 v36) == 32) = true then name_joint.f v35 else some default).bind fun t131 =>
 some (((((nextC x0 v36) == 32) && t131) && (v35 != 46)) && (v35 != 38)) : Option (Bool))).bind fun o128 =>
 if o128 = true then
 some (.inr (.inl (((v36 : Nat) : Int), 11)))
 else some (.inl ((IntKind.wrap .i64 (v34 + 1)), (nextC x0 v36), (nextP x0 v36)))
 else none
 else none
 else some (.inr (.inr (v34, v35)))
noncomputable def name_Check.r0 (x0 : Bs) (s : Int × Int × Nat) : Option ((Int × Int × Nat) ⊕ ((Int × Int) ⊕ (Int × Int))) := name_Check.b0 x0 s.1 s.2.1 s.2.2
noncomputable def name_Check.f (x0 : Bs) : Option (Int × Int) :=
 if (decide ((List.length x0 : Int) > 160)) = true then
 some (0, 2)
 else (loop (name_Check.r0 x0) (0, 32, 0)).bind fun o102 =>
 match o102 with
 | .inl r137 => some r137
 | .inr w101 =>
 if ((w101.1 == 0) || (w101.2 == 32)) = true then
 some ((List.length x0 : Int), 11)
 else some ((List.length x0 : Int), 0)
theorem name_Check.ok {x0 : Bs} {r : Int × Int} (h : name_Check.f x0 = some r) : Pm.Spec prog 53 [.imm (.val (.string (tx x0)))] (.tup [.imm (.val (.int .i64 r.1)), .imm (.val (.int .i64 r.2))]) [none] := by
 unfold name_Check.f at h; refine Pm.Spec.of_body Tryz.func53 Z (by kernel_rfl) (L Z) (L Z) ?_; refine W.ghost (σ' := (mkSt [(0, some (.s x0))] [] 1000)) (Gives.entry (.c Z .n) .n) (W.seq (W.pk (.A Z (.A Z (.nil (W.seq (W.seq (W.pk (.M Z (.V Z (O.lenS u9 Z Z) (.B Z ?_))))))))))); refine .nil (W.cnd Z h (fun q1 h => ?_) (fun q1 h => ?_))
 ·refine W.seq (W.pk (.A Z (.A Z (.nil (W.ret ?_))))); cases h; exact leaves (.inr Z) Z (.tup _ _ _ _ (cI (cI .nil))) (cN .nil) Z Z
 ·refine W.skip (W.seq (W.pk (.A Z (.nil (W.seq (W.pk (.A Z (.nil (W.seq (W.seq (W.pk ?_))))))))))); refine .M Z (.t Z Z (O.range u9 Z Z) (.nil ?_)); obtain ⟨o102, b103, z104⟩ := bnd1 h; refine W.fork2 (out := o102) (fun (w101 : Int × Int) => mkSt [(0, some (.s x0)), (4, some (.i w101.1)), (5, some (.imm (.val (.int .i32 w101.2))))] [] 1001) ?_ ?_
  ·clear h; refine W.block (W.loopF (fun (s_ : Int × Int × Nat) => mkSt [(0, some (.s x0)), (4, some (.i s_.1)), (5, some (.imm (.val (.int .i32 s_.2.1)))), (12, some (.ptr 1000 0))] [(1000, some (.iter (tx x0) s_.2.2))] 1001) b103 (Gm [] (.e Z Z) (.r Z Z Z .n) Z) ?_); rintro ⟨v34, v35, v36⟩ s_ hr; have h : name_Check.b0 x0 v34 v35 v36 = some s_ := hr; unfold name_Check.b0 at h; refine W.seq (W.pk (.k Z Z (O.next Z Z Z) (.V Z (O.nx0 Z Z) (.nil (W.seq (W.cnd Z h (fun q105 h => ?_) (fun q105 h => ?_)))))))
   ·refine W.skip (W.block (W.seq ?_)); obtain ⟨c106, h⟩ := chk h; obtain ⟨c107, h⟩ := chk h; refine W.pk (.V Z (O.nx1 c106 Z Z) (.V Z (O.nx2 c107 Z Z) (.A Z (.A Z (.nil (W.seq (W.block (W.seq (W.pk (.M Z (.B Z ?_))))))))))); refine .A Z (.nil (W.cnd Z h (fun q108 h => ?_) (fun q108 h => ?_)))
    ·refine W.seq (W.pk (.M Z (.A Z (.A Z (.nil (W.ret ?_)))))); cases h; refine rdR fun e_ => ?_; subst e_; have h := z104; dsimp only at h; refine fkR ?_; cases h; exact leaves (.inr Z) Z (.tup _ _ _ _ (cI (cI .nil))) (cN .nil) Z Z
    ·refine W.seq ?_; obtain ⟨t109, b110, h⟩ := bnd1 h; obtain ⟨t111, b112, h⟩ := bnd1 h; obtain ⟨t113, b114, h⟩ := bnd1 h; refine W.fork (mkSt [(0, some (.s x0)), (4, some (.i v34)), (5, some (.imm (.val (.int .i32 v35)))), (6, some (.i ((v36 : Nat) : Int))), (7, some (.imm (.val (.int .i32 (nextC x0 v36))))), (12, some (.ptr 1000 0)), (21, some (.b (((!t109) && (!t111)) && (!t113))))] [(1000, some (.iter (tx x0) (nextP x0 v36)))] 1001) ?_ ?_
     ·refine W.cnd Z h (fun q117 h => ?_) (fun q117 h => ?_)
      ·refine W.seq (W.pk (.M Z (.A Z (.A Z (.nil (W.ret ?_)))))); cases h; refine rdR fun e_ => ?_; subst e_; have h := z104; dsimp only at h; refine fkR ?_; cases h; exact leaves (.inr Z) Z (.tup _ _ _ _ (cI (cI .nil))) (cN .nil) Z Z
      ·refine W.seq (W.seq ?_); obtain ⟨t118, b119, h⟩ := bnd1 h; refine W.fork (mkSt [(0, some (.s x0)), (4, some (.i v34)), (5, some (.imm (.val (.int .i32 v35)))), (6, some (.i ((v36 : Nat) : Int))), (7, some (.imm (.val (.int .i32 (nextC x0 v36))))), (12, some (.ptr 1000 0)), (36, some (.b ((v34 == 0) && (!t118))))] [(1000, some (.iter (tx x0) (nextP x0 v36)))] 1001) ?_ ?_
       ·obtain ⟨o128, b129, h⟩ := bnd1 h; refine W.fork (mkSt [(0, some (.s x0)), (4, some (.i v34)), (6, some (.i ((v36 : Nat) : Int))), (7, some (.imm (.val (.int .i32 (nextC x0 v36))))), (12, some (.ptr 1000 0)), (36, some (.b o128))] [(1000, some (.iter (tx x0) (nextP x0 v36)))] 1001) ?_ ?_
        ·refine W.cnd Z h (fun q136 h => ?_) (fun q136 h => ?_)
         ·refine W.seq (W.pk (.M Z (.A Z (.A Z (.nil (W.ret ?_)))))); cases h; refine rdR fun e_ => ?_; subst e_; have h := z104; dsimp only at h; refine fkR ?_; cases h; exact leaves (.inr Z) Z (.tup _ _ _ _ (cI (cI .nil))) (cN .nil) Z Z
         ·refine W.skip (W.seq (W.pk (.M Z (.A Z (.nil (W.pk (.M Z (.B Z (.A Z (.nil ?_)))))))))); cases h; exact rdN (Gm [] (.e Z Z) (.r Z Z Z .n) Z)
        ·clear h; have h := b129; refine W.cnd Z h (fun q130 h => ?_) (fun q130 h => ?_)
         ·refine W.skip ?_; cases h; exact toN (Gm [] (.e Z Z) (.r Z Z Z .n) Z)
         ·obtain ⟨t131, b132, h⟩ := bnd1 h; refine W.fork (mkSt [(0, some (.s x0)), (4, some (.i v34)), (6, some (.i ((v36 : Nat) : Int))), (7, some (.imm (.val (.int .i32 (nextC x0 v36))))), (12, some (.ptr 1000 0)), (36, some (.b (((((nextC x0 v36) == 32) && t131) && (v35 != 46)) && (v35 != 38))))] [(1000, some (.iter (tx x0) (nextP x0 v36)))] 1001) ?_ ?_
          ·cases h; exact toN (Gm [] (.e Z Z) (.r Z Z Z .n) Z)
          ·clear h; refine W.pk (.M Z (.B Z (.M Z ?_))); rcases tf ((nextC x0 v36) == 32) with g133 | g133
           ·refine .N Z g133 (.call (.b t131) [] 0 (name_joint.ok ((if_pos (by simp only [g133, BL])).symm.trans b132)) Z (met Z Z Z g133) Z ca86 Z Z (cI .nil) Z Z Z Z Z ?_); refine .T g133 Z (.M Z ?_); rcases tf t131 with g134 | g134
            ·refine .N Z g134 (.G Z g134 Z (.T g134 Z (.M Z ?_))); rcases tf (v35 != 46) with g135 | g135
             ·exact .N Z g135 (.G Z g135 Z (.T g135 Z (.A Z (.nil (toN (Gm [] (.r Z Z (.r Z Z (.r Z Z (.r Z Z (.r Z Z (.c Z (sbb (by simp only [g133, g134, g135, BL])) Z .n)))))) (.r Z Z Z .n) Z))))))
             ·exact .X Z g135 (.X Z g135 (.E g135 Z (.A Z (.nil (toN (Gm [] (.r Z Z (.r Z Z (.r Z Z (.r Z Z (.r Z Z (.c Z (sbb (by simp only [g133, g134, g135, BL])) Z .n)))))) (.r Z Z Z .n) Z))))))
            ·exact .X Z g134 (.X Z g134 (.E g134 Z (.M Z (.X Z Z (.X Z Z (.E Z Z (.A Z (.nil (toN (Gm [] (.r Z Z (.r Z Z (.r Z Z (.r Z Z (.r Z Z (.c Z (sbb (by simp only [g133, g134, BL])) Z .n)))))) (.r Z Z Z .n) Z))))))))))
           ·refine .X Z g133 (.X Z g133 (.E g133 Z (.M Z (.X Z Z (.X Z Z (.E Z Z (.M Z (.X Z Z (.X Z Z (.E Z Z (.A Z ?_))))))))))); exact .nil (toN (Gm [] (.r Z Z (.r Z Z (.r Z Z (.r Z Z (.r Z Z (.c Z (sbb (by simp only [g133, BL])) Z .n)))))) (.r Z Z Z .n) Z))
       ·clear h; refine W.pk (.M Z (.B Z (.M Z ?_))); rcases tf (v34 == 0) with g120 | g120
        ·refine .N Z g120 (.call (.b t118) [] 0 (name_letter.ok ((if_pos (by simp only [g120, BL])).symm.trans b119)) Z (met Z Z Z g120) Z ca84 Z Z (cI .nil) Z Z Z Z Z ?_); exact .U Z g120 (OpL.unV Z Z Z) (.T g120 Z (.A Z (.nil (toN (Gm [] (.r Z Z (.r Z Z (.r Z Z (.r Z Z (.r Z Z (.r Z Z (.c Z (sbb (by simp only [g120, BL])) Z .n))))))) (.r Z Z Z .n) Z)))))
        ·(iterate 3 refine .X Z g120 ?_); exact .E g120 Z (.A Z (.nil (toN (Gm [] (.r Z Z (.r Z Z (.r Z Z (.r Z Z (.r Z Z (.r Z Z (.c Z (sbb (by simp only [g120, BL])) Z .n))))))) (.r Z Z Z .n) Z))))
     ·clear h; refine W.pk (.M Z (.C (.b t109) [] 0 (name_letter.ok b110) ca84 Z (cI .nil) Z ?_)); refine .V Z (OpL.unV Z Z Z) (.M Z ?_); rcases tf t109 with g115 | g115
      ·(iterate 3 refine .X Z (notT g115) ?_); exact .E (notT g115) Z (.M Z (.X Z Z (.X Z Z (.X Z Z (.E Z Z (.A Z (.nil (toN (Gm [] (.r Z Z (.r Z Z (.r Z Z (.r Z Z (.r Z Z (.r Z Z (.c Z (sbb (by simp only [g115, BL])) Z .n))))))) (.r Z Z Z .n) Z)))))))))
      ·refine .N Z (notF g115) (.call (.b t111) [] 0 (name_digit.ok ((if_pos (by simp only [g115, BL])).symm.trans b112)) Z (met Z Z Z (notF g115)) Z ca85 Z Z (cI .nil) Z Z Z Z Z ?_); refine .U Z (notF g115) (OpL.unV Z Z Z) (.T (notF g115) Z (.M Z ?_)); rcases tf t111 with g116 | g116
       ·(iterate 3 refine .X Z (notT g116) ?_); exact .E (notT g116) Z (.A Z (.nil (toN (Gm [] (.r Z Z (.r Z Z (.r Z Z (.r Z Z (.r Z Z (.r Z Z (.c Z (sbb (by simp only [g115, g116, BL])) Z .n))))))) (.r Z Z Z .n) Z))))
       ·refine .N Z (notF g116) (.call (.b t113) [] 0 (name_joint.ok ((if_pos (by simp only [g115, g116, BL])).symm.trans b114)) Z (met Z Z Z (notF g116)) Z ca86 Z Z (cI .nil) Z Z Z Z Z ?_); exact .U Z (notF g116) (OpL.unV Z Z Z) (.T (notF g116) Z (.A Z (.nil (toN (Gm [] (.r Z Z (.r Z Z (.r Z Z (.r Z Z (.r Z Z (.r Z Z (.c Z (sbb (by simp only [g115, g116, BL])) Z .n))))))) (.r Z Z Z .n) Z)))))
   ·refine W.exit ?_; cases h; refine rdX fun e_ => ?_; subst e_; (repeat with_reducible refine thru ?_); exact hit (fkN (Gm [] (.e Z Z) .n Z))
  ·intro w101 e_; subst e_; clear h; have h := z104; dsimp only at h; refine W.seq (W.seq (W.fork (mkSt [(0, some (.s x0)), (67, some (.b ((w101.1 == 0) || (w101.2 == 32))))] [] 1001) ?_ ?_))
   ·refine W.cnd Z h (fun q139 h => ?_) (fun q139 h => ?_)
    ·refine W.seq (W.pk (.M Z (.V Z (O.lenS u9 Z Z) (.A Z (.A Z (.nil (W.ret ?_))))))); cases h; exact leaves (.inr Z) Z (.tup _ _ _ _ (cI (cI .nil))) (cN .nil) Z Z
    ·refine W.skip (W.seq (W.pk (.M Z (.V Z (O.lenS u9 Z Z) (.A Z (.A Z (.nil (W.ret ?_)))))))); cases h; exact leaves (.inr Z) Z (.tup _ _ _ _ (cI (cI .nil))) (cN .nil) Z Z
   ·clear h; refine W.pk (.M Z (.B Z (.M Z ?_))); rcases tf (w101.1 == 0) with g138 | g138
    ·exact .X Z g138 (.X Z g138 (.T g138 Z (.nil (toN (Gm [] (.r Z Z (.c Z (sbb (by simp only [g138, BL])) Z .n)) .n Z)))))
    ·exact .N Z g138 (.G Z g138 Z (.E g138 Z (.nil (toN (Gm [] (.r Z Z (.c Z (sbb (by simp only [g138, BL])) Z .n)) .n Z)))))

noncomputable def msg_member.f (x0 : Int) : Option (Bool) :=
 some ((decide (x0 ≥ 1)) && (decide (x0 ≤ 32)))
theorem msg_member.ok {x0 : Int} {r : Bool} (h : msg_member.f x0 = some r) : Pm.Spec prog 54 [.imm (.val (.int .i64 x0))] (.imm (.val (.bool r))) [none] := by
 unfold msg_member.f at h; refine Pm.Spec.of_body Tryz.func54 Z (by kernel_rfl) (L Z) (L Z) ?_; refine W.ghost (σ' := (mkSt [(0, some (.i x0))] [] 1000)) (Gives.entry (.c Z .n) .n) (W.seq (W.pk (.A Z (.nil (W.seq (W.fork (mkSt [(2, some (.b ((decide (x0 ≥ 1)) && (decide (x0 ≤ 32)))))] [] 1000) ?_ ?_))))))
 ·refine W.ret ?_; cases h; exact lv Z Z
 ·clear h; refine W.pk (.M Z (.B Z (.M Z ?_))); rcases tf (decide (x0 ≥ 1)) with g1 | g1
  ·exact .N Z g1 (.G Z g1 Z (.T g1 Z (.A Z (.nil (toN (Gm [] (.c Z (sbb (by simp only [g1, BL])) Z .n) .n Z))))))
  ·exact .X Z g1 (.X Z g1 (.E g1 Z (.A Z (.nil (toN (Gm [] (.c Z (sbb (by simp only [g1, BL])) Z .n) .n Z))))))

noncomputable def isin_digit.f (x0 : Int) : Option (Bool) :=
 some ((decide (x0 ≥ 48)) && (decide (x0 ≤ 57)))
theorem isin_digit.ok {x0 : Int} {r : Bool} (h : isin_digit.f x0 = some r) : Pm.Spec prog 88 [.imm (.val (.int .u8 x0))] (.imm (.val (.bool r))) [none] := by
 unfold isin_digit.f at h; refine Pm.Spec.of_body Tryz.func88 Z (by kernel_rfl) (L Z) (L Z) ?_; refine W.ghost (σ' := (mkSt [(0, some (.imm (.val (.int .u8 x0))))] [] 1000)) (Gives.entry (.c Z .n) .n) (W.seq (W.pk (.A Z (.nil (W.seq (W.fork (mkSt [(2, some (.b ((decide (x0 ≥ 48)) && (decide (x0 ≤ 57)))))] [] 1000) ?_ ?_))))))
 ·refine W.ret ?_; cases h; exact lv Z Z
 ·clear h; refine W.pk (.M Z (.B Z (.M Z ?_))); rcases tf (decide (x0 ≥ 48)) with g1 | g1
  ·exact .N Z g1 (.G Z g1 Z (.T g1 Z (.A Z (.nil (toN (Gm [] (.c Z (sbb (by simp only [g1, BL])) Z .n) .n Z))))))
  ·exact .X Z g1 (.X Z g1 (.E g1 Z (.A Z (.nil (toN (Gm [] (.c Z (sbb (by simp only [g1, BL])) Z .n) .n Z))))))

noncomputable def isin_upper.f (x0 : Int) : Option (Bool) :=
 some ((decide (x0 ≥ 65)) && (decide (x0 ≤ 90)))
theorem isin_upper.ok {x0 : Int} {r : Bool} (h : isin_upper.f x0 = some r) : Pm.Spec prog 116 [.imm (.val (.int .u8 x0))] (.imm (.val (.bool r))) [none] := by
 unfold isin_upper.f at h; refine Pm.Spec.of_body Tryz.func116 Z (by kernel_rfl) (L Z) (L Z) ?_; refine W.ghost (σ' := (mkSt [(0, some (.imm (.val (.int .u8 x0))))] [] 1000)) (Gives.entry (.c Z .n) .n) (W.seq (W.pk (.A Z (.nil (W.seq (W.fork (mkSt [(2, some (.b ((decide (x0 ≥ 65)) && (decide (x0 ≤ 90)))))] [] 1000) ?_ ?_))))))
 ·refine W.ret ?_; cases h; exact lv Z Z
 ·clear h; refine W.pk (.M Z (.B Z (.M Z ?_))); rcases tf (decide (x0 ≥ 65)) with g1 | g1
  ·exact .N Z g1 (.G Z g1 Z (.T g1 Z (.A Z (.nil (toN (Gm [] (.c Z (sbb (by simp only [g1, BL])) Z .n) .n Z))))))
  ·exact .X Z g1 (.X Z g1 (.E g1 Z (.A Z (.nil (toN (Gm [] (.c Z (sbb (by simp only [g1, BL])) Z .n) .n Z))))))

noncomputable def isin_shape.b0 (x0 : Bs) (v11 : Int) : Option (Int ⊕ (Bool ⊕ Unit)) :=
 if (decide (v11 < (List.length x0 : Int))) = true then
 if (0 : Int) ≤ v11 ∧ v11 < (List.length x0 : Int) then
 (isin_upper.f (byte x0 v11)).bind fun t38 =>
 if ((!t38) = true ∧ (decide (v11 < 2)) = false → (0 : Int) ≤ v11 ∧ v11 < (List.length x0 : Int)) then
 (if (!t38) = true ∧ (decide (v11 < 2)) = false then isin_digit.f (byte x0 v11) else some default).bind fun t41 =>
 if ((!t38) && ((decide (v11 < 2)) || (!t41))) = true then
 some (.inr (.inl false))
 else some (.inl (IntKind.wrap .i64 (v11 + 1)))
 else none
 else none
 else some (.inr (.inr ()))
noncomputable def isin_shape.r0 (x0 : Bs) (s : Int) : Option (Int ⊕ (Bool ⊕ Unit)) := isin_shape.b0 x0 s
noncomputable def isin_shape.f (x0 : Bs) : Option (Bool) :=
 (loop (isin_shape.r0 x0) 0).bind fun o33 =>
 match o33 with
 | .inl r46 => some r46
 | .inr w32 =>
 some ((List.length x0 : Int) == 11)
theorem isin_shape.ok {x0 : Bs} {r : Bool} (h : isin_shape.f x0 = some r) : Pm.Spec prog 105 [.imm (.val (.string (tx x0)))] (.imm (.val (.bool r))) [none] := by
 unfold isin_shape.f at h; refine Pm.Spec.of_body Tryz.func105 Z (by kernel_rfl) (L Z) (L Z) ?_; refine W.ghost (σ' := (mkSt [(0, some (.s x0))] [] 1000)) (Gives.entry (.c Z .n) .n) (W.seq (W.pk (.A Z (.nil (W.seq (W.seq (W.pk (.M Z (.V Z (O.lenS u9 Z Z) (.M Z (.nil ?_))))))))))); obtain ⟨o33, b34, z35⟩ := bnd1 h; refine W.fork2 (out := o33) (fun (w32 : Unit) => mkSt [(0, some (.s x0))] [] 1000) ?_ ?_
 ·clear h; refine W.block (W.loopF (fun (s_ : Int) => mkSt [(0, some (.s x0)), (5, some (.i (List.length x0 : Int))), (6, some (.i s_))] [] 1000) b34 (Gm [] (.e Z Z) .n Z) ?_); rintro v11 s_ hr; have h : isin_shape.b0 x0 v11 = some s_ := hr; unfold isin_shape.b0 at h; refine W.seq (W.pk (.B Z (.nil (W.seq (W.cnd Z h (fun q36 h => ?_) (fun q36 h => ?_))))))
  ·refine W.skip (W.seq (W.block (W.seq (W.pk (.M Z (.A Z (.nil (W.seq ?_)))))))); obtain ⟨c37, h⟩ := chk h; obtain ⟨t38, b39, h⟩ := bnd1 h; obtain ⟨c40, h⟩ := chk h; obtain ⟨t41, b42, h⟩ := bnd1 h; refine W.fork (mkSt [(0, some (.s x0)), (5, some (.i (List.length x0 : Int))), (6, some (.i v11)), (24, some (.b ((!t38) && ((decide (v11 < 2)) || (!t41)))))] [] 1000) ?_ ?_
   ·refine W.cnd Z h (fun q45 h => ?_) (fun q45 h => ?_)
    ·refine W.seq (W.pk (.A Z (.nil (W.ret ?_)))); cases h; refine rdR fun e_ => ?_; subst e_; have h := z35; dsimp only at h; refine fkR ?_; cases h; exact lv Z Z
    ·refine W.skip (W.pk (.B Z (.M Z (.nil ?_)))); cases h; exact rdN (Gm [] (.e Z Z) .n Z)
   ·clear h; refine W.pk (.M Z (.M Z (.V Z (O.idxS u9 c37 Z Z Z) (.C (.b t38) [] 0 (isin_upper.ok b39) ca116 Z (cI .nil) Z ?_)))); refine .V Z (OpL.unV Z Z Z) (.M Z ?_); rcases tf t38 with g43 | g43
    ·(iterate 3 refine .X Z (notT g43) ?_); (iterate 5 refine .x Z (unmetU Z Z Z) ?_); exact .X Z (notT g43) (.E (notT g43) Z (.nil (toN (Gm [] (.r Z Z (.r Z Z (.r Z Z (.c Z (sbb (by simp only [g43, BL])) Z .n)))) .n Z))))
    ·refine .N Z (notF g43) (.G Z (notF g43) Z (.N Z (notF g43) ?_)); rcases tf (decide (v11 < 2)) with g44 | g44
     ·(iterate 5 refine .X Z g44 ?_); exact .U Z (notF g43) (O.pickT g44 Z Z Z) (.T (notF g43) Z (.nil (toN (Gm [] (.r Z Z (.r Z Z (.r Z Z (.c Z (sbb (by simp only [g43, g44, BL])) Z .n)))) .n Z))))
     ·refine .N Z g44 (.N Z g44 (.U Z g44 (O.idxS u9 (c40 ⟨(by simp only [g43, g44, BL]), (by simp only [g43, g44, BL])⟩) Z Z Z) ?_)); refine .call (.b t41) [] 0 (isin_digit.ok ((if_pos ⟨(by simp only [g43, g44, BL]), (by simp only [g43, g44, BL])⟩).symm.trans b42)) Z (met Z Z Z g44) Z ca88 Z Z (cI .nil) Z Z Z Z Z ?_; exact .U Z g44 (OpL.unV Z Z Z) (.U Z (notF g43) (O.pickF g44 Z Z Z) (.T (notF g43) Z (.nil (toN (Gm [] (.r Z Z (.r Z Z (.r Z Z (.c Z (sbb (by simp only [g43, g44, BL])) Z .n)))) .n Z)))))
  ·refine W.exit ?_; cases h; refine rdX fun e_ => ?_; subst e_; (repeat with_reducible refine thru ?_); exact hit (fkN (Gm [] (.r Z Z .n) .n Z))
 ·intro w32 e_; subst e_; clear h; have h := z35; dsimp only at h; refine W.seq (W.pk (.M Z (.V Z (O.lenS u9 Z Z) (.B Z (.A Z (.nil (W.ret ?_))))))); cases h; exact lv Z Z

noncomputable def isin_total_1.f (x0 : Int) (x1 : Bool) (x2 : Int) : Option (Bool × Int) :=
 if x1 = true then
 some ((!x1), (IntKind.wrap .i64 (x2 + (IntKind.wrap .i64 ((IntKind.wrap .i64 (Int.tdiv (IntKind.wrap .i64 (x0 * 2)) 10)) + (Int.tmod (IntKind.wrap .i64 (x0 * 2)) 10))))))
 else some ((!x1), (IntKind.wrap .i64 (x2 + x0)))
theorem isin_total_1.ok {x0 : Int} {x1 : Bool} {x2 : Int} {r : Bool × Int} (h : isin_total_1.f x0 x1 x2 = some r) : Pm.Spec prog 117 [.imm (.val (.int .i64 x0)), .xbox [.imm (.val (.bool x1))], .xbox [.imm (.val (.int .i64 x2))]] (.tup []) [none, some (.xbox [.imm (.val (.bool r.1))]), some (.xbox [.imm (.val (.int .i64 r.2))])] := by
 unfold isin_total_1.f at h; refine Pm.Spec.of_body Tryz.func117 Z (by kernel_rfl) (L Z) (L Z) ?_; refine W.ghost (σ' := (mkSt [(0, some (.i x0)), (1, some (.ptr 0 0)), (2, some (.ptr 1 0))] [(0, some (.box [.b x1])), (1, some (.box [.i x2]))] 1000)) (Gives.entry (.c Z (.c Z (.c Z .n))) (.c Z (.c Z .n))) (W.seq (W.seq (W.pk (.V Z (O.ld (y := .b x1) ty4 Z Z Z) (.nil (W.cnd Z h (fun q1 h => ?_) (fun q1 h => ?_)))))))
 ·refine W.seq (W.pk (.M Z (.B Z (.A Z (.nil (W.pk (.M Z (.V Z (O.quo Z Z Z (by decide)) ?_)))))))); refine .M Z (.V Z (O.rem Z Z Z (by decide)) ?_); refine .B Z (.A Z (.nil (W.seq (W.pk (.V Z (O.ld (y := .i x2) ty3 Z Z Z) (.M Z (.B Z (.S ty3 Z [.i (IntKind.wrap .i64 (x2 + (IntKind.wrap .i64 ((IntKind.wrap .i64 (Int.tdiv (IntKind.wrap .i64 (x0 * 2)) 10)) + (Int.tmod (IntKind.wrap .i64 (x0 * 2)) 10)))))] Z (.nil (W.pk (.V Z (O.ld (y := .b x1) ty4 Z Z Z) ?_))))))))))); refine .V Z (OpL.unV Z Z Z) (.S ty4 Z [.b (!x1)] Z (.nil ?_)); cases h; exact leaves (.inl Z) Z (.tup _ _ _ _ .nil) (cN (cS (.ptr _ _ _ _ _ Z (cI .nil)) (cS (.ptr _ _ _ _ _ Z (cI .nil)) .nil))) Z Z
 ·refine W.skip (W.seq (W.pk (.V Z (O.ld (y := .i x2) ty3 Z Z Z) (.M Z (.B Z (.S ty3 Z [.i (IntKind.wrap .i64 (x2 + x0))] Z (.nil (W.pk (.V Z (O.ld (y := .b x1) ty4 Z Z Z) (.V Z (OpL.unV Z Z Z) (.S ty4 Z [.b (!x1)] Z ?_))))))))))); refine .nil ?_; cases h; exact leaves (.inl Z) Z (.tup _ _ _ _ .nil) (cN (cS (.ptr _ _ _ _ _ Z (cI .nil)) (cS (.ptr _ _ _ _ _ Z (cI .nil)) .nil))) Z Z

noncomputable def isin_total.b0 (x0 : Bs) (v14 : Int) (v15 : Bool) (v16 : Int) : Option ((Int × Bool × Int) ⊕ Int) :=
 if (decide (v14 ≥ 0)) = true then
 if (0 : Int) ≤ v14 ∧ v14 < (List.length x0 : Int) then
 (isin_digit.f (byte x0 v14)).bind fun t49 =>
 if t49 = true then
 if (0 : Int) ≤ v14 ∧ v14 < (List.length x0 : Int) then
 (isin_total_1.f (IntKind.wrap .i64 (IntKind.wrap .u8 ((byte x0 v14) - 48))) v15 v16).bind fun t53 =>
 some (.inl ((IntKind.wrap .i64 (v14 - 1)), t53.1, t53.2))
 else none
 else if (0 : Int) ≤ v14 ∧ v14 < (List.length x0 : Int) then
 (isin_total_1.f (Int.tmod (IntKind.wrap .i64 ((IntKind.wrap .i64 (IntKind.wrap .u8 ((byte x0 v14) - 65))) + 10)) 10) v15 v16).bind fun t56 =>
 (isin_total_1.f (IntKind.wrap .i64 (Int.tdiv (IntKind.wrap .i64 ((IntKind.wrap .i64 (IntKind.wrap .u8 ((byte x0 v14) - 65))) + 10)) 10)) t56.1 t56.2).bind fun t58 =>
 some (.inl ((IntKind.wrap .i64 (v14 - 1)), t58.1, t58.2))
 else none
 else none
 else some (.inr v16)
noncomputable def isin_total.r0 (x0 : Bs) (s : Int × Bool × Int) : Option ((Int × Bool × Int) ⊕ Int) := isin_total.b0 x0 s.1 s.2.1 s.2.2
noncomputable def isin_total.f (x0 : Bs) (x1 : Bool) : Option (Int) :=
 (loop (isin_total.r0 x0) ((IntKind.wrap .i64 ((List.length x0 : Int) - 1)), x1, 0)).bind fun o44 =>
 some o44
theorem isin_total.ok {x0 : Bs} {x1 : Bool} {r : Int} (h : isin_total.f x0 x1 = some r) : Pm.Spec prog 106 [.imm (.val (.string (tx x0))), .imm (.val (.bool x1))] (.imm (.val (.int .i64 r))) [none, none] := by
 unfold isin_total.f at h; refine Pm.Spec.of_body Tryz.func106 Z (by kernel_rfl) (L Z) (L Z) ?_; refine W.ghost (σ' := (mkSt [(0, some (.s x0)), (1, some (.b x1))] [] 1000)) (Gives.entry (.c Z (.c Z .n)) .n) (W.seq (W.pk (.t Z Z (O.box Z Z Z Z Z) (.A Z (.nil (W.seq (W.pk (.t Z Z (O.alloc z3 Z) (.S ty3 Z [.i 0] Z (.nil (W.seq ?_))))))))))); refine W.pk (.V Z (OpL.mkfn Z Z) (.A Z (.nil (W.seq (W.seq (W.pk (.M Z (.V Z (O.lenS u9 Z Z) (.B Z (.A Z (.nil ?_))))))))))); obtain ⟨o44, b45, h⟩ := bnd1 h; refine W.fork (mkSt [(5, some (.ptr 1001 0))] [(1001, some (.box [.i o44]))] 1002) ?_ ?_
 ·refine W.seq (W.pk (.V Z (O.ld (y := .i o44) ty3 Z Z Z) (.A Z (.nil (W.ret ?_))))); cases h; exact leaves (.inr Z) Z (.imm _) (cN (cN .nil)) Z Z
 ·clear h; refine W.block (W.loopF (fun (s_ : Int × Bool × Int) => mkSt [(0, some (.s x0)), (5, some (.ptr 1001 0)), (6, some (.fn 117 [.ptr 1000 0, .ptr 1001 0])), (7, some (.i s_.1))] [(1000, some (.box [.b s_.2.1])), (1001, some (.box [.i s_.2.2]))] 1002) b45 (Gm [] (.e Z Z) (.e Z Z) Z) ?_); rintro ⟨v14, v15, v16⟩ s_ hr; have h : isin_total.b0 x0 v14 v15 v16 = some s_ := hr; unfold isin_total.b0 at h; refine W.seq (W.seq (W.pk (.M Z (.B Z (.nil (W.cnd Z h (fun q47 h => ?_) (fun q47 h => ?_)))))))
  ·refine W.skip (W.seq (W.block (W.seq (W.seq ?_)))); obtain ⟨c48, h⟩ := chk h; obtain ⟨t49, b50, h⟩ := bnd1 h; refine W.pk (.M Z (.M Z (.V Z (O.idxS u9 c48 Z Z Z) (.C (.b t49) [] 0 (isin_digit.ok b50) ca88 Z (cI .nil) Z ?_)))); refine .nil (W.cnd Z h (fun q51 h => ?_) (fun q51 h => ?_))
   ·refine W.seq ?_; obtain ⟨c52, h⟩ := chk h; obtain ⟨t53, b54, h⟩ := bnd1 h; refine W.pk (.M Z (.M Z (.M Z (.V Z (O.idxS u9 c52 Z Z Z) (.B Z (.V Z (O.conv h5 u3 Z Z) (.C (.tup []) [(1000, some (.box [.b t53.1])), (1001, some (.box [.i t53.2])), (1000, none), (1001, none)] 0 (isin_total_1.ok b54) ca117 Z (cI (cC (.ptr _ _ _ _ _ Z (cI .nil)) (cC (.ptr _ _ _ _ _ Z (cI .nil)) .nil))) Z ?_))))))); refine .nil (W.exit ?_); (repeat with_reducible refine thru ?_); refine hit (W.pk (.M Z (.B Z (.A Z (.nil ?_))))); cases h; exact rdN (Gm [] (.e Z Z) (.e Z Z) Z)
   ·refine W.skip (W.seq ?_); obtain ⟨c55, h⟩ := chk h; refine W.pk (.M Z (.M Z (.V Z (O.idxS u9 c55 Z Z Z) (.B Z (.V Z (O.conv h5 u3 Z Z) (.B Z (.A Z (.nil (W.seq ?_))))))))); obtain ⟨t56, b57, h⟩ := bnd1 h; refine W.pk (.M Z (.M Z (.V Z (O.rem Z Z Z (by decide)) ?_))); refine .C (.tup []) [(1000, some (.box [.b t56.1])), (1001, some (.box [.i t56.2])), (1000, none), (1001, none)] 0 (isin_total_1.ok b57) ca117 Z (cI (cC (.ptr _ _ _ _ _ Z (cI .nil)) (cC (.ptr _ _ _ _ _ Z (cI .nil)) .nil))) Z ?_; refine .nil ?_; obtain ⟨t58, b59, h⟩ := bnd1 h; refine W.pk (.M Z (.M Z (.V Z (O.quo Z Z Z (by decide)) ?_))); refine .C (.tup []) [(1000, some (.box [.b t58.1])), (1001, some (.box [.i t58.2])), (1000, none), (1001, none)] 0 (isin_total_1.ok b59) ca117 Z (cI (cC (.ptr _ _ _ _ _ Z (cI .nil)) (cC (.ptr _ _ _ _ _ Z (cI .nil)) .nil))) Z ?_; refine .nil (W.pk (.M Z (.B Z (.A Z (.nil ?_))))); cases h; exact rdN (Gm [] (.e Z Z) (.e Z Z) Z)
  ·refine W.exit ?_; cases h; refine rdX fun e_ => ?_; subst e_; (repeat with_reducible refine thru ?_); exact hit (toN (Gm [] (.r Z Z .n) (.r Z Z Z .n) Z))

noncomputable def isin_Digit.f (x0 : Bs) : Option (Int × Int) :=
 (isin_shape.f x0).bind fun t1 =>
 if (!t1) = true then
 some (0, 11)
 else (isin_total.f x0 true).bind fun t4 =>
 some ((IntKind.wrap .u8 (IntKind.wrap .i64 (48 + (Int.tmod (IntKind.wrap .i64 (10 - (Int.tmod t4 10))) 10)))), 0)
theorem isin_Digit.ok {x0 : Bs} {r : Int × Int} (h : isin_Digit.f x0 = some r) : Pm.Spec prog 89 [.imm (.val (.string (tx x0)))] (.tup [.imm (.val (.int .u8 r.1)), .imm (.val (.int .i64 r.2))]) [none] := by
 unfold isin_Digit.f at h; refine Pm.Spec.of_body Tryz.func89 Z (by kernel_rfl) (L Z) (L Z) ?_; refine W.ghost (σ' := (mkSt [(0, some (.s x0))] [] 1000)) (Gives.entry (.c Z .n) .n) (W.seq (W.pk (.A Z (.A Z (.nil (W.seq (W.seq ?_))))))); obtain ⟨t1, b2, h⟩ := bnd1 h; refine W.pk (.M Z (.C (.b t1) [] 0 (isin_shape.ok b2) ca105 Z (cI .nil) Z ?_)); refine .V Z (OpL.unV Z Z Z) (.nil (W.cnd Z h (fun q3 h => ?_) (fun q3 h => ?_)))
 ·refine W.seq (W.pk (.A Z (.A Z (.nil (W.ret ?_))))); cases h; exact leaves (.inr Z) Z (.tup _ _ _ _ (cI (cI .nil))) (cN .nil) Z Z
 ·refine W.skip (W.seq ?_); obtain ⟨t4, b5, h⟩ := bnd1 h; refine W.pk (.M Z (.C (.i t4) [] 0 (isin_total.ok b5) ca106 Z (cI (cI .nil)) Z ?_)); refine .V Z (O.rem Z Z Z (by decide)) ?_; refine .B Z (.V Z (O.rem Z Z Z (by decide)) ?_); refine .B Z (.V Z (O.conv h3 u5 Z Z) (.A Z (.A Z (.nil (W.ret ?_))))); cases h; exact leaves (.inr Z) Z (.tup _ _ _ _ (cI (cI .nil))) (cN .nil) Z Z

noncomputable def isin_Check.f (x0 : Bs) : Option (Int) :=
 if (((List.length x0 : Int) != 12) = false → (0 : Int) ≤ 11 ∧ 11 < (List.length x0 : Int)) then
 (if ((List.length x0 : Int) != 12) = false then isin_digit.f (byte x0 11) else some default).bind fun t2 =>
 if (((List.length x0 : Int) != 12) || (!t2)) = true then
 some 11
 else if (0 : Int) ≤ 0 ∧ (0 : Int) ≤ 11 ∧ 11 ≤ (List.length x0 : Int) then
 (isin_Digit.f (List.take (Int.toNat 11 - Int.toNat 0) (List.drop (Int.toNat 0) x0))).bind fun t7 =>
 if ((t7.2 == 0) = true → (0 : Int) ≤ 11 ∧ 11 < (List.length x0 : Int)) then
 if ((t7.2 == 0) && (t7.1 != (byte x0 11))) = true then
 some 12
 else some t7.2
 else none
 else none
 else none
theorem isin_Check.ok {x0 : Bs} {r : Int} (h : isin_Check.f x0 = some r) : Pm.Spec prog 62 [.imm (.val (.string (tx x0)))] (.imm (.val (.int .i64 r))) [none] := by
 unfold isin_Check.f at h; refine Pm.Spec.of_body Tryz.func62 Z (by kernel_rfl) (L Z) (L Z) ?_; refine W.ghost (σ' := (mkSt [(0, some (.s x0))] [] 1000)) (Gives.entry (.c Z .n) .n) (W.seq (W.pk (.A Z (.nil (W.seq (W.seq ?_)))))); obtain ⟨c1, h⟩ := chk h; obtain ⟨t2, b3, h⟩ := bnd1 h; refine W.fork (mkSt [(0, some (.s x0)), (13, some (.b (((List.length x0 : Int) != 12) || (!t2))))] [] 1000) ?_ ?_
 ·refine W.cnd Z h (fun q5 h => ?_) (fun q5 h => ?_)
  ·refine W.seq (W.pk (.A Z (.nil (W.ret ?_)))); cases h; exact lv Z Z
  ·refine W.skip (W.seq ?_); obtain ⟨c6, h⟩ := chk h; obtain ⟨t7, b8, h⟩ := bnd1 h; refine W.pk (.M Z (.V Z (O.partS u9 c6 Z Z Z Z) (.C (.tup [.imm (.val (.int .u8 t7.1)), .i t7.2]) [] 0 (isin_Digit.ok b8) ca89 Z (cI .nil) Z ?_))); refine .M Z ?_; (iterate 2 refine .V Z (OpL.extract Z Z Z) ?_); refine .A Z (.A Z (.nil (W.seq (W.seq ?_)))); obtain ⟨c9, h⟩ := chk h; refine W.fork (mkSt [(4, some (.i t7.2)), (27, some (.b ((t7.2 == 0) && (t7.1 != (byte x0 11)))))] [] 1000) ?_ ?_
   ·refine W.cnd Z h (fun q11 h => ?_) (fun q11 h => ?_)
    ·refine W.pk (.A Z (.nil (W.seq (W.pk (.M Z (.A Z (.nil (W.ret ?_)))))))); cases h; exact lv Z Z
    ·refine W.skip (W.seq (W.pk (.M Z (.A Z (.nil (W.ret ?_)))))); cases h; exact lv Z Z
   ·clear h; refine W.pk (.M Z (.B Z (.M Z ?_))); rcases tf (t7.2 == 0) with g10 | g10
    ·refine .N Z g10 (.N Z g10 (.U Z g10 (O.idxS u9 (c9 (by simp only [g10, BL])) Z Z Z) ?_)); exact .G Z g10 Z (.T g10 Z (.nil (toN (Gm [] (.r Z Z (.c Z (sbb (by simp only [g10, BL])) Z .n)) .n Z))))
    ·(iterate 4 refine .X Z g10 ?_); exact .E g10 Z (.nil (toN (Gm [] (.r Z Z (.c Z (sbb (by simp only [g10, BL])) Z .n)) .n Z)))
 ·clear h; refine W.pk (.M Z (.V Z (O.lenS u9 Z Z) (.B Z (.M Z ?_)))); rcases tf ((List.length x0 : Int) != 12) with g4 | g4
  ·(iterate 4 refine .X Z g4 ?_); exact .T g4 Z (.nil (toN (Gm [] (.r Z Z (.c Z (sbb (by simp only [g4, BL])) Z .n)) .n Z)))
  ·refine .N Z g4 (.U Z g4 (O.idxS u9 (c1 (by simp only [g4, BL])) Z Z Z) ?_); refine .call (.b t2) [] 0 (isin_digit.ok ((if_pos (by simp only [g4, BL])).symm.trans b3)) Z (met Z Z Z g4) Z ca88 Z Z (cI .nil) Z Z Z Z Z ?_; exact .U Z g4 (OpL.unV Z Z Z) (.E g4 Z (.nil (toN (Gm [] (.r Z Z (.c Z (sbb (by simp only [g4, BL])) Z .n)) .n Z))))

noncomputable def isin_Currency.f (x0 : Bs) : Option (Bool) :=
 if (x0 == [69, 85, 82]) = true then
 if (x0 == [69, 85, 82]) = true then
 some true
 else some false
 else if (x0 == [85, 83, 68]) = true then
 if (x0 == [85, 83, 68]) = true then
 some true
 else some false
 else if (x0 == [71, 66, 80]) = true then
 if (x0 == [71, 66, 80]) = true then
 some true
 else some false
 else if (x0 == [67, 72, 70]) = true then
 if (x0 == [67, 72, 70]) = true then
 some true
 else some false
 else if (x0 == [74, 80, 89]) = true then
 if (x0 == [74, 80, 89]) = true then
 some true
 else some false
 else if (x0 == [83, 69, 75]) = true then
 if (x0 == [83, 69, 75]) = true then
 some true
 else some false
 else if (x0 == [78, 79, 75]) = true then
 if (x0 == [78, 79, 75]) = true then
 some true
 else some false
 else if (x0 == [68, 75, 75]) = true then
 some true
 else some false
theorem isin_Currency.ok {x0 : Bs} {r : Bool} (h : isin_Currency.f x0 = some r) : Pm.Spec prog 60 [.imm (.val (.string (tx x0)))] (.imm (.val (.bool r))) [none] := by
 unfold isin_Currency.f at h; refine Pm.Spec.of_body Tryz.func60 Z (by kernel_rfl) (L Z) (L Z) ?_; refine W.ghost (σ' := (mkSt [(0, some (.s x0))] [] 1000)) (Gives.entry (.c Z .n) .n) (W.seq (W.pk (.A Z (.nil (W.seq (W.seq (W.pk (.M Z (.nil (W.block (W.seq ?_))))))))))); refine W.seq (W.pk (.V Z (O.cmpS Z Z Z Z) (.A Z (.nil (W.cnd Z h (fun q1 h => ?_) (fun q1 h => ?_))))))
 ·refine W.skip (W.cnd Z h (fun q2 h => ?_) (fun q2 h => ?_))
  ·refine W.seq (W.pk (.A Z (.nil (W.ret ?_)))); cases h; exact lv Z Z
  ·refine W.skip (W.seq (W.pk (.A Z (.nil (W.ret ?_))))); cases h; exact lv Z Z
 ·refine W.seq (W.pk (.V Z (O.cmpS Z Z Z Z) (.A Z (.nil (W.cnd Z h (fun q3 h => ?_) (fun q3 h => ?_))))))
  ·refine W.skip (W.cnd Z h (fun q4 h => ?_) (fun q4 h => ?_))
   ·refine W.seq (W.pk (.A Z (.nil (W.ret ?_)))); cases h; exact lv Z Z
   ·refine W.skip (W.seq (W.pk (.A Z (.nil (W.ret ?_))))); cases h; exact lv Z Z
  ·refine W.seq (W.pk (.V Z (O.cmpS Z Z Z Z) (.A Z (.nil (W.cnd Z h (fun q5 h => ?_) (fun q5 h => ?_))))))
   ·refine W.skip (W.cnd Z h (fun q6 h => ?_) (fun q6 h => ?_))
    ·refine W.seq (W.pk (.A Z (.nil (W.ret ?_)))); cases h; exact lv Z Z
    ·refine W.skip (W.seq (W.pk (.A Z (.nil (W.ret ?_))))); cases h; exact lv Z Z
   ·refine W.seq (W.pk (.V Z (O.cmpS Z Z Z Z) (.A Z (.nil (W.cnd Z h (fun q7 h => ?_) (fun q7 h => ?_))))))
    ·refine W.skip (W.cnd Z h (fun q8 h => ?_) (fun q8 h => ?_))
     ·refine W.seq (W.pk (.A Z (.nil (W.ret ?_)))); cases h; exact lv Z Z
     ·refine W.skip (W.seq (W.pk (.A Z (.nil (W.ret ?_))))); cases h; exact lv Z Z
    ·refine W.seq (W.pk (.V Z (O.cmpS Z Z Z Z) (.A Z (.nil (W.cnd Z h (fun q9 h => ?_) (fun q9 h => ?_))))))
     ·refine W.skip (W.cnd Z h (fun q10 h => ?_) (fun q10 h => ?_))
      ·refine W.seq (W.pk (.A Z (.nil (W.ret ?_)))); cases h; exact lv Z Z
      ·refine W.skip (W.seq (W.pk (.A Z (.nil (W.ret ?_))))); cases h; exact lv Z Z
     ·refine W.seq (W.pk (.V Z (O.cmpS Z Z Z Z) (.A Z (.nil (W.cnd Z h (fun q11 h => ?_) (fun q11 h => ?_))))))
      ·refine W.skip (W.cnd Z h (fun q12 h => ?_) (fun q12 h => ?_))
       ·refine W.seq (W.pk (.A Z (.nil (W.ret ?_)))); cases h; exact lv Z Z
       ·refine W.skip (W.seq (W.pk (.A Z (.nil (W.ret ?_))))); cases h; exact lv Z Z
      ·refine W.seq (W.pk (.V Z (O.cmpS Z Z Z Z) (.A Z (.nil (W.cnd Z h (fun q13 h => ?_) (fun q13 h => ?_))))))
       ·refine W.skip (W.cnd Z h (fun q14 h => ?_) (fun q14 h => ?_))
        ·refine W.seq (W.pk (.A Z (.nil (W.ret ?_)))); cases h; exact lv Z Z
        ·refine W.skip (W.seq (W.pk (.A Z (.nil (W.ret ?_))))); cases h; exact lv Z Z
       ·refine W.pk (.V Z (O.cmpS Z Z Z Z) (.A Z (.nil (W.cnd Z h (fun q15 h => ?_) (fun q15 h => ?_)))))
        ·refine W.seq (W.pk (.A Z (.nil (W.ret ?_)))); cases h; exact lv Z Z
        ·refine W.skip (W.seq (W.pk (.A Z (.nil (W.ret ?_))))); cases h; exact lv Z Z
end Go.Proofs.YtjdkibnhlmgppaaGreat
