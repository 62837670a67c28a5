/- Shows what functions of the program come to, each as a plain function: written by a program of the author's for this claim. -/
import Derived.Test.YtoongmdkndbppaaGx3
namespace Go.Proofs.Ytoongmdkndbppaa
open Go Go.Pm
set_option linter.unusedVariables false
set_option linter.unusedSimpArgs false
noncomputable def lombardlaw09_WireBack.b0 (x0 : List lombardlaw09_Item) (v56 : Int) (v57 : Bs) (v58 : Int) (v59 : Int) : Option ((Int × Bs × Int × Int) ⊕ (Bool ⊕ (Bs × Int × Int))) :=
  if (decide (v56 < (List.length x0 : Int))) = true then
    if (0 : Int) ≤ v56 ∧ v56 < (List.length x0 : Int) then
    ((
      if (((nth x0 v56).Kind) == 0) = true then
        (wire_Reader_Uint.f (⟨v57, v58, v59⟩ : wire_Reader)).bind fun t177 =>
        some ((t177.1 == ((nth x0 v56).U)), t177.2.s, t177.2.at', t177.2.e)
      else
        if (((nth x0 v56).Kind) == 1) = true then
          (wire_Reader_Int.f (⟨v57, v58, v59⟩ : wire_Reader)).bind fun t180 =>
          some ((t180.1 == ((nth x0 v56).N)), t180.2.s, t180.2.at', t180.2.e)
        else
          if (((nth x0 v56).Kind) == 2) = true then
            (wire_Reader_Text.f (⟨v57, v58, v59⟩ : wire_Reader) 6000).bind fun t183 =>
            some ((t183.1 == ((nth x0 v56).Text)), t183.2.s, t183.2.at', t183.2.e)
          else
            if (((nth x0 v56).Kind) == 3) = true then
              (wire_Reader_Bool.f (⟨v57, v58, v59⟩ : wire_Reader)).bind fun t186 =>
              some ((t186.1 == ((nth x0 v56).OK)), t186.2.s, t186.2.at', t186.2.e)
            else
              (wire_Reader_Ints.f (⟨v57, v58, v59⟩ : wire_Reader) 6000).bind fun t188 =>
              (lombardref09_Same.f t188.1 ((nth x0 v56).L)).bind fun t190 =>
              some (t190, t188.2.s, t188.2.at', t188.2.e) : Option (Bool × Bs × Int × Int))).bind fun o174 =>
    (if (!o174.1) = false then wire_Reader_Err.f (⟨o174.2.1, o174.2.2.1, o174.2.2.2⟩ : wire_Reader) else some default).bind fun t192 =>
    if ((!o174.1) || (t192 != 0)) = true then
      some (.inr (.inl false))
    else
      some (.inl ((IntKind.wrap .i64 (v56 + 1)), (⟨o174.2.1, o174.2.2.1, o174.2.2.2⟩ : wire_Reader).s, (⟨o174.2.1, o174.2.2.1, o174.2.2.2⟩ : wire_Reader).at', (⟨o174.2.1, o174.2.2.1, o174.2.2.2⟩ : wire_Reader).e))
    else none
  else
    some (.inr (.inr (v57, v58, v59)))
noncomputable def lombardlaw09_WireBack.r0 (x0 : List lombardlaw09_Item) (s : Int × Bs × Int × Int) : Option ((Int × Bs × Int × Int) ⊕ (Bool ⊕ (Bs × Int × Int))) := lombardlaw09_WireBack.b0 x0 s.1 s.2.1 s.2.2.1 s.2.2.2
noncomputable def lombardlaw09_WireBack.f (x0 : List lombardlaw09_Item) (x1 : Bs) : Option (Bool) :=
  (lombardlaw09_small.f x0).bind fun t1 =>
  if ((!t1) || (decide ((List.length x1 : Int) > 6000))) = true then
    (lombardlaw09_awake.f).bind fun t5 =>
    some t5
  else
    (lombardlaw09_written.f x0).bind fun t7 =>
    if (t7.length : Int) + x1.length ≤ 9223372036854775807 then
    (wire_NewReader.f (t7 ++ x1)).bind fun t10 =>
    (loop (lombardlaw09_WireBack.r0 x0) (0, t10.s, t10.at', t10.e)).bind fun o149 =>
    match o149 with
    | .inl r196 => some r196
    | .inr w148 =>
      (wire_Reader_At.f (⟨w148.1, w148.2.1, w148.2.2⟩ : wire_Reader)).bind fun t197 =>
      (if (t197 == (List.length t7 : Int)) = true then wire_Reader_End.f (⟨w148.1, w148.2.1, w148.2.2⟩ : wire_Reader) else some (default, (⟨w148.1, w148.2.1, w148.2.2⟩ : wire_Reader))).bind fun t199 =>
      (if ((t197 == (List.length t7 : Int)) && (t199.1 == (x1 == []))) = true ∧ (x1 == []) = false then wire_Reader_Err.f t199.2 else some default).bind fun t201 =>
      (if (((t197 == (List.length t7 : Int)) && (t199.1 == (x1 == []))) && ((x1 == []) || (t201 == 16))) = true then lombardlaw09_awake.f else some default).bind fun t203 =>
      some ((((t197 == (List.length t7 : Int)) && (t199.1 == (x1 == []))) && ((x1 == []) || (t201 == 16))) && t203)
    else none
set_option maxRecDepth 100000 in
set_option maxHeartbeats 4000000 in
theorem lombardlaw09_WireBack.ok {x0 : List lombardlaw09_Item} {x1 : Bs} {r : Bool} (h : lombardlaw09_WireBack.f x0 x1 = some r) : Pm.Spec prog 5 [.imm (.row 6 (List.map lombardlaw09_Item.enc x0)), .imm (.val (.string (tx x1)))] (.imm (.val (.bool r))) [none, none] := by
  unfold lombardlaw09_WireBack.f at h
  refine Pm.Spec.of_body Try.func5 rfl (by kernel_rfl) (Nat.le_of_ble_eq_true rfl) (Nat.le_of_ble_eq_true rfl) ?_
  refine W.ghost (σ' := (mkSt [(0, some (.imm (.row 6 (List.map lombardlaw09_Item.enc x0)))), (1, some (.imm (.val (.string (tx x1)))))] [] 1000)) (Gives.entry (.c rfl (.c rfl .n)) .n) ?_
  refine W.seq ?_
  refine W.pk ?_
  refine .v rfl rfl (OpL.move (.inr rfl) rfl) ?_
  refine .nil ?_
  refine W.seq ?_
  refine W.seq ?_
  obtain ⟨t1, b2, h⟩ := bnd1 h
  refine W.fork (mkSt [(0, some (.imm (.row 6 (List.map lombardlaw09_Item.enc x0)))), (1, some (.imm (.val (.string (tx x1))))), (17, some (.imm (.val (.bool ((!t1) || (decide ((List.length x1 : Int) > 6000)))))))] [] 1000) ?_ ?_
  · refine W.cond rfl (fun q4 => ?_) (fun q4 => ?_)
    · have h := ifT q4 h
      refine W.seq ?_
      obtain ⟨t5, b6, h⟩ := bnd1 h
      refine W.pk ?_
      refine .call (.imm (.val (.bool t5))) [] 0 (lombardlaw09_awake.ok b6) rfl rfl rfl ca8 rfl rfl .nil rfl rfl rfl rfl rfl ?_
      refine .v rfl rfl (OpL.move (.inr rfl) rfl) ?_
      refine .nil ?_
      refine W.ret ?_
      cases h
      exact leaves (.inr rfl) rfl (.imm _) (cN (cN .nil)) rfl rfl
    · have h := ifF q4 h
      refine W.skip ?_
      refine W.seq ?_
      obtain ⟨t7, b8, h⟩ := bnd1 h
      refine W.pk ?_
      refine .v rfl rfl (OpL.move (.inl rfl) rfl) ?_
      refine .call (.imm (.val (.string (tx t7)))) [] 0 (lombardlaw09_written_v2.ok b8) rfl rfl rfl ca14 rfl rfl (cC (.imm _) .nil) rfl rfl rfl rfl rfl ?_
      refine .v rfl rfl (OpL.move (.inr rfl) rfl) ?_
      refine .nil ?_
      refine W.seq ?_
      obtain ⟨c9, h⟩ := chk h
      obtain ⟨t10, b11, h⟩ := bnd1 h
      refine W.pk ?_
      refine .v rfl rfl (OpL.move (.inl rfl) rfl) ?_
      refine .v rfl rfl (OpL.move (.inl rfl) rfl) ?_
      refine .v rfl rfl (O.catS c9 rfl rfl rfl) ?_
      refine .call (.ptr 1000 0) [(1000, some (.box [.imm (.val (.string (tx t10.s))), .imm (.val (.int .i64 t10.at')), .imm (.val (.int .i64 t10.e))]))] 1 (wire_NewReader.ok b11) rfl rfl rfl ca15 rfl rfl (cC (.imm _) .nil) rfl rfl rfl rfl rfl ?_
      refine .v rfl rfl (OpL.move (.inr rfl) rfl) ?_
      refine .nil ?_
      refine W.seq ?_
      refine W.seq ?_
      refine W.pk ?_
      refine .v rfl rfl (OpL.move (.inl rfl) rfl) ?_
      refine .v rfl rfl (OpL.eqP rfl u35 rfl rfl rfl) ?_
      refine .nil ?_
      refine W.cond rfl (fun q => by cases q) (fun _ => ?_)
      refine W.skip ?_
      refine W.seq ?_
      refine W.seq ?_
      refine W.pk ?_
      refine .v rfl rfl (OpL.move (.inr rfl) rfl) ?_
      refine .nil ?_
      obtain ⟨o149, b150, z151⟩ := bnd1 h
      refine W.fork2 (out := o149) (fun (w148 : Bs × Int × Int) => mkSt [(1, some (.imm (.val (.string (tx x1))))), (5, some (.imm (.val (.string (tx t7))))), (6, some (.ptr 1000 0))] [(1000, some (.box [.imm (.val (.string (tx w148.1))), .imm (.val (.int .i64 w148.2.1)), .imm (.val (.int .i64 w148.2.2))]))] 1001) ?_ ?_
      · clear h
        refine W.block ?_
        refine W.loopF (fun (s_ : Int × Bs × Int × Int) => mkSt [(0, some (.imm (.row 6 (List.map lombardlaw09_Item.enc x0)))), (1, some (.imm (.val (.string (tx x1))))), (5, some (.imm (.val (.string (tx t7))))), (6, some (.ptr 1000 0)), (7, some (.imm (.val (.int .i64 s_.1))))] [(1000, some (.box [.imm (.val (.string (tx s_.2.1))), .imm (.val (.int .i64 s_.2.2.1)), .imm (.val (.int .i64 s_.2.2.2))]))] 1001) b150 (Gives.mkR [] (.c rfl (.rfl _) rfl (.c rfl (.rfl _) rfl (.c rfl (.rfl _) rfl (.c rfl (.rfl _) rfl (.c rfl (.rfl _) rfl .n))))) (.c rfl (.rfl _) rfl rfl .n) rfl rfl rfl) ?_
        rintro ⟨v56, v57, v58, v59⟩ s_ hr
        have h : lombardlaw09_WireBack.b0 x0 v56 v57 v58 v59 = some s_ := hr
        unfold lombardlaw09_WireBack.b0 at h
        refine W.seq ?_
        refine W.seq ?_
        refine W.pk ?_
        refine .v rfl rfl (OpL.move (.inl rfl) rfl) ?_
        refine .v rfl rfl (OpL.move (.inl rfl) rfl) ?_
        refine .v rfl rfl (O.lenR sl22 rfl rfl) ?_
        refine .v rfl rfl (OpL.binI rfl rfl rfl rfl) ?_
        refine .nil ?_
        refine W.cond rfl (fun q152 => ?_) (fun q152 => ?_)
        · have h := ifT q152 h
          refine W.skip ?_
          refine W.seq ?_
          refine W.block ?_
          refine W.seq ?_
          obtain ⟨c153, h⟩ := chk h
          refine W.pk ?_
          refine .v rfl rfl (OpL.move (.inl rfl) rfl) ?_
          refine .v rfl rfl (OpL.move (.inl rfl) rfl) ?_
          refine .v rfl rfl (O.idx sl22 c153 rfl rfl rfl) ?_
          refine .v rfl rfl (O.ldN ty28 rfl rfl rfl) ?_
          refine .t rfl rfl (O.alloc z28 rfl) ?_
          refine .s rfl rfl (O.st ty28 rfl rfl rfl rfl rfl rfl rfl rfl rfl rfl (all' := [.imm (.val (.int .i64 ((nth x0 v56).Kind))), .imm (.val (.int .u64 ((nth x0 v56).U))), .imm (.val (.int .i64 ((nth x0 v56).N))), .imm (.val (.string (tx ((nth x0 v56).Text)))), .imm (.val (.bool ((nth x0 v56).OK))), .imm (.row 1 (List.map (encI .i64) ((nth x0 v56).L)))]) rfl) ?_
          refine .nil ?_
          refine W.seq ?_
          refine W.pk ?_
          refine .v rfl rfl (OpL.move (.inr rfl) rfl) ?_
          refine .nil ?_
          refine W.seq ?_
          refine W.seq ?_
          refine W.pk ?_
          refine .v rfl rfl (O.fld fld28_0 rfl rfl rfl) ?_
          refine .v rfl rfl (O.ld ty3 rfl rfl rfl) ?_
          refine .nil ?_
          obtain ⟨o174, b175, h⟩ := bnd1 h
          refine W.fork (mkSt [(0, some (.imm (.row 6 (List.map lombardlaw09_Item.enc x0)))), (1, some (.imm (.val (.string (tx x1))))), (5, some (.imm (.val (.string (tx t7))))), (6, some (.ptr 1000 0)), (7, some (.imm (.val (.int .i64 v56)))), (9, some (.imm (.val (.bool o174.1))))] [(1000, some (.box [.imm (.val (.string (tx o174.2.1))), .imm (.val (.int .i64 o174.2.2.1)), .imm (.val (.int .i64 o174.2.2.2))]))] 1003) ?_ ?_
          · refine W.seq ?_
            obtain ⟨t192, b193, h⟩ := bnd1 h
            refine W.fork (mkSt [(0, some (.imm (.row 6 (List.map lombardlaw09_Item.enc x0)))), (1, some (.imm (.val (.string (tx x1))))), (5, some (.imm (.val (.string (tx t7))))), (6, some (.ptr 1000 0)), (7, some (.imm (.val (.int .i64 v56)))), (78, some (.imm (.val (.bool ((!o174.1) || (t192 != 0))))))] [(1000, some (.box [.imm (.val (.string (tx ((⟨o174.2.1, o174.2.2.1, o174.2.2.2⟩ : wire_Reader).s)))), .imm (.val (.int .i64 ((⟨o174.2.1, o174.2.2.1, o174.2.2.2⟩ : wire_Reader).at'))), .imm (.val (.int .i64 ((⟨o174.2.1, o174.2.2.1, o174.2.2.2⟩ : wire_Reader).e)))]))] 1003) ?_ ?_
            · refine W.cond rfl (fun q195 => ?_) (fun q195 => ?_)
              · have h := ifT q195 h
                refine W.seq ?_
                refine W.pk ?_
                refine .v rfl rfl (OpL.move (.inr rfl) rfl) ?_
                refine .nil ?_
                refine W.ret ?_
                cases h
                refine rdR fun e_ => ?_
                subst e_
                have h := z151
                dsimp only at h
                refine fkR ?_
                cases h
                exact leaves (.inr rfl) rfl (.imm _) (cN (cN .nil)) rfl rfl
              · have h := ifF q195 h
                refine W.skip ?_
                refine W.pk ?_
                refine .v rfl rfl (OpL.move (.inl rfl) rfl) ?_
                refine .v rfl rfl (OpL.binI rfl rfl rfl rfl) ?_
                refine .v rfl rfl (OpL.move (.inr rfl) rfl) ?_
                refine .nil ?_
                cases h
                exact rdN (Gives.mkR [] (.c rfl (.rfl _) rfl (.c rfl (.rfl _) rfl (.c rfl (.rfl _) rfl (.c rfl (.rfl _) rfl (.c rfl (.rfl _) rfl .n))))) (.c rfl (.rfl _) rfl rfl .n) rfl rfl rfl)
            · clear h
              rcases tf o174.1 with g194 | g194
              · refine W.pk ?_
                refine .v rfl rfl (OpL.move (.inl rfl) rfl) ?_
                refine .v rfl rfl (OpL.unV rfl rfl rfl) ?_
                refine .v rfl rfl (OpL.move (.inl rfl) rfl) ?_
                refine .v rfl (met rfl rfl rfl (notT g194)) (OpL.move (.inl rfl) rfl) ?_
                refine .call (.imm (.val (.int .i64 t192))) [(1000, some (.box [.imm (.val (.string (tx ((⟨o174.2.1, o174.2.2.1, o174.2.2.2⟩ : wire_Reader).s)))), .imm (.val (.int .i64 ((⟨o174.2.1, o174.2.2.1, o174.2.2.2⟩ : wire_Reader).at'))), .imm (.val (.int .i64 ((⟨o174.2.1, o174.2.2.1, o174.2.2.2⟩ : wire_Reader).e)))])), (1000, none)] 0 (wire_Reader_Err.ok ((if_pos (by simp only [g194, Bool.true_or, Bool.or_true, Bool.false_or, Bool.or_false, Bool.true_and, Bool.and_true, Bool.false_and, Bool.and_false, Bool.not_true, Bool.not_false, cond_true, cond_false])).symm.trans b193)) rfl (met rfl rfl rfl (notT g194)) rfl ca17 rfl rfl (cC (.ptr _ _ _ _ _ rfl (cC (.imm _) (cC (.imm _) (cC (.imm _) .nil)))) .nil) rfl rfl rfl rfl rfl ?_
                refine .v rfl (met rfl rfl rfl (notT g194)) (OpL.binI rfl rfl rfl rfl) ?_
                refine .v rfl rfl (O.pickF (notT g194) rfl rfl rfl) ?_
                refine .nil ?_
                exact toN (Gives.mkR [] (.c rfl (.rfl _) rfl (.c rfl (.rfl _) rfl (.c rfl (.rfl _) rfl (.c rfl (.rfl _) rfl (.c rfl (.rfl _) rfl (.c rfl (sbb (by simp only [g194, Bool.true_or, Bool.or_true, Bool.false_or, Bool.or_false, Bool.true_and, Bool.and_true, Bool.false_and, Bool.and_false, Bool.not_true, Bool.not_false, cond_true, cond_false])) rfl .n)))))) (.c rfl (.rfl _) rfl rfl .n) rfl rfl rfl)
              · refine W.pk ?_
                refine .v rfl rfl (OpL.move (.inl rfl) rfl) ?_
                refine .v rfl rfl (OpL.unV rfl rfl rfl) ?_
                refine .v rfl rfl (OpL.move (.inl rfl) rfl) ?_
                refine .x rfl (unmet rfl rfl rfl (notF g194)) ?_
                refine .x rfl (unmet rfl rfl rfl (notF g194)) ?_
                refine .x rfl (unmet rfl rfl rfl (notF g194)) ?_
                refine .v rfl rfl (O.pickT (notF g194) rfl rfl rfl) ?_
                refine .nil ?_
                exact toN (Gives.mkR [] (.c rfl (.rfl _) rfl (.c rfl (.rfl _) rfl (.c rfl (.rfl _) rfl (.c rfl (.rfl _) rfl (.c rfl (.rfl _) rfl (.c rfl (sbb (by simp only [g194, Bool.true_or, Bool.or_true, Bool.false_or, Bool.or_false, Bool.true_and, Bool.and_true, Bool.false_and, Bool.and_false, Bool.not_true, Bool.not_false, cond_true, cond_false])) rfl .n)))))) (.c rfl (.box (.cons (.rfl _) (.cons (sii (by simp only [g194, Bool.true_or, Bool.or_true, Bool.false_or, Bool.or_false, Bool.true_and, Bool.and_true, Bool.false_and, Bool.and_false, Bool.not_true, Bool.not_false, cond_true, cond_false])) (.cons (sii (by simp only [g194, Bool.true_or, Bool.or_true, Bool.false_or, Bool.or_false, Bool.true_and, Bool.and_true, Bool.false_and, Bool.and_false, Bool.not_true, Bool.not_false, cond_true, cond_false])) .nil)))) rfl rfl .n) rfl rfl rfl)
          · clear h
            have h := b175
            refine W.block ?_
            refine W.seq ?_
            refine W.pk ?_
            refine .v rfl rfl (OpL.binI rfl rfl rfl rfl) ?_
            refine .v rfl rfl (OpL.move (.inr rfl) rfl) ?_
            refine .nil ?_
            refine W.cond rfl (fun q176 => ?_) (fun q176 => ?_)
            · have h := ifT q176 h
              obtain ⟨t177, b178, h⟩ := bnd1 h
              refine W.dk [[], [0], [], [2], [0, 1, 2, 3], [0, 1, 2, 3, 4]] rfl (by kernel_rfl) ?_
              refine .v rfl rfl (OpL.move (.inl rfl) rfl) ?_
              refine .call (.imm (.val (.int .u64 t177.1))) [(1000, some (.box [.imm (.val (.string (tx t177.2.s))), .imm (.val (.int .i64 t177.2.at')), .imm (.val (.int .i64 t177.2.e))])), (1000, none)] 0 (wire_Reader_Uint.ok b178) rfl rfl rfl ca16 rfl rfl (cC (.ptr _ _ _ _ _ rfl (cC (.imm _) (cC (.imm _) (cC (.imm _) .nil)))) .nil) rfl rfl rfl rfl rfl ?_
              refine .v rfl rfl (O.fld fld28_1 rfl rfl rfl) ?_
              refine .v rfl rfl (O.ld ty25 rfl rfl rfl) ?_
              refine .v rfl rfl (OpL.binI rfl rfl rfl rfl) ?_
              refine .v rfl rfl (OpL.move (.inr rfl) rfl) ?_
              refine .nil ?_
              refine ⟨by kernel_rfl, by kernel_rfl, ?_⟩
              cases h
              exact toN (Gives.mkR [] (.c rfl (.rfl _) rfl (.c rfl (.rfl _) rfl (.c rfl (.rfl _) rfl (.c rfl (.rfl _) rfl (.c rfl (.rfl _) rfl (.c rfl (.rfl _) rfl .n)))))) (.c rfl (.rfl _) rfl rfl .n) rfl rfl rfl)
            · have h := ifF q176 h
              refine W.seq ?_
              refine W.pk ?_
              refine .v rfl rfl (OpL.binI rfl rfl rfl rfl) ?_
              refine .v rfl rfl (OpL.move (.inr rfl) rfl) ?_
              refine .nil ?_
              refine W.cond rfl (fun q179 => ?_) (fun q179 => ?_)
              · have h := ifT q179 h
                obtain ⟨t180, b181, h⟩ := bnd1 h
                refine W.dk [[], [0], [], [2], [0, 1, 2, 3], [0, 1, 2, 3, 4]] rfl (by kernel_rfl) ?_
                refine .v rfl rfl (OpL.move (.inl rfl) rfl) ?_
                refine .call (.imm (.val (.int .i64 t180.1))) [(1000, some (.box [.imm (.val (.string (tx t180.2.s))), .imm (.val (.int .i64 t180.2.at')), .imm (.val (.int .i64 t180.2.e))])), (1000, none)] 0 (wire_Reader_Int.ok b181) rfl rfl rfl ca21 rfl rfl (cC (.ptr _ _ _ _ _ rfl (cC (.imm _) (cC (.imm _) (cC (.imm _) .nil)))) .nil) rfl rfl rfl rfl rfl ?_
                refine .v rfl rfl (O.fld fld28_2 rfl rfl rfl) ?_
                refine .v rfl rfl (O.ld ty3 rfl rfl rfl) ?_
                refine .v rfl rfl (OpL.binI rfl rfl rfl rfl) ?_
                refine .v rfl rfl (OpL.move (.inr rfl) rfl) ?_
                refine .nil ?_
                refine ⟨by kernel_rfl, by kernel_rfl, ?_⟩
                cases h
                exact toN (Gives.mkR [] (.c rfl (.rfl _) rfl (.c rfl (.rfl _) rfl (.c rfl (.rfl _) rfl (.c rfl (.rfl _) rfl (.c rfl (.rfl _) rfl (.c rfl (.rfl _) rfl .n)))))) (.c rfl (.rfl _) rfl rfl .n) rfl rfl rfl)
              · have h := ifF q179 h
                refine W.seq ?_
                refine W.pk ?_
                refine .v rfl rfl (OpL.binI rfl rfl rfl rfl) ?_
                refine .v rfl rfl (OpL.move (.inr rfl) rfl) ?_
                refine .nil ?_
                refine W.cond rfl (fun q182 => ?_) (fun q182 => ?_)
                · have h := ifT q182 h
                  obtain ⟨t183, b184, h⟩ := bnd1 h
                  refine W.dk [[], [0], [], [2], [0, 1, 2, 3], [0, 1, 2, 3, 4]] rfl (by kernel_rfl) ?_
                  refine .v rfl rfl (OpL.move (.inl rfl) rfl) ?_
                  refine .call (.imm (.val (.string (tx t183.1)))) [(1000, some (.box [.imm (.val (.string (tx t183.2.s))), .imm (.val (.int .i64 t183.2.at')), .imm (.val (.int .i64 t183.2.e))])), (1000, none)] 0 (wire_Reader_Text.ok b184) rfl rfl rfl ca22 rfl rfl (cC (.ptr _ _ _ _ _ rfl (cC (.imm _) (cC (.imm _) (cC (.imm _) .nil)))) (cC (.imm _) .nil)) rfl rfl rfl rfl rfl ?_
                  refine .v rfl rfl (O.fld fld28_3 rfl rfl rfl) ?_
                  refine .v rfl rfl (O.ld ty9 rfl rfl rfl) ?_
                  refine .v rfl rfl (O.cmpS rfl rfl rfl rfl) ?_
                  refine .v rfl rfl (OpL.move (.inr rfl) rfl) ?_
                  refine .nil ?_
                  refine ⟨by kernel_rfl, by kernel_rfl, ?_⟩
                  cases h
                  exact toN (Gives.mkR [] (.c rfl (.rfl _) rfl (.c rfl (.rfl _) rfl (.c rfl (.rfl _) rfl (.c rfl (.rfl _) rfl (.c rfl (.rfl _) rfl (.c rfl (.rfl _) rfl .n)))))) (.c rfl (.rfl _) rfl rfl .n) rfl rfl rfl)
                · have h := ifF q182 h
                  refine W.seq ?_
                  refine W.pk ?_
                  refine .v rfl rfl (OpL.binI rfl rfl rfl rfl) ?_
                  refine .v rfl rfl (OpL.move (.inr rfl) rfl) ?_
                  refine .nil ?_
                  refine W.cond rfl (fun q185 => ?_) (fun q185 => ?_)
                  · have h := ifT q185 h
                    obtain ⟨t186, b187, h⟩ := bnd1 h
                    refine W.dk [[], [0], [], [2], [0, 1, 2, 3], [0, 1, 2, 3, 4]] rfl (by kernel_rfl) ?_
                    refine .v rfl rfl (OpL.move (.inl rfl) rfl) ?_
                    refine .call (.imm (.val (.bool t186.1))) [(1000, some (.box [.imm (.val (.string (tx t186.2.s))), .imm (.val (.int .i64 t186.2.at')), .imm (.val (.int .i64 t186.2.e))])), (1000, none)] 0 (wire_Reader_Bool.ok b187) rfl rfl rfl ca23 rfl rfl (cC (.ptr _ _ _ _ _ rfl (cC (.imm _) (cC (.imm _) (cC (.imm _) .nil)))) .nil) rfl rfl rfl rfl rfl ?_
                    refine .v rfl rfl (O.fld fld28_4 rfl rfl rfl) ?_
                    refine .v rfl rfl (O.ld ty4 rfl rfl rfl) ?_
                    refine .v rfl rfl (OpL.eqB rfl u4 rfl rfl) ?_
                    refine .v rfl rfl (OpL.move (.inr rfl) rfl) ?_
                    refine .nil ?_
                    refine ⟨by kernel_rfl, by kernel_rfl, ?_⟩
                    cases h
                    exact toN (Gives.mkR [] (.c rfl (.rfl _) rfl (.c rfl (.rfl _) rfl (.c rfl (.rfl _) rfl (.c rfl (.rfl _) rfl (.c rfl (.rfl _) rfl (.c rfl (.rfl _) rfl .n)))))) (.c rfl (.rfl _) rfl rfl .n) rfl rfl rfl)
                  · have h := ifF q185 h
                    obtain ⟨t188, b189, h⟩ := bnd1 h
                    obtain ⟨t190, b191, h⟩ := bnd1 h
                    refine W.dk [[], [0], [], [2], [0, 1, 2, 3], [0, 1, 2, 3, 4]] rfl (by kernel_rfl) ?_
                    refine .v rfl rfl (OpL.move (.inl rfl) rfl) ?_
                    refine .call (.own 1002) [(1002, some (.rows 3 1 (List.map (encI .i64) t188.1) false)), (1000, some (.box [.imm (.val (.string (tx t188.2.s))), .imm (.val (.int .i64 t188.2.at')), .imm (.val (.int .i64 t188.2.e))])), (1000, none)] 1 (wire_Reader_Ints.ok b189) rfl rfl rfl ca25 rfl rfl (cC (.ptr _ _ _ _ _ rfl (cC (.imm _) (cC (.imm _) (cC (.imm _) .nil)))) (cC (.imm _) .nil)) rfl rfl rfl rfl rfl ?_
                    refine .v rfl rfl (O.fld fld28_5 rfl rfl rfl) ?_
                    refine .v rfl rfl (O.ld ty26 rfl rfl rfl) ?_
                    refine .call (.imm (.val (.bool t190))) [(1002, some (.rows 3 1 (List.map (encI .i64) t188.1) false)), (1002, none)] 0 (lombardref09_Same.ok b191) rfl rfl rfl ca24 rfl rfl (cC (.own _ _ _ _ rfl) (cC (.imm _) .nil)) rfl rfl rfl rfl rfl ?_
                    refine .v rfl rfl (OpL.move (.inr rfl) rfl) ?_
                    refine .nil ?_
                    refine ⟨by kernel_rfl, by kernel_rfl, ?_⟩
                    cases h
                    exact toN (Gives.mkR [] (.c rfl (.rfl _) rfl (.c rfl (.rfl _) rfl (.c rfl (.rfl _) rfl (.c rfl (.rfl _) rfl (.c rfl (.rfl _) rfl (.c rfl (.rfl _) rfl .n)))))) (.c rfl (.rfl _) rfl rfl .n) rfl rfl rfl)
        · have h := ifF q152 h
          refine W.exit ?_
          cases h
          refine rdX fun e_ => ?_
          subst e_
          repeat with_reducible refine thru ?_
          refine hit ?_
          exact fkN (Gives.mkR [] (.c rfl (.rfl _) rfl (.c rfl (.rfl _) rfl (.c rfl (.rfl _) rfl .n))) (.c rfl (.rfl _) rfl rfl .n) rfl rfl rfl)
      · intro w148 e_
        subst e_
        clear h
        have h := z151
        dsimp only at h
        refine W.seq ?_
        obtain ⟨t197, b198, h⟩ := bnd1 h
        obtain ⟨t199, b200, h⟩ := bnd1 h
        obtain ⟨t201, b202, h⟩ := bnd1 h
        obtain ⟨t203, b204, h⟩ := bnd1 h
        refine W.fork (mkSt [(4, some (.imm (.val (.bool ((((t197 == (List.length t7 : Int)) && (t199.1 == (x1 == []))) && ((x1 == []) || (t201 == 16))) && t203)))))] [] 1001) ?_ ?_
        · refine W.ret ?_
          cases h
          exact leaves (.inr rfl) rfl (.imm _) (cN (cN .nil)) rfl rfl
        · clear h
          rcases tf (t197 == (List.length t7 : Int)) with g205 | g205
          · rcases tf (t199.1 == (x1 == [])) with g206 | g206
            · rcases tf (x1 == []) with g207 | g207
              · refine W.pk ?_
                refine .v rfl rfl (OpL.move (.inl rfl) rfl) ?_
                refine .call (.imm (.val (.int .i64 t197))) [(1000, some (.box [.imm (.val (.string (tx ((⟨w148.1, w148.2.1, w148.2.2⟩ : wire_Reader).s)))), .imm (.val (.int .i64 ((⟨w148.1, w148.2.1, w148.2.2⟩ : wire_Reader).at'))), .imm (.val (.int .i64 ((⟨w148.1, w148.2.1, w148.2.2⟩ : wire_Reader).e)))])), (1000, none)] 0 (wire_Reader_At.ok b198) rfl rfl rfl ca18 rfl rfl (cC (.ptr _ _ _ _ _ rfl (cC (.imm _) (cC (.imm _) (cC (.imm _) .nil)))) .nil) rfl rfl rfl rfl rfl ?_
                refine .v rfl rfl (OpL.move (.inl rfl) rfl) ?_
                refine .v rfl rfl (O.lenS u9 rfl rfl) ?_
                refine .v rfl rfl (OpL.binI rfl rfl rfl rfl) ?_
                refine .v rfl rfl (OpL.move (.inl rfl) rfl) ?_
                refine .v rfl (met rfl rfl rfl g205) (OpL.move (.inl rfl) rfl) ?_
                refine .call (.imm (.val (.bool t199.1))) [(1000, some (.box [.imm (.val (.string (tx t199.2.s))), .imm (.val (.int .i64 t199.2.at')), .imm (.val (.int .i64 t199.2.e))])), (1000, none)] 0 (wire_Reader_End.ok ((if_pos (by first | (simp only [g205, g206, g207, Bool.true_or, Bool.or_true, Bool.false_or, Bool.or_false, Bool.true_and, Bool.and_true, Bool.false_and, Bool.and_false, Bool.not_true, Bool.not_false, cond_true, cond_false]; done) | (repeat (first | rw [g205] | rw [g206] | rw [g207])) <;> simp only [Bool.true_or, Bool.or_true, Bool.false_or, Bool.or_false, Bool.true_and, Bool.and_true, Bool.false_and, Bool.and_false, Bool.not_true, Bool.not_false, cond_true, cond_false])).symm.trans b200)) rfl (met rfl rfl rfl g205) rfl ca26 rfl rfl (cC (.ptr _ _ _ _ _ rfl (cC (.imm _) (cC (.imm _) (cC (.imm _) .nil)))) .nil) rfl rfl rfl rfl rfl ?_
                refine .v rfl (met rfl rfl rfl g205) (OpL.move (.inl rfl) rfl) ?_
                refine .v rfl (met rfl rfl rfl g205) (O.cmpS rfl rfl rfl rfl) ?_
                refine .v rfl (met rfl rfl rfl g205) (OpL.eqB rfl u4 rfl rfl) ?_
                refine .v rfl rfl (O.pickT g205 rfl rfl rfl) ?_
                refine .v rfl rfl (OpL.move (.inl rfl) rfl) ?_
                refine .v rfl (met rfl rfl rfl g206) (OpL.move (.inl rfl) rfl) ?_
                refine .v rfl (met rfl rfl rfl g206) (O.cmpS rfl rfl rfl rfl) ?_
                refine .v rfl (met rfl rfl rfl g206) (OpL.move (.inl rfl) rfl) ?_
                refine .x rfl (unmet rfl rfl rfl g207) ?_
                refine .x rfl (unmet rfl rfl rfl g207) ?_
                refine .x rfl (unmet rfl rfl rfl g207) ?_
                refine .v rfl (met rfl rfl rfl g206) (O.pickT g207 rfl rfl rfl) ?_
                refine .v rfl rfl (O.pickT g206 rfl rfl rfl) ?_
                refine .v rfl rfl (OpL.move (.inl rfl) rfl) ?_
                refine .call (.imm (.val (.bool t203))) [] 0 (lombardlaw09_awake.ok ((if_pos (by first | (simp only [g205, g206, g207, Bool.true_or, Bool.or_true, Bool.false_or, Bool.or_false, Bool.true_and, Bool.and_true, Bool.false_and, Bool.and_false, Bool.not_true, Bool.not_false, cond_true, cond_false]; done) | (repeat (first | rw [g205] | rw [g206] | rw [g207])) <;> simp only [Bool.true_or, Bool.or_true, Bool.false_or, Bool.or_false, Bool.true_and, Bool.and_true, Bool.false_and, Bool.and_false, Bool.not_true, Bool.not_false, cond_true, cond_false])).symm.trans b204)) rfl (met rfl rfl rfl rfl) rfl ca8 rfl rfl .nil rfl rfl rfl rfl rfl ?_
                refine .v rfl rfl (O.pickT rfl rfl rfl rfl) ?_
                refine .v rfl rfl (OpL.move (.inr rfl) rfl) ?_
                refine .nil ?_
                exact toN (Gives.mkR [] (.c rfl (sbb (by first | (simp only [g205, g206, g207, Bool.true_or, Bool.or_true, Bool.false_or, Bool.or_false, Bool.true_and, Bool.and_true, Bool.false_and, Bool.and_false, Bool.not_true, Bool.not_false, cond_true, cond_false]; done) | (repeat (first | rw [g205] | rw [g206] | rw [g207])) <;> simp only [Bool.true_or, Bool.or_true, Bool.false_or, Bool.or_false, Bool.true_and, Bool.and_true, Bool.false_and, Bool.and_false, Bool.not_true, Bool.not_false, cond_true, cond_false])) rfl .n) .n rfl rfl rfl)
              · rcases tf (t201 == 16) with g208 | g208
                · refine W.pk ?_
                  refine .v rfl rfl (OpL.move (.inl rfl) rfl) ?_
                  refine .call (.imm (.val (.int .i64 t197))) [(1000, some (.box [.imm (.val (.string (tx ((⟨w148.1, w148.2.1, w148.2.2⟩ : wire_Reader).s)))), .imm (.val (.int .i64 ((⟨w148.1, w148.2.1, w148.2.2⟩ : wire_Reader).at'))), .imm (.val (.int .i64 ((⟨w148.1, w148.2.1, w148.2.2⟩ : wire_Reader).e)))])), (1000, none)] 0 (wire_Reader_At.ok b198) rfl rfl rfl ca18 rfl rfl (cC (.ptr _ _ _ _ _ rfl (cC (.imm _) (cC (.imm _) (cC (.imm _) .nil)))) .nil) rfl rfl rfl rfl rfl ?_
                  refine .v rfl rfl (OpL.move (.inl rfl) rfl) ?_
                  refine .v rfl rfl (O.lenS u9 rfl rfl) ?_
                  refine .v rfl rfl (OpL.binI rfl rfl rfl rfl) ?_
                  refine .v rfl rfl (OpL.move (.inl rfl) rfl) ?_
                  refine .v rfl (met rfl rfl rfl g205) (OpL.move (.inl rfl) rfl) ?_
                  refine .call (.imm (.val (.bool t199.1))) [(1000, some (.box [.imm (.val (.string (tx t199.2.s))), .imm (.val (.int .i64 t199.2.at')), .imm (.val (.int .i64 t199.2.e))])), (1000, none)] 0 (wire_Reader_End.ok ((if_pos (by first | (simp only [g205, g206, g207, g208, Bool.true_or, Bool.or_true, Bool.false_or, Bool.or_false, Bool.true_and, Bool.and_true, Bool.false_and, Bool.and_false, Bool.not_true, Bool.not_false, cond_true, cond_false]; done) | (repeat (first | rw [g205] | rw [g206] | rw [g207] | rw [g208])) <;> simp only [Bool.true_or, Bool.or_true, Bool.false_or, Bool.or_false, Bool.true_and, Bool.and_true, Bool.false_and, Bool.and_false, Bool.not_true, Bool.not_false, cond_true, cond_false])).symm.trans b200)) rfl (met rfl rfl rfl g205) rfl ca26 rfl rfl (cC (.ptr _ _ _ _ _ rfl (cC (.imm _) (cC (.imm _) (cC (.imm _) .nil)))) .nil) rfl rfl rfl rfl rfl ?_
                  refine .v rfl (met rfl rfl rfl g205) (OpL.move (.inl rfl) rfl) ?_
                  refine .v rfl (met rfl rfl rfl g205) (O.cmpS rfl rfl rfl rfl) ?_
                  refine .v rfl (met rfl rfl rfl g205) (OpL.eqB rfl u4 rfl rfl) ?_
                  refine .v rfl rfl (O.pickT g205 rfl rfl rfl) ?_
                  refine .v rfl rfl (OpL.move (.inl rfl) rfl) ?_
                  refine .v rfl (met rfl rfl rfl g206) (OpL.move (.inl rfl) rfl) ?_
                  refine .v rfl (met rfl rfl rfl g206) (O.cmpS rfl rfl rfl rfl) ?_
                  refine .v rfl (met rfl rfl rfl g206) (OpL.move (.inl rfl) rfl) ?_
                  refine .v rfl (met rfl rfl rfl g207) (OpL.move (.inl rfl) rfl) ?_
                  refine .call (.imm (.val (.int .i64 t201))) [(1000, some (.box [.imm (.val (.string (tx t199.2.s))), .imm (.val (.int .i64 t199.2.at')), .imm (.val (.int .i64 t199.2.e))])), (1000, none)] 0 (wire_Reader_Err.ok ((if_pos ⟨(by first | (simp only [g205, g206, g207, g208, Bool.true_or, Bool.or_true, Bool.false_or, Bool.or_false, Bool.true_and, Bool.and_true, Bool.false_and, Bool.and_false, Bool.not_true, Bool.not_false, cond_true, cond_false]; done) | (repeat (first | rw [g205] | rw [g206] | rw [g207] | rw [g208])) <;> simp only [Bool.true_or, Bool.or_true, Bool.false_or, Bool.or_false, Bool.true_and, Bool.and_true, Bool.false_and, Bool.and_false, Bool.not_true, Bool.not_false, cond_true, cond_false]), (by first | (simp only [g205, g206, g207, g208, Bool.true_or, Bool.or_true, Bool.false_or, Bool.or_false, Bool.true_and, Bool.and_true, Bool.false_and, Bool.and_false, Bool.not_true, Bool.not_false, cond_true, cond_false]; done) | (repeat (first | rw [g205] | rw [g206] | rw [g207] | rw [g208])) <;> simp only [Bool.true_or, Bool.or_true, Bool.false_or, Bool.or_false, Bool.true_and, Bool.and_true, Bool.false_and, Bool.and_false, Bool.not_true, Bool.not_false, cond_true, cond_false])⟩).symm.trans b202)) rfl (met rfl rfl rfl g207) rfl ca17 rfl rfl (cC (.ptr _ _ _ _ _ rfl (cC (.imm _) (cC (.imm _) (cC (.imm _) .nil)))) .nil) rfl rfl rfl rfl rfl ?_
                  refine .v rfl (met rfl rfl rfl g207) (OpL.binI rfl rfl rfl rfl) ?_
                  refine .v rfl (met rfl rfl rfl g206) (O.pickF g207 rfl rfl rfl) ?_
                  refine .v rfl rfl (O.pickT g206 rfl rfl rfl) ?_
                  refine .v rfl rfl (OpL.move (.inl rfl) rfl) ?_
                  refine .call (.imm (.val (.bool t203))) [] 0 (lombardlaw09_awake.ok ((if_pos (by first | (simp only [g205, g206, g207, g208, Bool.true_or, Bool.or_true, Bool.false_or, Bool.or_false, Bool.true_and, Bool.and_true, Bool.false_and, Bool.and_false, Bool.not_true, Bool.not_false, cond_true, cond_false]; done) | (repeat (first | rw [g205] | rw [g206] | rw [g207] | rw [g208])) <;> simp only [Bool.true_or, Bool.or_true, Bool.false_or, Bool.or_false, Bool.true_and, Bool.and_true, Bool.false_and, Bool.and_false, Bool.not_true, Bool.not_false, cond_true, cond_false])).symm.trans b204)) rfl (met rfl rfl rfl g208) rfl ca8 rfl rfl .nil rfl rfl rfl rfl rfl ?_
                  refine .v rfl rfl (O.pickT g208 rfl rfl rfl) ?_
                  refine .v rfl rfl (OpL.move (.inr rfl) rfl) ?_
                  refine .nil ?_
                  exact toN (Gives.mkR [] (.c rfl (sbb (by first | (simp only [g205, g206, g207, g208, Bool.true_or, Bool.or_true, Bool.false_or, Bool.or_false, Bool.true_and, Bool.and_true, Bool.false_and, Bool.and_false, Bool.not_true, Bool.not_false, cond_true, cond_false]; done) | (repeat (first | rw [g205] | rw [g206] | rw [g207] | rw [g208])) <;> simp only [Bool.true_or, Bool.or_true, Bool.false_or, Bool.or_false, Bool.true_and, Bool.and_true, Bool.false_and, Bool.and_false, Bool.not_true, Bool.not_false, cond_true, cond_false])) rfl .n) .n rfl rfl rfl)
                · refine W.pk ?_
                  refine .v rfl rfl (OpL.move (.inl rfl) rfl) ?_
                  refine .call (.imm (.val (.int .i64 t197))) [(1000, some (.box [.imm (.val (.string (tx ((⟨w148.1, w148.2.1, w148.2.2⟩ : wire_Reader).s)))), .imm (.val (.int .i64 ((⟨w148.1, w148.2.1, w148.2.2⟩ : wire_Reader).at'))), .imm (.val (.int .i64 ((⟨w148.1, w148.2.1, w148.2.2⟩ : wire_Reader).e)))])), (1000, none)] 0 (wire_Reader_At.ok b198) rfl rfl rfl ca18 rfl rfl (cC (.ptr _ _ _ _ _ rfl (cC (.imm _) (cC (.imm _) (cC (.imm _) .nil)))) .nil) rfl rfl rfl rfl rfl ?_
                  refine .v rfl rfl (OpL.move (.inl rfl) rfl) ?_
                  refine .v rfl rfl (O.lenS u9 rfl rfl) ?_
                  refine .v rfl rfl (OpL.binI rfl rfl rfl rfl) ?_
                  refine .v rfl rfl (OpL.move (.inl rfl) rfl) ?_
                  refine .v rfl (met rfl rfl rfl g205) (OpL.move (.inl rfl) rfl) ?_
                  refine .call (.imm (.val (.bool t199.1))) [(1000, some (.box [.imm (.val (.string (tx t199.2.s))), .imm (.val (.int .i64 t199.2.at')), .imm (.val (.int .i64 t199.2.e))])), (1000, none)] 0 (wire_Reader_End.ok ((if_pos (by first | (simp only [g205, g206, g207, g208, Bool.true_or, Bool.or_true, Bool.false_or, Bool.or_false, Bool.true_and, Bool.and_true, Bool.false_and, Bool.and_false, Bool.not_true, Bool.not_false, cond_true, cond_false]; done) | (repeat (first | rw [g205] | rw [g206] | rw [g207] | rw [g208])) <;> simp only [Bool.true_or, Bool.or_true, Bool.false_or, Bool.or_false, Bool.true_and, Bool.and_true, Bool.false_and, Bool.and_false, Bool.not_true, Bool.not_false, cond_true, cond_false])).symm.trans b200)) rfl (met rfl rfl rfl g205) rfl ca26 rfl rfl (cC (.ptr _ _ _ _ _ rfl (cC (.imm _) (cC (.imm _) (cC (.imm _) .nil)))) .nil) rfl rfl rfl rfl rfl ?_
                  refine .v rfl (met rfl rfl rfl g205) (OpL.move (.inl rfl) rfl) ?_
                  refine .v rfl (met rfl rfl rfl g205) (O.cmpS rfl rfl rfl rfl) ?_
                  refine .v rfl (met rfl rfl rfl g205) (OpL.eqB rfl u4 rfl rfl) ?_
                  refine .v rfl rfl (O.pickT g205 rfl rfl rfl) ?_
                  refine .v rfl rfl (OpL.move (.inl rfl) rfl) ?_
                  refine .v rfl (met rfl rfl rfl g206) (OpL.move (.inl rfl) rfl) ?_
                  refine .v rfl (met rfl rfl rfl g206) (O.cmpS rfl rfl rfl rfl) ?_
                  refine .v rfl (met rfl rfl rfl g206) (OpL.move (.inl rfl) rfl) ?_
                  refine .v rfl (met rfl rfl rfl g207) (OpL.move (.inl rfl) rfl) ?_
                  refine .call (.imm (.val (.int .i64 t201))) [(1000, some (.box [.imm (.val (.string (tx t199.2.s))), .imm (.val (.int .i64 t199.2.at')), .imm (.val (.int .i64 t199.2.e))])), (1000, none)] 0 (wire_Reader_Err.ok ((if_pos ⟨(by first | (simp only [g205, g206, g207, g208, Bool.true_or, Bool.or_true, Bool.false_or, Bool.or_false, Bool.true_and, Bool.and_true, Bool.false_and, Bool.and_false, Bool.not_true, Bool.not_false, cond_true, cond_false]; done) | (repeat (first | rw [g205] | rw [g206] | rw [g207] | rw [g208])) <;> simp only [Bool.true_or, Bool.or_true, Bool.false_or, Bool.or_false, Bool.true_and, Bool.and_true, Bool.false_and, Bool.and_false, Bool.not_true, Bool.not_false, cond_true, cond_false]), (by first | (simp only [g205, g206, g207, g208, Bool.true_or, Bool.or_true, Bool.false_or, Bool.or_false, Bool.true_and, Bool.and_true, Bool.false_and, Bool.and_false, Bool.not_true, Bool.not_false, cond_true, cond_false]; done) | (repeat (first | rw [g205] | rw [g206] | rw [g207] | rw [g208])) <;> simp only [Bool.true_or, Bool.or_true, Bool.false_or, Bool.or_false, Bool.true_and, Bool.and_true, Bool.false_and, Bool.and_false, Bool.not_true, Bool.not_false, cond_true, cond_false])⟩).symm.trans b202)) rfl (met rfl rfl rfl g207) rfl ca17 rfl rfl (cC (.ptr _ _ _ _ _ rfl (cC (.imm _) (cC (.imm _) (cC (.imm _) .nil)))) .nil) rfl rfl rfl rfl rfl ?_
                  refine .v rfl (met rfl rfl rfl g207) (OpL.binI rfl rfl rfl rfl) ?_
                  refine .v rfl (met rfl rfl rfl g206) (O.pickF g207 rfl rfl rfl) ?_
                  refine .v rfl rfl (O.pickT g206 rfl rfl rfl) ?_
                  refine .v rfl rfl (OpL.move (.inl rfl) rfl) ?_
                  refine .x rfl (unmet rfl rfl rfl g208) ?_
                  refine .v rfl rfl (O.pickF g208 rfl rfl rfl) ?_
                  refine .v rfl rfl (OpL.move (.inr rfl) rfl) ?_
                  refine .nil ?_
                  exact toN (Gives.mkR [] (.c rfl (sbb (by first | (simp only [g205, g206, g207, g208, Bool.true_or, Bool.or_true, Bool.false_or, Bool.or_false, Bool.true_and, Bool.and_true, Bool.false_and, Bool.and_false, Bool.not_true, Bool.not_false, cond_true, cond_false]; done) | (repeat (first | rw [g205] | rw [g206] | rw [g207] | rw [g208])) <;> simp only [Bool.true_or, Bool.or_true, Bool.false_or, Bool.or_false, Bool.true_and, Bool.and_true, Bool.false_and, Bool.and_false, Bool.not_true, Bool.not_false, cond_true, cond_false])) rfl .n) .n rfl rfl rfl)
            · refine W.pk ?_
              refine .v rfl rfl (OpL.move (.inl rfl) rfl) ?_
              refine .call (.imm (.val (.int .i64 t197))) [(1000, some (.box [.imm (.val (.string (tx ((⟨w148.1, w148.2.1, w148.2.2⟩ : wire_Reader).s)))), .imm (.val (.int .i64 ((⟨w148.1, w148.2.1, w148.2.2⟩ : wire_Reader).at'))), .imm (.val (.int .i64 ((⟨w148.1, w148.2.1, w148.2.2⟩ : wire_Reader).e)))])), (1000, none)] 0 (wire_Reader_At.ok b198) rfl rfl rfl ca18 rfl rfl (cC (.ptr _ _ _ _ _ rfl (cC (.imm _) (cC (.imm _) (cC (.imm _) .nil)))) .nil) rfl rfl rfl rfl rfl ?_
              refine .v rfl rfl (OpL.move (.inl rfl) rfl) ?_
              refine .v rfl rfl (O.lenS u9 rfl rfl) ?_
              refine .v rfl rfl (OpL.binI rfl rfl rfl rfl) ?_
              refine .v rfl rfl (OpL.move (.inl rfl) rfl) ?_
              refine .v rfl (met rfl rfl rfl g205) (OpL.move (.inl rfl) rfl) ?_
              refine .call (.imm (.val (.bool t199.1))) [(1000, some (.box [.imm (.val (.string (tx t199.2.s))), .imm (.val (.int .i64 t199.2.at')), .imm (.val (.int .i64 t199.2.e))])), (1000, none)] 0 (wire_Reader_End.ok ((if_pos (by first | (simp only [g205, g206, Bool.true_or, Bool.or_true, Bool.false_or, Bool.or_false, Bool.true_and, Bool.and_true, Bool.false_and, Bool.and_false, Bool.not_true, Bool.not_false, cond_true, cond_false]; done) | (repeat (first | rw [g205] | rw [g206])) <;> simp only [Bool.true_or, Bool.or_true, Bool.false_or, Bool.or_false, Bool.true_and, Bool.and_true, Bool.false_and, Bool.and_false, Bool.not_true, Bool.not_false, cond_true, cond_false])).symm.trans b200)) rfl (met rfl rfl rfl g205) rfl ca26 rfl rfl (cC (.ptr _ _ _ _ _ rfl (cC (.imm _) (cC (.imm _) (cC (.imm _) .nil)))) .nil) rfl rfl rfl rfl rfl ?_
              refine .v rfl (met rfl rfl rfl g205) (OpL.move (.inl rfl) rfl) ?_
              refine .v rfl (met rfl rfl rfl g205) (O.cmpS rfl rfl rfl rfl) ?_
              refine .v rfl (met rfl rfl rfl g205) (OpL.eqB rfl u4 rfl rfl) ?_
              refine .v rfl rfl (O.pickT g205 rfl rfl rfl) ?_
              refine .v rfl rfl (OpL.move (.inl rfl) rfl) ?_
              refine .x rfl (unmet rfl rfl rfl g206) ?_
              refine .x rfl (unmet rfl rfl rfl g206) ?_
              refine .x rfl (unmet rfl rfl rfl g206) ?_
              refine .x rfl (unmetU rfl rfl rfl) ?_
              refine .x rfl (unmetU rfl rfl rfl) ?_
              refine .x rfl (unmetU rfl rfl rfl) ?_
              refine .x rfl (unmet rfl rfl rfl g206) ?_
              refine .v rfl rfl (O.pickF g206 rfl rfl rfl) ?_
              refine .v rfl rfl (OpL.move (.inl rfl) rfl) ?_
              refine .x rfl (unmet rfl rfl rfl rfl) ?_
              refine .v rfl rfl (O.pickF rfl rfl rfl rfl) ?_
              refine .v rfl rfl (OpL.move (.inr rfl) rfl) ?_
              refine .nil ?_
              exact toN (Gives.mkR [] (.c rfl (sbb (by first | (simp only [g205, g206, Bool.true_or, Bool.or_true, Bool.false_or, Bool.or_false, Bool.true_and, Bool.and_true, Bool.false_and, Bool.and_false, Bool.not_true, Bool.not_false, cond_true, cond_false]; done) | (repeat (first | rw [g205] | rw [g206])) <;> simp only [Bool.true_or, Bool.or_true, Bool.false_or, Bool.or_false, Bool.true_and, Bool.and_true, Bool.false_and, Bool.and_false, Bool.not_true, Bool.not_false, cond_true, cond_false])) rfl .n) .n rfl rfl rfl)
          · refine W.pk ?_
            refine .v rfl rfl (OpL.move (.inl rfl) rfl) ?_
            refine .call (.imm (.val (.int .i64 t197))) [(1000, some (.box [.imm (.val (.string (tx ((⟨w148.1, w148.2.1, w148.2.2⟩ : wire_Reader).s)))), .imm (.val (.int .i64 ((⟨w148.1, w148.2.1, w148.2.2⟩ : wire_Reader).at'))), .imm (.val (.int .i64 ((⟨w148.1, w148.2.1, w148.2.2⟩ : wire_Reader).e)))])), (1000, none)] 0 (wire_Reader_At.ok b198) rfl rfl rfl ca18 rfl rfl (cC (.ptr _ _ _ _ _ rfl (cC (.imm _) (cC (.imm _) (cC (.imm _) .nil)))) .nil) rfl rfl rfl rfl rfl ?_
            refine .v rfl rfl (OpL.move (.inl rfl) rfl) ?_
            refine .v rfl rfl (O.lenS u9 rfl rfl) ?_
            refine .v rfl rfl (OpL.binI rfl rfl rfl rfl) ?_
            refine .v rfl rfl (OpL.move (.inl rfl) rfl) ?_
            refine .x rfl (unmet rfl rfl rfl g205) ?_
            refine .x rfl (unmet rfl rfl rfl g205) ?_
            refine .x rfl (unmet rfl rfl rfl g205) ?_
            refine .x rfl (unmet rfl rfl rfl g205) ?_
            refine .x rfl (unmet rfl rfl rfl g205) ?_
            refine .v rfl rfl (O.pickF g205 rfl rfl rfl) ?_
            refine .v rfl rfl (OpL.move (.inl rfl) rfl) ?_
            refine .x rfl (unmet rfl rfl rfl rfl) ?_
            refine .x rfl (unmet rfl rfl rfl rfl) ?_
            refine .x rfl (unmet rfl rfl rfl rfl) ?_
            refine .x rfl (unmetU rfl rfl rfl) ?_
            refine .x rfl (unmetU rfl rfl rfl) ?_
            refine .x rfl (unmetU rfl rfl rfl) ?_
            refine .x rfl (unmet rfl rfl rfl rfl) ?_
            refine .v rfl rfl (O.pickF rfl rfl rfl rfl) ?_
            refine .v rfl rfl (OpL.move (.inl rfl) rfl) ?_
            refine .x rfl (unmet rfl rfl rfl rfl) ?_
            refine .v rfl rfl (O.pickF rfl rfl rfl rfl) ?_
            refine .v rfl rfl (OpL.move (.inr rfl) rfl) ?_
            refine .nil ?_
            exact toN (Gives.mkR [] (.c rfl (sbb (by simp only [g205, Bool.true_or, Bool.or_true, Bool.false_or, Bool.or_false, Bool.true_and, Bool.and_true, Bool.false_and, Bool.and_false, Bool.not_true, Bool.not_false, cond_true, cond_false])) rfl .n) .n rfl rfl rfl)
  · clear h
    rcases tf t1 with g3 | g3
    · refine W.pk ?_
      refine .v rfl rfl (OpL.move (.inl rfl) rfl) ?_
      refine .call (.imm (.val (.bool t1))) [] 0 (lombardlaw09_small.ok b2) rfl rfl rfl ca7 rfl rfl (cC (.imm _) .nil) rfl rfl rfl rfl rfl ?_
      refine .v rfl rfl (OpL.unV rfl rfl rfl) ?_
      refine .v rfl rfl (OpL.move (.inl rfl) rfl) ?_
      refine .v rfl (met rfl rfl rfl (notT g3)) (OpL.move (.inl rfl) rfl) ?_
      refine .v rfl (met rfl rfl rfl (notT g3)) (O.lenS u9 rfl rfl) ?_
      refine .v rfl (met rfl rfl rfl (notT g3)) (OpL.binI rfl rfl rfl rfl) ?_
      refine .v rfl rfl (O.pickF (notT g3) rfl rfl rfl) ?_
      refine .nil ?_
      exact toN (Gives.mkR [] (.c rfl (.rfl _) rfl (.c rfl (.rfl _) rfl (.c rfl (sbb (by simp only [g3, Bool.true_or, Bool.or_true, Bool.false_or, Bool.or_false, Bool.true_and, Bool.and_true, Bool.false_and, Bool.and_false, Bool.not_true, Bool.not_false, cond_true, cond_false])) rfl .n))) .n rfl rfl rfl)
    · refine W.pk ?_
      refine .v rfl rfl (OpL.move (.inl rfl) rfl) ?_
      refine .call (.imm (.val (.bool t1))) [] 0 (lombardlaw09_small.ok b2) rfl rfl rfl ca7 rfl rfl (cC (.imm _) .nil) rfl rfl rfl rfl rfl ?_
      refine .v rfl rfl (OpL.unV rfl rfl rfl) ?_
      refine .v rfl rfl (OpL.move (.inl rfl) rfl) ?_
      refine .x rfl (unmet rfl rfl rfl (notF g3)) ?_
      refine .x rfl (unmet rfl rfl rfl (notF g3)) ?_
      refine .x rfl (unmet rfl rfl rfl (notF g3)) ?_
      refine .v rfl rfl (O.pickT (notF g3) rfl rfl rfl) ?_
      refine .nil ?_
      exact toN (Gives.mkR [] (.c rfl (.rfl _) rfl (.c rfl (.rfl _) rfl (.c rfl (sbb (by simp only [g3, Bool.true_or, Bool.or_true, Bool.false_or, Bool.or_false, Bool.true_and, Bool.and_true, Bool.false_and, Bool.and_false, Bool.not_true, Bool.not_false, cond_true, cond_false])) rfl .n))) .n rfl rfl rfl)

noncomputable def lombardref09_Reader_fail.f (x0 : lombardref09_Reader) (x1 : Int) : Option (lombardref09_Reader) :=
  if (x0.E == 0) = true then
    some (⟨x0.S, x0.At, x1⟩ : lombardref09_Reader)
  else
    some x0
set_option maxRecDepth 100000 in
set_option maxHeartbeats 4000000 in
theorem lombardref09_Reader_fail.ok {x0 : lombardref09_Reader} {x1 : Int} {r : lombardref09_Reader} (h : lombardref09_Reader_fail.f x0 x1 = some r) : Pm.Spec prog 42 [.agg [.imm (.val (.string (tx x0.S))), .imm (.val (.int .i64 x0.At)), .imm (.val (.int .i64 x0.E))], .imm (.val (.int .i64 x1))] (.agg [.imm (.val (.string (tx r.S))), .imm (.val (.int .i64 r.At)), .imm (.val (.int .i64 r.E))]) [none, none] := by
  unfold lombardref09_Reader_fail.f at h
  refine Pm.Spec.of_body Try.func42 rfl (by kernel_rfl) (Nat.le_of_ble_eq_true rfl) (Nat.le_of_ble_eq_true rfl) ?_
  refine W.ghost (σ' := (mkSt [(0, some (.agg [.imm (.val (.string (tx x0.S))), .imm (.val (.int .i64 x0.At)), .imm (.val (.int .i64 x0.E))])), (1, some (.imm (.val (.int .i64 x1))))] [] 1000)) (Gives.entry (.c rfl (.c rfl .n)) .n) ?_
  refine W.seq ?_
  refine W.pk ?_
  refine .t rfl rfl (O.box rfl rfl rfl rfl rfl) ?_
  refine .t rfl rfl (O.alloc z51 rfl) ?_
  refine .nil ?_
  refine W.seq ?_
  refine W.seq ?_
  refine W.pk ?_
  refine .v rfl rfl (O.fld fld51_2 rfl rfl rfl) ?_
  refine .v rfl rfl (O.ld ty3 rfl rfl rfl) ?_
  refine .v rfl rfl (OpL.binI rfl rfl rfl rfl) ?_
  refine .nil ?_
  refine W.cond rfl (fun q1 => ?_) (fun q1 => ?_)
  · have h := ifT q1 h
    refine W.pk ?_
    refine .v rfl rfl (OpL.move (.inl rfl) rfl) ?_
    refine .v rfl rfl (O.fld fld51_2 rfl rfl rfl) ?_
    refine .s rfl rfl (O.st ty3 rfl rfl rfl rfl rfl rfl rfl rfl rfl rfl (all' := [.imm (.val (.string (tx x0.S))), .imm (.val (.int .i64 x0.At)), .imm (.val (.int .i64 x1))]) rfl) ?_
    refine .nil ?_
    refine W.seq ?_
    refine W.pk ?_
    refine .v rfl rfl (O.ldN ty51 rfl rfl rfl) ?_
    refine .s rfl rfl (O.st ty51 rfl rfl rfl rfl rfl rfl rfl rfl rfl rfl (all' := [.imm (.val (.string (tx x0.S))), .imm (.val (.int .i64 x0.At)), .imm (.val (.int .i64 x1))]) rfl) ?_
    refine .nil ?_
    refine W.ret ?_
    cases h
    exact leaves (.inr rfl) rfl (.agg _ _ _ _ (cC (.imm _) (cC (.imm _) (cC (.imm _) .nil)))) (cN (cN .nil)) rfl rfl
  · have h := ifF q1 h
    refine W.skip ?_
    refine W.seq ?_
    refine W.pk ?_
    refine .v rfl rfl (O.ldN ty51 rfl rfl rfl) ?_
    refine .s rfl rfl (O.st ty51 rfl rfl rfl rfl rfl rfl rfl rfl rfl rfl (all' := [.imm (.val (.string (tx x0.S))), .imm (.val (.int .i64 x0.At)), .imm (.val (.int .i64 x0.E))]) rfl) ?_
    refine .nil ?_
    refine W.ret ?_
    cases h
    exact leaves (.inr rfl) rfl (.agg _ _ _ _ (cC (.imm _) (cC (.imm _) (cC (.imm _) .nil)))) (cN (cN .nil)) rfl rfl
end Go.Proofs.Ytoongmdkndbppaa
