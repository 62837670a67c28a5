/- Shows what functions of the program come to, each as a plain function: written by a program of the author's for this claim. -/
import Derived.Test.YtbmokbkgielmmaaGreatGx4
namespace Go.Proofs.YtbmokbkgielmmaaGreat
open Go Go.Pm
set_option linter.unusedVariables false
set_option maxRecDepth 100000
set_option maxHeartbeats 4000000
set_option linter.unusedSimpArgs false
noncomputable def lombardref04_Sign.f (x0 : Bs) (x1 : Int) : Option (Int × Int × Bool) :=
 (lombardref04_at.f x0 x1).bind fun t1 =>
 (lombardref04_at.f x0 (IntKind.wrap .i64 (x1 + 1))).bind fun t3 =>
 (lombardref04_at.f x0 (IntKind.wrap .i64 (x1 + 2))).bind fun t5 =>
 (lombardref04_at.f x0 (IntKind.wrap .i64 (x1 + 3))).bind fun t7 =>
 if (decide (t1 < 128)) = true then
 some (t1, 1, true)
 else (if ((decide (t1 ≥ 194)) && (decide (t1 < 224))) = true then lombardref04_tail.f t3 else some default).bind fun t10 =>
 if (((decide (t1 ≥ 194)) && (decide (t1 < 224))) && t10) = true then
 some ((IntKind.wrap .i64 ((IntKind.wrap .i64 ((IntKind.wrap .i64 ((IntKind.wrap .i64 (t1 - 192)) * 64)) + t3)) - 128)), 2, true)
 else (if ((decide (t1 ≥ 224)) && (decide (t1 < 240))) = true then lombardref04_tail.f t3 else some default).bind fun t15 =>
 (if (((decide (t1 ≥ 224)) && (decide (t1 < 240))) && t15) = true then lombardref04_tail.f t5 else some default).bind fun t17 =>
 ((
 if ((((decide (t1 ≥ 224)) && (decide (t1 < 240))) && t15) && t17) = true then
 if ((decide ((IntKind.wrap .i64 ((IntKind.wrap .i64 ((IntKind.wrap .i64 ((IntKind.wrap .i64 ((IntKind.wrap .i64 (t1 - 224)) * 4096)) + (IntKind.wrap .i64 ((IntKind.wrap .i64 (t3 - 128)) * 64)))) + t5)) - 128)) ≥ 2048)) && ((decide ((IntKind.wrap .i64 ((IntKind.wrap .i64 ((IntKind.wrap .i64 ((IntKind.wrap .i64 ((IntKind.wrap .i64 (t1 - 224)) * 4096)) + (IntKind.wrap .i64 ((IntKind.wrap .i64 (t3 - 128)) * 64)))) + t5)) - 128)) < 55296)) || (decide ((IntKind.wrap .i64 ((IntKind.wrap .i64 ((IntKind.wrap .i64 ((IntKind.wrap .i64 ((IntKind.wrap .i64 (t1 - 224)) * 4096)) + (IntKind.wrap .i64 ((IntKind.wrap .i64 (t3 - 128)) * 64)))) + t5)) - 128)) > 57343)))) = true then
 some (.inl ((IntKind.wrap .i64 ((IntKind.wrap .i64 ((IntKind.wrap .i64 ((IntKind.wrap .i64 ((IntKind.wrap .i64 (t1 - 224)) * 4096)) + (IntKind.wrap .i64 ((IntKind.wrap .i64 (t3 - 128)) * 64)))) + t5)) - 128)), 3, true))
 else some (.inr ())
 else some (.inr ()) : Option ((Int × Int × Bool) ⊕ Unit))).bind fun o26 =>
 match o26 with
 | .inl r47 => some r47
 | .inr w28 =>
 (if ((decide (t1 ≥ 240)) && (decide (t1 < 245))) = true then lombardref04_tail.f t3 else some default).bind fun t34 =>
 (if (((decide (t1 ≥ 240)) && (decide (t1 < 245))) && t34) = true then lombardref04_tail.f t5 else some default).bind fun t36 =>
 (if ((((decide (t1 ≥ 240)) && (decide (t1 < 245))) && t34) && t36) = true then lombardref04_tail.f t7 else some default).bind fun t38 =>
 if (((((decide (t1 ≥ 240)) && (decide (t1 < 245))) && t34) && t36) && t38) = true then
 if ((decide ((IntKind.wrap .i64 ((IntKind.wrap .i64 ((IntKind.wrap .i64 ((IntKind.wrap .i64 ((IntKind.wrap .i64 ((IntKind.wrap .i64 (t1 - 240)) * 262144)) + (IntKind.wrap .i64 ((IntKind.wrap .i64 (t3 - 128)) * 4096)))) + (IntKind.wrap .i64 ((IntKind.wrap .i64 (t5 - 128)) * 64)))) + t7)) - 128)) ≥ 65536)) && (decide ((IntKind.wrap .i64 ((IntKind.wrap .i64 ((IntKind.wrap .i64 ((IntKind.wrap .i64 ((IntKind.wrap .i64 ((IntKind.wrap .i64 (t1 - 240)) * 262144)) + (IntKind.wrap .i64 ((IntKind.wrap .i64 (t3 - 128)) * 4096)))) + (IntKind.wrap .i64 ((IntKind.wrap .i64 (t5 - 128)) * 64)))) + t7)) - 128)) < 1114112))) = true then
 some ((IntKind.wrap .i64 ((IntKind.wrap .i64 ((IntKind.wrap .i64 ((IntKind.wrap .i64 ((IntKind.wrap .i64 ((IntKind.wrap .i64 (t1 - 240)) * 262144)) + (IntKind.wrap .i64 ((IntKind.wrap .i64 (t3 - 128)) * 4096)))) + (IntKind.wrap .i64 ((IntKind.wrap .i64 (t5 - 128)) * 64)))) + t7)) - 128)), 4, true)
 else some (65533, 1, false)
 else some (65533, 1, false)
theorem lombardref04_Sign.ok {x0 : Bs} {x1 : Int} {r : Int × Int × Bool} (h : lombardref04_Sign.f x0 x1 = some r) : Pm.Spec prog 122 [.imm (.val (.string (tx x0))), .imm (.val (.int .i64 x1))] (.tup [.imm (.val (.int .i64 r.1)), .imm (.val (.int .i64 r.2.1)), .imm (.val (.bool r.2.2))]) [none, none] := by
 unfold lombardref04_Sign.f at h; refine Pm.Spec.of_body Tryz.func122 Z (by kernel_rfl) (L Z) (L Z) ?_; refine W.ghost (σ' := (mkSt [(0, some (.s x0)), (1, some (.i x1))] [] 1000)) (Gives.entry (.c Z (.c Z .n)) .n) (W.seq (W.pk (.A Z (.A Z (.A Z (.nil (W.seq ?_))))))); obtain ⟨t1, b2, h⟩ := bnd1 h; obtain ⟨t3, b4, h⟩ := bnd1 h; obtain ⟨t5, b6, h⟩ := bnd1 h; obtain ⟨t7, b8, h⟩ := bnd1 h; refine W.pk (.M Z (.M Z (.C (.i t1) [] 0 (lombardref04_at.ok b2) ca124 Z (cI (cI .nil)) Z ?_))); refine .M Z (.M Z (.B Z (.C (.i t3) [] 0 (lombardref04_at.ok b4) ca124 Z (cI (cI .nil)) Z ?_))); refine .M Z (.M Z (.B Z (.C (.i t5) [] 0 (lombardref04_at.ok b6) ca124 Z (cI (cI .nil)) Z ?_))); refine .M Z (.M Z (.B Z (.C (.i t7) [] 0 (lombardref04_at.ok b8) ca124 Z (cI (cI .nil)) Z ?_))); (iterate 4 refine .A Z ?_); refine .nil (W.seq (W.seq (W.pk (.M Z (.B Z (.nil (W.cnd Z h (fun q9 h => ?_) (fun q9 h => ?_))))))))
 ·refine W.seq (W.pk (.M Z (.A Z (.A Z (.A Z (.nil (W.ret ?_))))))); cases h; exact leaves (.inr Z) Z (.tup _ _ _ _ (cI (cI (cI .nil)))) (cN (cN .nil)) Z Z
 ·refine W.skip (W.seq (W.seq ?_)); obtain ⟨t10, b11, h⟩ := bnd1 h; refine W.fork (mkSt [(7, some (.i t1)), (8, some (.i t3)), (9, some (.i t5)), (10, some (.i t7)), (40, some (.b (((decide (t1 ≥ 194)) && (decide (t1 < 224))) && t10)))] [] 1000) ?_ ?_
  ·refine W.cnd Z h (fun q14 h => ?_) (fun q14 h => ?_)
   ·refine W.seq (W.pk (.M Z (.B Z (.B Z (.M Z (.B Z (.B Z (.A Z (.A Z (.A Z (.nil ?_))))))))))); refine W.ret ?_; cases h; exact leaves (.inr Z) Z (.tup _ _ _ _ (cI (cI (cI .nil)))) (cN (cN .nil)) Z Z
   ·refine W.skip (W.seq (W.seq ?_)); obtain ⟨t15, b16, h⟩ := bnd1 h; obtain ⟨t17, b18, h⟩ := bnd1 h; refine W.fork (mkSt [(7, some (.i t1)), (8, some (.i t3)), (9, some (.i t5)), (10, some (.i t7)), (60, some (.b ((((decide (t1 ≥ 224)) && (decide (t1 < 240))) && t15) && t17)))] [] 1000) ?_ ?_
    ·obtain ⟨o26, b27, z29⟩ := bnd1 h; refine W.fork2 (out := o26) (fun (w28 : Unit) => mkSt [(7, some (.i t1)), (8, some (.i t3)), (9, some (.i t5)), (10, some (.i t7))] [] 1000) ?_ ?_
     ·clear h; have h := b27; refine W.cnd Z h (fun q30 h => ?_) (fun q30 h => ?_)
      ·refine W.seq (W.pk (.M Z (.B Z (.B Z (.M Z (.B Z (.B Z (.B Z (.M Z (.B Z (.B Z ?_))))))))))); refine .A Z (.nil (W.seq (W.fork (mkSt [(7, some (.i t1)), (8, some (.i t3)), (9, some (.i t5)), (10, some (.i t7)), (11, some (.i (IntKind.wrap .i64 ((IntKind.wrap .i64 ((IntKind.wrap .i64 ((IntKind.wrap .i64 ((IntKind.wrap .i64 (t1 - 224)) * 4096)) + (IntKind.wrap .i64 ((IntKind.wrap .i64 (t3 - 128)) * 64)))) + t5)) - 128)))), (80, some (.b ((decide ((IntKind.wrap .i64 ((IntKind.wrap .i64 ((IntKind.wrap .i64 ((IntKind.wrap .i64 ((IntKind.wrap .i64 (t1 - 224)) * 4096)) + (IntKind.wrap .i64 ((IntKind.wrap .i64 (t3 - 128)) * 64)))) + t5)) - 128)) ≥ 2048)) && ((decide ((IntKind.wrap .i64 ((IntKind.wrap .i64 ((IntKind.wrap .i64 ((IntKind.wrap .i64 ((IntKind.wrap .i64 (t1 - 224)) * 4096)) + (IntKind.wrap .i64 ((IntKind.wrap .i64 (t3 - 128)) * 64)))) + t5)) - 128)) < 55296)) || (decide ((IntKind.wrap .i64 ((IntKind.wrap .i64 ((IntKind.wrap .i64 ((IntKind.wrap .i64 ((IntKind.wrap .i64 (t1 - 224)) * 4096)) + (IntKind.wrap .i64 ((IntKind.wrap .i64 (t3 - 128)) * 64)))) + t5)) - 128)) > 57343))))))] [] 1000) ?_ ?_)))
       ·refine W.cnd Z h (fun q33 h => ?_) (fun q33 h => ?_)
        ·refine W.seq (W.pk (.M Z (.A Z (.A Z (.A Z (.nil (W.ret ?_))))))); cases h; have h := z29; dsimp only at h; refine fkR ?_; cases h; exact leaves (.inr Z) Z (.tup _ _ _ _ (cI (cI (cI .nil)))) (cN (cN .nil)) Z Z
        ·refine W.skip ?_; cases h; exact fkN (Gm [] (.e Z Z) .n Z)
       ·clear h; refine W.pk (.M Z (.B Z (.M Z ?_))); rcases tf (decide ((IntKind.wrap .i64 ((IntKind.wrap .i64 ((IntKind.wrap .i64 ((IntKind.wrap .i64 ((IntKind.wrap .i64 (t1 - 224)) * 4096)) + (IntKind.wrap .i64 ((IntKind.wrap .i64 (t3 - 128)) * 64)))) + t5)) - 128)) ≥ 2048)) with g31 | g31
        ·refine .N Z g31 (.G Z g31 Z (.N Z g31 ?_)); rcases tf (decide ((IntKind.wrap .i64 ((IntKind.wrap .i64 ((IntKind.wrap .i64 ((IntKind.wrap .i64 ((IntKind.wrap .i64 (t1 - 224)) * 4096)) + (IntKind.wrap .i64 ((IntKind.wrap .i64 (t3 - 128)) * 64)))) + t5)) - 128)) < 55296)) with g32 | g32
         ·exact .X Z g32 (.X Z g32 (.U Z g31 (O.pickT g32 Z Z Z) (.T g31 Z (.nil (toN (Gm [] (.r Z Z (.r Z Z (.r Z Z (.r Z Z (.r Z Z (.c Z (sbb (by simp only [g31, g32, BL])) Z .n)))))) .n Z))))))
         ·exact .N Z g32 (.G Z g32 Z (.U Z g31 (O.pickF g32 Z Z Z) (.T g31 Z (.nil (toN (Gm [] (.r Z Z (.r Z Z (.r Z Z (.r Z Z (.r Z Z (.c Z (sbb (by simp only [g31, g32, BL])) Z .n)))))) .n Z))))))
        ·(iterate 3 refine .X Z g31 ?_); (iterate 2 refine .x Z (unmetU Z Z Z) ?_); exact .X Z g31 (.E g31 Z (.nil (toN (Gm [] (.r Z Z (.r Z Z (.r Z Z (.r Z Z (.r Z Z (.c Z (sbb (by simp only [g31, BL])) Z .n)))))) .n Z))))
      ·refine W.skip ?_; cases h; exact fkN (Gm [] (.e Z Z) .n Z)
     ·intro w28 e_; subst e_; clear h; have h := z29; dsimp only at h; refine W.seq (W.seq ?_); obtain ⟨t34, b35, h⟩ := bnd1 h; obtain ⟨t36, b37, h⟩ := bnd1 h; obtain ⟨t38, b39, h⟩ := bnd1 h; refine W.fork (mkSt [(7, some (.i t1)), (8, some (.i t3)), (9, some (.i t5)), (10, some (.i t7)), (99, some (.b (((((decide (t1 ≥ 240)) && (decide (t1 < 245))) && t34) && t36) && t38)))] [] 1000) ?_ ?_
      ·refine W.cnd Z h (fun q44 h => ?_) (fun q44 h => ?_)
       ·refine W.seq (W.pk (.M Z (.B Z (.B Z (.M Z (.B Z (.B Z (.B Z (.M Z (.B Z (.B Z ?_))))))))))); refine .B Z (.M Z (.B Z (.B Z (.A Z (.nil (W.seq (W.fork (mkSt [(12, some (.i (IntKind.wrap .i64 ((IntKind.wrap .i64 ((IntKind.wrap .i64 ((IntKind.wrap .i64 ((IntKind.wrap .i64 ((IntKind.wrap .i64 (t1 - 240)) * 262144)) + (IntKind.wrap .i64 ((IntKind.wrap .i64 (t3 - 128)) * 4096)))) + (IntKind.wrap .i64 ((IntKind.wrap .i64 (t5 - 128)) * 64)))) + t7)) - 128)))), (119, some (.b ((decide ((IntKind.wrap .i64 ((IntKind.wrap .i64 ((IntKind.wrap .i64 ((IntKind.wrap .i64 ((IntKind.wrap .i64 ((IntKind.wrap .i64 (t1 - 240)) * 262144)) + (IntKind.wrap .i64 ((IntKind.wrap .i64 (t3 - 128)) * 4096)))) + (IntKind.wrap .i64 ((IntKind.wrap .i64 (t5 - 128)) * 64)))) + t7)) - 128)) ≥ 65536)) && (decide ((IntKind.wrap .i64 ((IntKind.wrap .i64 ((IntKind.wrap .i64 ((IntKind.wrap .i64 ((IntKind.wrap .i64 ((IntKind.wrap .i64 (t1 - 240)) * 262144)) + (IntKind.wrap .i64 ((IntKind.wrap .i64 (t3 - 128)) * 4096)))) + (IntKind.wrap .i64 ((IntKind.wrap .i64 (t5 - 128)) * 64)))) + t7)) - 128)) < 1114112)))))] [] 1000) ?_ ?_)))))))
        ·refine W.cnd Z h (fun q46 h => ?_) (fun q46 h => ?_)
         ·refine W.seq (W.pk (.M Z (.A Z (.A Z (.A Z (.nil (W.ret ?_))))))); cases h; exact leaves (.inr Z) Z (.tup _ _ _ _ (cI (cI (cI .nil)))) (cN (cN .nil)) Z Z
         ·refine W.skip (W.seq (W.pk (.A Z (.A Z (.A Z (.nil (W.ret ?_))))))); cases h; exact leaves (.inr Z) Z (.tup _ _ _ _ (cI (cI (cI .nil)))) (cN (cN .nil)) Z Z
        ·clear h; refine W.pk (.M Z (.B Z (.M Z ?_))); rcases tf (decide ((IntKind.wrap .i64 ((IntKind.wrap .i64 ((IntKind.wrap .i64 ((IntKind.wrap .i64 ((IntKind.wrap .i64 ((IntKind.wrap .i64 (t1 - 240)) * 262144)) + (IntKind.wrap .i64 ((IntKind.wrap .i64 (t3 - 128)) * 4096)))) + (IntKind.wrap .i64 ((IntKind.wrap .i64 (t5 - 128)) * 64)))) + t7)) - 128)) ≥ 65536)) with g45 | g45
         ·exact .N Z g45 (.G Z g45 Z (.T g45 Z (.nil (toN (Gm [] (.r Z Z (.c Z (sbb (by simp only [g45, BL])) Z .n)) .n Z)))))
         ·exact .X Z g45 (.X Z g45 (.E g45 Z (.nil (toN (Gm [] (.r Z Z (.c Z (sbb (by simp only [g45, BL])) Z .n)) .n Z)))))
       ·refine W.skip (W.seq (W.pk (.A Z (.A Z (.A Z (.nil (W.ret ?_))))))); cases h; exact leaves (.inr Z) Z (.tup _ _ _ _ (cI (cI (cI .nil)))) (cN (cN .nil)) Z Z
      ·clear h; refine W.pk (.M Z (.B Z (.M Z ?_))); rcases tf (decide (t1 ≥ 240)) with g40 | g40
       ·refine .N Z g40 (.G Z g40 Z (.T g40 Z (.M Z ?_))); rcases tf (decide (t1 < 245)) with g41 | g41
        ·refine .N Z g41 (.call (.b t34) [] 0 (lombardref04_tail.ok ((if_pos (by simp only [g40, g41, BL])).symm.trans b35)) Z (met Z Z Z g41) Z ca125 Z Z (cI .nil) Z Z Z Z Z ?_); refine .T g41 Z (.M Z ?_); rcases tf t34 with g42 | g42
         ·refine .N Z g42 (.call (.b t36) [] 0 (lombardref04_tail.ok ((if_pos (by simp only [g40, g41, g42, BL])).symm.trans b37)) Z (met Z Z Z g42) Z ca125 Z Z (cI .nil) Z Z Z Z Z ?_); refine .T g42 Z (.M Z ?_); rcases tf t36 with g43 | g43
          ·refine .N Z g43 (.call (.b t38) [] 0 (lombardref04_tail.ok ((if_pos (by simp only [g40, g41, g42, g43, BL])).symm.trans b39)) Z (met Z Z Z g43) Z ca125 Z Z (cI .nil) Z Z Z Z Z ?_); exact .T g43 Z (.nil (toN (Gm [] (.r Z Z (.r Z Z (.r Z Z (.r Z Z (.c Z (sbb (by simp only [g40, g41, g42, g43, BL])) Z .n))))) .n Z)))
          ·exact .X Z g43 (.X Z g43 (.E g43 Z (.nil (toN (Gm [] (.r Z Z (.r Z Z (.r Z Z (.r Z Z (.c Z (sbb (by simp only [g40, g41, g42, g43, BL])) Z .n))))) .n Z)))))
         ·exact .X Z g42 (.X Z g42 (.E g42 Z (.M Z (.X Z Z (.X Z Z (.E Z Z (.nil (toN (Gm [] (.r Z Z (.r Z Z (.r Z Z (.r Z Z (.c Z (sbb (by simp only [g40, g41, g42, BL])) Z .n))))) .n Z)))))))))
        ·refine .X Z g41 (.X Z g41 (.E g41 Z (.M Z (.X Z Z (.X Z Z (.E Z Z (.M Z (.X Z Z (.X Z Z (.E Z Z (.nil ?_))))))))))); exact toN (Gm [] (.r Z Z (.r Z Z (.r Z Z (.r Z Z (.c Z (sbb (by simp only [g40, g41, BL])) Z .n))))) .n Z)
       ·refine .X Z g40 (.X Z g40 (.E g40 Z (.M Z (.X Z Z (.X Z Z (.E Z Z (.M Z (.X Z Z (.X Z Z (.E Z Z (.M Z ?_))))))))))); exact .X Z Z (.X Z Z (.E Z Z (.nil (toN (Gm [] (.r Z Z (.r Z Z (.r Z Z (.r Z Z (.c Z (sbb (by simp only [g40, BL])) Z .n))))) .n Z)))))
    ·clear h; refine W.pk (.M Z (.B Z (.M Z ?_))); rcases tf (decide (t1 ≥ 224)) with g19 | g19
     ·refine .N Z g19 (.G Z g19 Z (.T g19 Z (.M Z ?_))); rcases tf (decide (t1 < 240)) with g20 | g20
      ·refine .N Z g20 (.call (.b t15) [] 0 (lombardref04_tail.ok ((if_pos (by simp only [g19, g20, BL])).symm.trans b16)) Z (met Z Z Z g20) Z ca125 Z Z (cI .nil) Z Z Z Z Z ?_); refine .T g20 Z (.M Z ?_); rcases tf t15 with g21 | g21
       ·refine .N Z g21 (.call (.b t17) [] 0 (lombardref04_tail.ok ((if_pos (by simp only [g19, g20, g21, BL])).symm.trans b18)) Z (met Z Z Z g21) Z ca125 Z Z (cI .nil) Z Z Z Z Z ?_); exact .T g21 Z (.nil (toN (Gm [] (.r Z Z (.r Z Z (.r Z Z (.r Z Z (.c Z (sbb (by simp only [g19, g20, g21, BL])) Z .n))))) .n Z)))
       ·exact .X Z g21 (.X Z g21 (.E g21 Z (.nil (toN (Gm [] (.r Z Z (.r Z Z (.r Z Z (.r Z Z (.c Z (sbb (by simp only [g19, g20, g21, BL])) Z .n))))) .n Z)))))
      ·exact .X Z g20 (.X Z g20 (.E g20 Z (.M Z (.X Z Z (.X Z Z (.E Z Z (.nil (toN (Gm [] (.r Z Z (.r Z Z (.r Z Z (.r Z Z (.c Z (sbb (by simp only [g19, g20, BL])) Z .n))))) .n Z)))))))))
     ·refine .X Z g19 (.X Z g19 (.E g19 Z (.M Z (.X Z Z (.X Z Z (.E Z Z (.M Z (.X Z Z (.X Z Z (.E Z Z (.nil ?_))))))))))); exact toN (Gm [] (.r Z Z (.r Z Z (.r Z Z (.r Z Z (.c Z (sbb (by simp only [g19, BL])) Z .n))))) .n Z)
  ·clear h; refine W.pk (.M Z (.B Z (.M Z ?_))); rcases tf (decide (t1 ≥ 194)) with g12 | g12
   ·refine .N Z g12 (.G Z g12 Z (.T g12 Z (.M Z ?_))); rcases tf (decide (t1 < 224)) with g13 | g13
    ·refine .N Z g13 (.call (.b t10) [] 0 (lombardref04_tail.ok ((if_pos (by simp only [g12, g13, BL])).symm.trans b11)) Z (met Z Z Z g13) Z ca125 Z Z (cI .nil) Z Z Z Z Z ?_); exact .T g13 Z (.nil (toN (Gm [] (.r Z Z (.r Z Z (.r Z Z (.r Z Z (.c Z (sbb (by simp only [g12, g13, BL])) Z .n))))) .n Z)))
    ·exact .X Z g13 (.X Z g13 (.E g13 Z (.nil (toN (Gm [] (.r Z Z (.r Z Z (.r Z Z (.r Z Z (.c Z (sbb (by simp only [g12, g13, BL])) Z .n))))) .n Z)))))
   ·exact .X Z g12 (.X Z g12 (.E g12 Z (.M Z (.X Z Z (.X Z Z (.E Z Z (.nil (toN (Gm [] (.r Z Z (.r Z Z (.r Z Z (.r Z Z (.c Z (sbb (by simp only [g12, BL])) Z .n))))) .n Z)))))))))
noncomputable def lombardref04_Signs.b0 (x0 : Bs) (v14 : Bool) (v15 : Int) (v16 : List Int) (v17 : List Int) : Option ((Bool × Int × (List Int) × (List Int)) ⊕ (Bool × (List Int) × (List Int))) :=
 if (decide (v15 < (List.length x0 : Int))) = true then
 (lombardref04_Sign.f x0 v15).bind fun t35 =>
 if (List.length v16 + List.length [t35.1]) * 8 ≤ 140737488355328 then
 if (List.length v17 + List.length [v15]) * 8 ≤ 140737488355328 then
 some (.inl ((v14 && t35.2.2), (IntKind.wrap .i64 (v15 + t35.2.1)), (v16 ++ [t35.1]), (v17 ++ [v15])))
 else none
 else none
 else some (.inr (v14, v16, v17))
noncomputable def lombardref04_Signs.r0 (x0 : Bs) (s : Bool × Int × (List Int) × (List Int)) : Option ((Bool × Int × (List Int) × (List Int)) ⊕ (Bool × (List Int) × (List Int))) := lombardref04_Signs.b0 x0 s.1 s.2.1 s.2.2.1 s.2.2.2
noncomputable def lombardref04_Signs.f (x0 : Bs) : Option ((List Int) × (List Int) × Bool) :=
 (loop (lombardref04_Signs.r0 x0) (true, 0, [], [])).bind fun o31 =>
 some (o31.2.1, o31.2.2, o31.1)
theorem lombardref04_Signs.ok {x0 : Bs} {r : (List Int) × (List Int) × Bool} (h : lombardref04_Signs.f x0 = some r) : Pm.Spec prog 115 [.imm (.val (.string (tx x0)))] (.tup [.xown 3 1 (List.map (encI .i64) r.1), .xown 3 1 (List.map (encI .i64) r.2.1), .imm (.val (.bool r.2.2))]) [none] := by
 unfold lombardref04_Signs.f at h; refine Pm.Spec.of_body Tryz.func115 Z (by kernel_rfl) (L Z) (L Z) ?_; refine W.ghost (σ' := (mkSt [(0, some (.s x0))] [] 1000)) (Gives.entry (.c Z .n) .n) (W.seq (W.pk (.A Z (.A Z (.A Z (.nil (W.seq (W.pk (.A Z (.A Z (.nil ?_))))))))))); refine W.seq (W.pk (.A Z (.nil (W.seq (W.seq (W.pk (.A Z (.nil (W.ghost (Gives.mintS 5 3 1 Z) (W.ghost (Gives.mintS 6 3 1 Z) ?_)))))))))); obtain ⟨o31, b32, h⟩ := bnd1 h; refine W.fork (mkSt [(5, some (.own 1000)), (6, some (.own 1001)), (7, some (.b o31.1))] [(1000, some (.rows 3 1 (List.map (encI .i64) o31.2.1) false)), (1001, some (.rows 3 1 (List.map (encI .i64) o31.2.2) false))] 1002) ?_ ?_
 ·refine W.seq (W.pk (.M Z (.M Z (.M Z (.A Z (.A Z (.A Z (.nil (W.ret ?_))))))))); cases h; exact leaves (.inr Z) Z (.tup _ _ _ _ (cC (.own _ _ _ _ Z) (cC (.own _ _ _ _ Z) (cI .nil)))) (cN .nil) Z Z
 ·clear h; refine W.block (W.loopF (fun (s_ : Bool × Int × (List Int) × (List Int)) => mkSt [(0, some (.s x0)), (5, some (.own 1000)), (6, some (.own 1001)), (7, some (.b s_.1)), (8, some (.i s_.2.1))] [(1000, some (.rows 3 1 (List.map (encI .i64) s_.2.2.1) false)), (1001, some (.rows 3 1 (List.map (encI .i64) s_.2.2.2) false))] 1002) b32 (Gm [] (.e Z Z) (.e Z Z) Z) ?_); rintro ⟨v14, v15, v16, v17⟩ s_ hr; have h : lombardref04_Signs.b0 x0 v14 v15 v16 v17 = some s_ := hr; unfold lombardref04_Signs.b0 at h; refine W.seq (W.seq (W.pk (.M Z (.M Z (.V Z (O.lenS u9 Z Z) (.B Z (.nil (W.cnd Z h (fun q34 h => ?_) (fun q34 h => ?_)))))))))
  ·refine W.skip (W.block (W.seq ?_)); obtain ⟨t35, b36, h⟩ := bnd1 h; refine W.pk (.M Z (.M Z (.C (.tup [.i t35.1, .i t35.2.1, .b t35.2.2]) [] 0 (lombardref04_Sign.ok b36) ca122 Z (cI (cI .nil)) Z ?_))); refine .M Z ?_; (iterate 3 refine .V Z (OpL.extract Z Z Z) ?_); refine .A Z (.A Z (.A Z (.nil (W.seq ?_)))); obtain ⟨c37, h⟩ := chk h; refine W.pk (.M Z (.M Z (.t Z Z (O.lit (enc := (encI .i64)) (l := [t35.1]) sl25 Z Z Z Z Z Z Z Z Z) (.t Z Z (O.appO sl25 (EncOk.int .i64) c37 Z Z Z Z Z) (.A Z (.nil (W.seq ?_))))))); obtain ⟨c38, h⟩ := chk h; refine W.pk (.M Z (.M Z (.t Z Z (O.lit (enc := (encI .i64)) (l := [v15]) sl25 Z Z Z Z Z Z Z Z Z) (.t Z Z (O.appO sl25 (EncOk.int .i64) c38 Z Z Z Z Z) (.A Z (.nil (W.seq (W.fork (mkSt [(0, some (.s x0)), (5, some (.own 1003)), (6, some (.own 1005)), (7, some (.b (v14 && t35.2.2))), (8, some (.i v15)), (10, some (.i t35.2.1))] [(1003, some (.rows 3 1 (List.map (encI .i64) (v16 ++ [t35.1])) false)), (1005, some (.rows 3 1 (List.map (encI .i64) (v17 ++ [v15])) false))] 1006) ?_ ?_))))))))
   ·refine W.pk (.M Z (.M Z (.B Z (.A Z (.nil ?_))))); cases h; exact rdN (Gm [(1000, 1003), (1001, 1005)] (.e Z Z) (.e Z Z) Z)
   ·clear h; refine W.pk (.M Z (.M Z ?_)); rcases tf v14 with g39 | g39
    ·exact .N Z g39 (.T g39 Z (.A Z (.nil (toN (Gm [] (.r Z Z (.r Z Z (.r Z Z (.c Z (sbb (by simp only [g39, BL])) Z (.r Z Z (.r Z Z .n)))))) (.e Z Z) Z)))))
    ·exact .X Z g39 (.E g39 Z (.A Z (.nil (toN (Gm [] (.r Z Z (.r Z Z (.r Z Z (.c Z (sbb (by simp only [g39, BL])) Z (.r Z Z (.r Z Z .n)))))) (.e Z Z) Z)))))
  ·refine W.exit ?_; cases h; refine rdX fun e_ => ?_; subst e_; (repeat with_reducible refine thru ?_); exact hit (toN (Gm [] (.e Z Z) (.e Z Z) Z))
noncomputable def lombardref04_ascii.f (x0 : Int) : Option (Bool) :=
 some (((decide (x0 ≥ 97)) && (decide (x0 ≤ 122))) || ((decide (x0 ≥ 65)) && (decide (x0 ≤ 90))))
theorem lombardref04_ascii.ok {x0 : Int} {r : Bool} (h : lombardref04_ascii.f x0 = some r) : Pm.Spec prog 123 [.imm (.val (.int .i64 x0))] (.imm (.val (.bool r))) [none] := by
 unfold lombardref04_ascii.f at h; refine Pm.Spec.of_body Tryz.func123 Z (by kernel_rfl) (L Z) (L Z) ?_; refine W.ghost (σ' := (mkSt [(0, some (.i x0))] [] 1000)) (Gives.entry (.c Z .n) .n) (W.seq (W.pk (.A Z (.nil (W.seq (W.fork (mkSt [(2, some (.b (((decide (x0 ≥ 97)) && (decide (x0 ≤ 122))) || ((decide (x0 ≥ 65)) && (decide (x0 ≤ 90))))))] [] 1000) ?_ ?_))))))
 ·refine W.ret ?_; cases h; exact lv Z Z
 ·clear h; refine W.pk (.M Z (.B Z (.M Z ?_))); rcases tf (decide (x0 ≥ 97)) with g1 | g1
  ·refine .N Z g1 (.G Z g1 Z (.T g1 Z (.M Z ?_))); rcases tf (decide (x0 ≤ 122)) with g2 | g2
   ·refine .X Z g2 (.X Z g2 (.X Z g2 ?_)); (iterate 2 refine .x Z (unmetU Z Z Z) ?_); exact .X Z g2 (.T g2 Z (.A Z (.nil (toN (Gm [] (.c Z (sbb (by simp only [g1, g2, BL])) Z .n) .n Z)))))
   ·refine .N Z g2 (.G Z g2 Z (.N Z g2 ?_)); rcases tf (decide (x0 ≥ 65)) with g3 | g3
    ·exact .N Z g3 (.G Z g3 Z (.U Z g2 (O.pickT g3 Z Z Z) (.E g2 Z (.A Z (.nil (toN (Gm [] (.c Z (sbb (by simp only [g1, g2, g3, BL])) Z .n) .n Z)))))))
    ·exact .X Z g3 (.X Z g3 (.U Z g2 (O.pickF g3 Z Z Z) (.E g2 Z (.A Z (.nil (toN (Gm [] (.c Z (sbb (by simp only [g1, g2, g3, BL])) Z .n) .n Z)))))))
  ·refine .X Z g1 (.X Z g1 (.E g1 Z (.M Z (.N Z Z (.G Z Z Z (.N Z Z ?_)))))); rcases tf (decide (x0 ≥ 65)) with g4 | g4
   ·exact .N Z g4 (.G Z g4 Z (.U Z Z (O.pickT g4 Z Z Z) (.E Z Z (.A Z (.nil (toN (Gm [] (.c Z (sbb (by simp only [g1, g4, BL])) Z .n) .n Z)))))))
   ·exact .X Z g4 (.X Z g4 (.U Z Z (O.pickF g4 Z Z Z) (.E Z Z (.A Z (.nil (toN (Gm [] (.c Z (sbb (by simp only [g1, g4, BL])) Z .n) .n Z)))))))
noncomputable def lombardref04_letter.f (x0 : Int) : Option (Bool) :=
 (lombardref04_ascii.f x0).bind fun t1 =>
 some (t1 || ((((decide (x0 ≥ 192)) && (decide (x0 ≤ 383))) && (x0 != 215)) && (x0 != 247)))
theorem lombardref04_letter.ok {x0 : Int} {r : Bool} (h : lombardref04_letter.f x0 = some r) : Pm.Spec prog 116 [.imm (.val (.int .i64 x0))] (.imm (.val (.bool r))) [none] := by
 unfold lombardref04_letter.f at h; refine Pm.Spec.of_body Tryz.func116 Z (by kernel_rfl) (L Z) (L Z) ?_; refine W.ghost (σ' := (mkSt [(0, some (.i x0))] [] 1000)) (Gives.entry (.c Z .n) .n) (W.seq (W.pk (.A Z (.nil (W.seq ?_))))); obtain ⟨t1, b2, h⟩ := bnd1 h; refine W.fork (mkSt [(2, some (.b (t1 || ((((decide (x0 ≥ 192)) && (decide (x0 ≤ 383))) && (x0 != 215)) && (x0 != 247)))))] [] 1000) ?_ ?_
 ·refine W.ret ?_; cases h; exact lv Z Z
 ·clear h; refine W.pk (.M Z (.C (.b t1) [] 0 (lombardref04_ascii.ok b2) ca123 Z (cI .nil) Z ?_)); refine .M Z ?_; rcases tf t1 with g3 | g3
  ·refine .X Z g3 (.X Z g3 (.X Z g3 ?_)); (iterate 2 refine .x Z (unmetU Z Z Z) ?_); refine .X Z g3 (.X Z g3 ?_); (iterate 2 refine .x Z (unmetU Z Z Z) ?_); refine .X Z g3 (.X Z g3 ?_); (iterate 2 refine .x Z (unmetU Z Z Z) ?_); exact .X Z g3 (.T g3 Z (.A Z (.nil (toN (Gm [] (.c Z (sbb (by simp only [g3, BL])) Z .n) .n Z)))))
  ·refine .N Z g3 (.G Z g3 Z (.N Z g3 ?_)); rcases tf (decide (x0 ≥ 192)) with g4 | g4
   ·refine .N Z g4 (.G Z g4 Z (.U Z g3 (O.pickT g4 Z Z Z) (.N Z g3 ?_))); rcases tf (decide (x0 ≤ 383)) with g5 | g5
    ·refine .N Z g5 (.G Z g5 Z (.U Z g3 (O.pickT g5 Z Z Z) (.N Z g3 ?_))); rcases tf (x0 != 215) with g6 | g6
     ·exact .N Z g6 (.G Z g6 Z (.U Z g3 (O.pickT g6 Z Z Z) (.E g3 Z (.A Z (.nil (toN (Gm [] (.c Z (sbb (by simp only [g3, g4, g5, g6, BL])) Z .n) .n Z)))))))
     ·exact .X Z g6 (.X Z g6 (.U Z g3 (O.pickF g6 Z Z Z) (.E g3 Z (.A Z (.nil (toN (Gm [] (.c Z (sbb (by simp only [g3, g4, g5, g6, BL])) Z .n) .n Z)))))))
    ·exact .X Z g5 (.X Z g5 (.U Z g3 (O.pickF g5 Z Z Z) (.N Z g3 (.X Z Z (.X Z Z (.U Z g3 (O.pickF Z Z Z Z) (.E g3 Z (.A Z (.nil (toN (Gm [] (.c Z (sbb (by simp only [g3, g4, g5, BL])) Z .n) .n Z)))))))))))
   ·refine .X Z g4 (.X Z g4 (.U Z g3 (O.pickF g4 Z Z Z) (.N Z g3 (.X Z Z (.X Z Z (.U Z g3 (O.pickF Z Z Z Z) (.N Z g3 (.X Z Z (.X Z Z (.U Z g3 (O.pickF Z Z Z Z) (.E g3 Z ?_))))))))))); exact .A Z (.nil (toN (Gm [] (.c Z (sbb (by simp only [g3, g4, BL])) Z .n) .n Z)))
noncomputable def lombardref04_digit.f (x0 : Int) : Option (Bool) :=
 some ((decide (x0 ≥ 48)) && (decide (x0 ≤ 57)))
theorem lombardref04_digit.ok {x0 : Int} {r : Bool} (h : lombardref04_digit.f x0 = some r) : Pm.Spec prog 117 [.imm (.val (.int .i64 x0))] (.imm (.val (.bool r))) [none] := by
 unfold lombardref04_digit.f at h; refine Pm.Spec.of_body Tryz.func117 Z (by kernel_rfl) (L Z) (L Z) ?_; refine W.ghost (σ' := (mkSt [(0, some (.i x0))] [] 1000)) (Gives.entry (.c Z .n) .n) (W.seq (W.pk (.A Z (.nil (W.seq (W.fork (mkSt [(2, some (.b ((decide (x0 ≥ 48)) && (decide (x0 ≤ 57)))))] [] 1000) ?_ ?_))))))
 ·refine W.ret ?_; cases h; exact lv Z Z
 ·clear h; refine W.pk (.M Z (.B Z (.M Z ?_))); rcases tf (decide (x0 ≥ 48)) with g1 | g1
  ·exact .N Z g1 (.G Z g1 Z (.T g1 Z (.A Z (.nil (toN (Gm [] (.c Z (sbb (by simp only [g1, BL])) Z .n) .n Z))))))
  ·exact .X Z g1 (.X Z g1 (.E g1 Z (.A Z (.nil (toN (Gm [] (.c Z (sbb (by simp only [g1, BL])) Z .n) .n Z))))))
noncomputable def lombardref04_joint.f (x0 : Int) : Option (Bool) :=
 some (((((x0 == 32) || (x0 == 45)) || (x0 == 46)) || (x0 == 38)) || (x0 == 39))
theorem lombardref04_joint.ok {x0 : Int} {r : Bool} (h : lombardref04_joint.f x0 = some r) : Pm.Spec prog 118 [.imm (.val (.int .i64 x0))] (.imm (.val (.bool r))) [none] := by
 unfold lombardref04_joint.f at h; refine Pm.Spec.of_body Tryz.func118 Z (by kernel_rfl) (L Z) (L Z) ?_; refine W.ghost (σ' := (mkSt [(0, some (.i x0))] [] 1000)) (Gives.entry (.c Z .n) .n) (W.seq (W.pk (.A Z (.nil (W.seq (W.fork (mkSt [(2, some (.b (((((x0 == 32) || (x0 == 45)) || (x0 == 46)) || (x0 == 38)) || (x0 == 39))))] [] 1000) ?_ ?_))))))
 ·refine W.ret ?_; cases h; exact lv Z Z
 ·clear h; refine W.pk (.M Z (.B Z (.M Z ?_))); rcases tf (x0 == 32) with g1 | g1
  ·refine .X Z g1 (.X Z g1 (.T g1 Z (.M Z (.X Z Z (.X Z Z (.T Z Z (.M Z (.X Z Z (.X Z Z (.T Z Z (.M Z ?_))))))))))); exact .X Z Z (.X Z Z (.T Z Z (.A Z (.nil (toN (Gm [] (.c Z (sbb (by simp only [g1, BL])) Z .n) .n Z))))))
  ·refine .N Z g1 (.G Z g1 Z (.E g1 Z (.M Z ?_))); rcases tf (x0 == 45) with g2 | g2
   ·refine .X Z g2 (.X Z g2 (.T g2 Z (.M Z (.X Z Z (.X Z Z (.T Z Z (.M Z (.X Z Z (.X Z Z (.T Z Z (.A Z ?_))))))))))); exact .nil (toN (Gm [] (.c Z (sbb (by simp only [g1, g2, BL])) Z .n) .n Z))
   ·refine .N Z g2 (.G Z g2 Z (.E g2 Z (.M Z ?_))); rcases tf (x0 == 46) with g3 | g3
    ·exact .X Z g3 (.X Z g3 (.T g3 Z (.M Z (.X Z Z (.X Z Z (.T Z Z (.A Z (.nil (toN (Gm [] (.c Z (sbb (by simp only [g1, g2, g3, BL])) Z .n) .n Z))))))))))
    ·refine .N Z g3 (.G Z g3 Z (.E g3 Z (.M Z ?_))); rcases tf (x0 == 38) with g4 | g4
     ·exact .X Z g4 (.X Z g4 (.T g4 Z (.A Z (.nil (toN (Gm [] (.c Z (sbb (by simp only [g1, g2, g3, g4, BL])) Z .n) .n Z))))))
     ·exact .N Z g4 (.G Z g4 Z (.E g4 Z (.A Z (.nil (toN (Gm [] (.c Z (sbb (by simp only [g1, g2, g3, g4, BL])) Z .n) .n Z))))))
noncomputable def lombardref04_Check.b0 (t2 : (List Int) × (List Int) × Bool) (v30 : Int) : Option (Int ⊕ ((Int × Int) ⊕ Unit)) :=
 if (decide (v30 < (List.length t2.1 : Int))) = true then
 if (0 : Int) ≤ v30 ∧ v30 < (List.length t2.1 : Int) then
 if (v30 == 40) = true then
 if (0 : Int) ≤ v30 ∧ v30 < (List.length t2.2.1 : Int) then
 some (.inr (.inl ((nth t2.2.1 v30), 2)))
 else none
 else (lombardref04_letter.f (nth t2.1 v30)).bind fun t91 =>
 (if (!t91) = true ∧ (v30 == 0) = false then lombardref04_digit.f (nth t2.1 v30) else some default).bind fun t93 =>
 (if (!t91) = true ∧ (v30 == 0) = false ∧ (!t93) = true then lombardref04_joint.f (nth t2.1 v30) else some default).bind fun t95 =>
 if ((!t91) && ((v30 == 0) || ((!t93) && (!t95)))) = true then
 if (0 : Int) ≤ v30 ∧ v30 < (List.length t2.2.1 : Int) then
 some (.inr (.inl ((nth t2.2.1 v30), 11)))
 else none
 else if (((decide (v30 > 0)) && ((nth t2.1 v30) == 32)) = true → (0 : Int) ≤ (IntKind.wrap .i64 (v30 - 1)) ∧ (IntKind.wrap .i64 (v30 - 1)) < (List.length t2.1 : Int)) then
 (if ((decide (v30 > 0)) && ((nth t2.1 v30) == 32)) = true then lombardref04_joint.f (nth t2.1 (IntKind.wrap .i64 (v30 - 1))) else some default).bind fun t103 =>
 if ((((decide (v30 > 0)) && ((nth t2.1 v30) == 32)) && t103) = true → (0 : Int) ≤ (IntKind.wrap .i64 (v30 - 1)) ∧ (IntKind.wrap .i64 (v30 - 1)) < (List.length t2.1 : Int)) then
 if (((((decide (v30 > 0)) && ((nth t2.1 v30) == 32)) && t103) && ((nth t2.1 (IntKind.wrap .i64 (v30 - 1))) != 46)) = true → (0 : Int) ≤ (IntKind.wrap .i64 (v30 - 1)) ∧ (IntKind.wrap .i64 (v30 - 1)) < (List.length t2.1 : Int)) then
 if (((((decide (v30 > 0)) && ((nth t2.1 v30) == 32)) && t103) && ((nth t2.1 (IntKind.wrap .i64 (v30 - 1))) != 46)) && ((nth t2.1 (IntKind.wrap .i64 (v30 - 1))) != 38)) = true then
 if (0 : Int) ≤ v30 ∧ v30 < (List.length t2.2.1 : Int) then
 some (.inr (.inl ((nth t2.2.1 v30), 11)))
 else none
 else some (.inl (IntKind.wrap .i64 (v30 + 1)))
 else none
 else none
 else none
 else none
 else some (.inr (.inr ()))
noncomputable def lombardref04_Check.r0 (t2 : (List Int) × (List Int) × Bool) (s : Int) : Option (Int ⊕ ((Int × Int) ⊕ Unit)) := lombardref04_Check.b0 t2 s
noncomputable def lombardref04_Check.f (x0 : Bs) : Option (Int × Int) :=
 if (decide ((List.length x0 : Int) > 160)) = true then
 some (0, 2)
 else (lombardref04_Signs.f x0).bind fun t2 =>
 (loop (lombardref04_Check.r0 t2) 0).bind fun o84 =>
 match o84 with
 | .inl r113 => some r113
 | .inr w83 =>
 if (((List.length t2.1 : Int) == 0) = false → (0 : Int) ≤ (IntKind.wrap .i64 ((List.length t2.1 : Int) - 1)) ∧ (IntKind.wrap .i64 ((List.length t2.1 : Int) - 1)) < (List.length t2.1 : Int)) then
 if (((List.length t2.1 : Int) == 0) || ((nth t2.1 (IntKind.wrap .i64 ((List.length t2.1 : Int) - 1))) == 32)) = true then
 some ((List.length x0 : Int), 11)
 else some ((List.length x0 : Int), 0)
 else none
theorem lombardref04_Check.ok {x0 : Bs} {r : Int × Int} (h : lombardref04_Check.f x0 = some r) : Pm.Spec prog 100 [.imm (.val (.string (tx x0)))] (.tup [.imm (.val (.int .i64 r.1)), .imm (.val (.int .i64 r.2))]) [none] := by
 unfold lombardref04_Check.f at h; refine Pm.Spec.of_body Tryz.func100 Z (by kernel_rfl) (L Z) (L Z) ?_; refine W.ghost (σ' := (mkSt [(0, some (.s x0))] [] 1000)) (Gives.entry (.c Z .n) .n) (W.seq (W.pk (.A Z (.A Z (.nil (W.seq (W.seq (W.pk (.M Z (.V Z (O.lenS u9 Z Z) (.B Z ?_))))))))))); refine .nil (W.cnd Z h (fun q1 h => ?_) (fun q1 h => ?_))
 ·refine W.seq (W.pk (.A Z (.A Z (.nil (W.ret ?_))))); cases h; exact leaves (.inr Z) Z (.tup _ _ _ _ (cI (cI .nil))) (cN .nil) Z Z
 ·refine W.skip (W.seq ?_); obtain ⟨t2, b3, h⟩ := bnd1 h; refine W.pk (.M Z (.C (.tup [.own 1000, .own 1001, .b t2.2.2]) [(1000, some (.rows 3 1 (List.map (encI .i64) t2.1) false)), (1001, some (.rows 3 1 (List.map (encI .i64) t2.2.1) false))] 2 (lombardref04_Signs.ok b3) ca115 Z (cI .nil) Z ?_)); refine .M Z ?_; (iterate 3 refine .V Z (OpL.extract Z Z Z) ?_); refine .A Z (.A Z (.A Z (.nil (W.seq (W.seq (W.pk (.A Z (.nil ?_)))))))); obtain ⟨o84, b85, z86⟩ := bnd1 h; refine W.fork2 (out := o84) (fun (w83 : Unit) => mkSt [(0, some (.s x0)), (4, some (.own 1000))] [(1000, some (.rows 3 1 (List.map (encI .i64) t2.1) false))] 1002) ?_ ?_
  ·clear h; refine W.block (W.loopF (fun (s_ : Int) => mkSt [(0, some (.s x0)), (4, some (.own 1000)), (5, some (.own 1001)), (7, some (.i s_))] [(1000, some (.rows 3 1 (List.map (encI .i64) t2.1) false)), (1001, some (.rows 3 1 (List.map (encI .i64) t2.2.1) false))] 1002) b85 (Gm [] (.e Z Z) (.e Z Z) Z) ?_); rintro v30 s_ hr; have h : lombardref04_Check.b0 t2 v30 = some s_ := hr; unfold lombardref04_Check.b0 at h; refine W.seq (W.seq (W.pk (.M Z (.M Z (.V Z (O.lenO sl25 Z Z Z) (.B Z (.nil (W.cnd Z h (fun q87 h => ?_) (fun q87 h => ?_)))))))))
   ·refine W.skip (W.seq (W.block (W.seq ?_))); obtain ⟨c88, h⟩ := chk h; refine W.pk (.M Z (.M Z (.V Z (O.idxO sl25 c88 Z Z Z Z) (.V Z (O.ldE (c := (.val (.int .i64 (nth t2.1 v30)))) ty3 c88 Z Z Z Z Z) (.A Z (.nil (W.seq (W.seq (W.pk (.M Z (.B Z ?_))))))))))); refine .nil (W.cnd Z h (fun q89 h => ?_) (fun q89 h => ?_))
    ·refine W.seq ?_; obtain ⟨c90, h⟩ := chk h; refine W.pk (.M Z (.M Z (.V Z (O.idxO sl25 c90 Z Z Z Z) (.V Z (O.ldE (c := (.val (.int .i64 (nth t2.2.1 v30)))) ty3 c90 Z Z Z Z Z) (.A Z (.A Z (.nil (W.ret ?_)))))))); cases h; refine rdR fun e_ => ?_; subst e_; have h := z86; dsimp only at h; refine fkR ?_; cases h; exact leaves (.inr Z) Z (.tup _ _ _ _ (cI (cI .nil))) (cN .nil) Z Z
    ·refine W.skip (W.seq (W.seq ?_)); obtain ⟨t91, b92, h⟩ := bnd1 h; obtain ⟨t93, b94, h⟩ := bnd1 h; obtain ⟨t95, b96, h⟩ := bnd1 h; refine W.fork (mkSt [(0, some (.s x0)), (4, some (.own 1000)), (5, some (.own 1001)), (7, some (.i v30)), (8, some (.i (nth t2.1 v30))), (50, some (.b ((!t91) && ((v30 == 0) || ((!t93) && (!t95))))))] [(1000, some (.rows 3 1 (List.map (encI .i64) t2.1) false)), (1001, some (.rows 3 1 (List.map (encI .i64) t2.2.1) false))] 1002) ?_ ?_
     ·refine W.cnd Z h (fun q100 h => ?_) (fun q100 h => ?_)
      ·refine W.seq ?_; obtain ⟨c101, h⟩ := chk h; refine W.pk (.M Z (.M Z (.V Z (O.idxO sl25 c101 Z Z Z Z) (.V Z (O.ldE (c := (.val (.int .i64 (nth t2.2.1 v30)))) ty3 c101 Z Z Z Z Z) (.A Z (.A Z (.nil (W.ret ?_)))))))); cases h; refine rdR fun e_ => ?_; subst e_; have h := z86; dsimp only at h; refine fkR ?_; cases h; exact leaves (.inr Z) Z (.tup _ _ _ _ (cI (cI .nil))) (cN .nil) Z Z
      ·refine W.skip (W.seq ?_); obtain ⟨c102, h⟩ := chk h; obtain ⟨t103, b104, h⟩ := bnd1 h; obtain ⟨c105, h⟩ := chk h; obtain ⟨c106, h⟩ := chk h; refine W.fork (mkSt [(0, some (.s x0)), (4, some (.own 1000)), (5, some (.own 1001)), (7, some (.i v30)), (84, some (.b (((((decide (v30 > 0)) && ((nth t2.1 v30) == 32)) && t103) && ((nth t2.1 (IntKind.wrap .i64 (v30 - 1))) != 46)) && ((nth t2.1 (IntKind.wrap .i64 (v30 - 1))) != 38))))] [(1000, some (.rows 3 1 (List.map (encI .i64) t2.1) false)), (1001, some (.rows 3 1 (List.map (encI .i64) t2.2.1) false))] 1002) ?_ ?_
       ·refine W.cnd Z h (fun q111 h => ?_) (fun q111 h => ?_)
        ·refine W.seq ?_; obtain ⟨c112, h⟩ := chk h; refine W.pk (.M Z (.M Z (.V Z (O.idxO sl25 c112 Z Z Z Z) (.V Z (O.ldE (c := (.val (.int .i64 (nth t2.2.1 v30)))) ty3 c112 Z Z Z Z Z) (.A Z (.A Z (.nil (W.ret ?_)))))))); cases h; refine rdR fun e_ => ?_; subst e_; have h := z86; dsimp only at h; refine fkR ?_; cases h; exact leaves (.inr Z) Z (.tup _ _ _ _ (cI (cI .nil))) (cN .nil) Z Z
        ·refine W.skip (W.pk (.M Z (.B Z (.A Z (.nil ?_))))); cases h; exact rdN (Gm [] (.e Z Z) (.e Z Z) Z)
       ·clear h; refine W.pk (.M Z (.B Z (.M Z ?_))); rcases tf (decide (v30 > 0)) with g107 | g107
        ·refine .N Z g107 (.G Z g107 Z (.T g107 Z (.M Z ?_))); rcases tf ((nth t2.1 v30) == 32) with g108 | g108
         ·refine .N Z g108 (.N Z g108 (.G Z g108 Z (.U Z g108 (O.idxO sl25 (c102 (by simp only [g107, g108, BL])) Z Z Z Z) ?_))); refine .U Z g108 (O.ldE (c := (.val (.int .i64 (nth t2.1 (IntKind.wrap .i64 (v30 - 1)))))) ty3 (c102 (by simp only [g107, g108, BL])) Z Z Z Z Z) ?_; refine .call (.b t103) [] 0 (lombardref04_joint.ok ((if_pos (by simp only [g107, g108, BL])).symm.trans b104)) Z (met Z Z Z g108) Z ca118 Z Z (cI .nil) Z Z Z Z Z ?_; refine .T g108 Z (.M Z ?_); rcases tf t103 with g109 | g109
          ·refine .N Z g109 (.N Z g109 (.G Z g109 Z (.U Z g109 (O.idxO sl25 (c105 (by simp only [g107, g108, g109, BL])) Z Z Z Z) ?_))); refine .U Z g109 (O.ldE (c := (.val (.int .i64 (nth t2.1 (IntKind.wrap .i64 (v30 - 1)))))) ty3 (c105 (by simp only [g107, g108, g109, BL])) Z Z Z Z Z) ?_; refine .G Z g109 Z (.T g109 Z (.M Z ?_)); rcases tf ((nth t2.1 (IntKind.wrap .i64 (v30 - 1))) != 46) with g110 | g110
           ·refine .N Z g110 (.N Z g110 (.G Z g110 Z (.U Z g110 (O.idxO sl25 (c106 (by simp only [g107, g108, g109, g110, BL])) Z Z Z Z) ?_))); refine .U Z g110 (O.ldE (c := (.val (.int .i64 (nth t2.1 (IntKind.wrap .i64 (v30 - 1)))))) ty3 (c106 (by simp only [g107, g108, g109, g110, BL])) Z Z Z Z Z) ?_; exact .G Z g110 Z (.T g110 Z (.nil (toN (Gm [] (.r Z Z (.r Z Z (.r Z Z (.r Z Z (.c Z (sbb (by simp only [g107, g108, g109, g110, BL])) Z .n))))) (.e Z Z) Z))))
           ·(iterate 6 refine .X Z g110 ?_); exact .E g110 Z (.nil (toN (Gm [] (.r Z Z (.r Z Z (.r Z Z (.r Z Z (.c Z (sbb (by simp only [g107, g108, g109, g110, BL])) Z .n))))) (.e Z Z) Z)))
          ·(iterate 6 refine .X Z g109 ?_); refine .E g109 Z (.M Z ?_); (iterate 6 refine .X Z Z ?_); exact .E Z Z (.nil (toN (Gm [] (.r Z Z (.r Z Z (.r Z Z (.r Z Z (.c Z (sbb (by simp only [g107, g108, g109, BL])) Z .n))))) (.e Z Z) Z)))
         ·(iterate 6 refine .X Z g108 ?_); refine .E g108 Z (.M Z ?_); (iterate 6 refine .X Z Z ?_); refine .E Z Z (.M Z ?_); (iterate 6 refine .X Z Z ?_); exact .E Z Z (.nil (toN (Gm [] (.r Z Z (.r Z Z (.r Z Z (.r Z Z (.c Z (sbb (by simp only [g107, g108, BL])) Z .n))))) (.e Z Z) Z)))
        ·refine .X Z g107 (.X Z g107 (.E g107 Z (.M Z ?_))); (iterate 6 refine .X Z Z ?_); refine .E Z Z (.M Z ?_); (iterate 6 refine .X Z Z ?_); refine .E Z Z (.M Z ?_); (iterate 6 refine .X Z Z ?_); exact .E Z Z (.nil (toN (Gm [] (.r Z Z (.r Z Z (.r Z Z (.r Z Z (.c Z (sbb (by simp only [g107, BL])) Z .n))))) (.e Z Z) Z)))
     ·clear h; refine W.pk (.M Z (.C (.b t91) [] 0 (lombardref04_letter.ok b92) ca116 Z (cI .nil) Z ?_)); refine .V Z (OpL.unV Z Z Z) (.M Z ?_); rcases tf t91 with g97 | g97
      ·(iterate 3 refine .X Z (notT g97) ?_); (iterate 8 refine .x Z (unmetU Z Z Z) ?_); exact .X Z (notT g97) (.E (notT g97) Z (.nil (toN (Gm [] (.r Z Z (.r Z Z (.r Z Z (.r Z Z (.r Z Z (.c Z (sbb (by simp only [g97, BL])) Z .n)))))) (.e Z Z) Z))))
      ·refine .N Z (notF g97) (.G Z (notF g97) Z (.N Z (notF g97) ?_)); rcases tf (v30 == 0) with g98 | g98
       ·(iterate 4 refine .X Z g98 ?_); (iterate 3 refine .x Z (unmetU Z Z Z) ?_); exact .X Z g98 (.U Z (notF g97) (O.pickT g98 Z Z Z) (.T (notF g97) Z (.nil (toN (Gm [] (.r Z Z (.r Z Z (.r Z Z (.r Z Z (.r Z Z (.c Z (sbb (by simp only [g97, g98, BL])) Z .n)))))) (.e Z Z) Z)))))
       ·refine .N Z g98 (.call (.b t93) [] 0 (lombardref04_digit.ok ((if_pos ⟨(by simp only [g97, g98, BL]), (by simp only [g97, g98, BL])⟩).symm.trans b94)) Z (met Z Z Z g98) Z ca117 Z Z (cI .nil) Z Z Z Z Z ?_); refine .U Z g98 (OpL.unV Z Z Z) (.N Z g98 ?_); rcases tf t93 with g99 | g99
        ·(iterate 3 refine .X Z (notT g99) ?_); exact .U Z g98 (O.pickF (notT g99) Z Z Z) (.U Z (notF g97) (O.pickF g98 Z Z Z) (.T (notF g97) Z (.nil (toN (Gm [] (.r Z Z (.r Z Z (.r Z Z (.r Z Z (.r Z Z (.c Z (sbb (by simp only [g97, g98, g99, BL])) Z .n)))))) (.e Z Z) Z)))))
        ·refine .N Z (notF g99) (.call (.b t95) [] 0 (lombardref04_joint.ok ((if_pos ⟨(by simp only [g97, g98, g99, BL]), (by simp only [g97, g98, g99, BL]), (by simp only [g97, g98, g99, BL])⟩).symm.trans b96)) Z (met Z Z Z (notF g99)) Z ca118 Z Z (cI .nil) Z Z Z Z Z ?_); exact .U Z (notF g99) (OpL.unV Z Z Z) (.U Z g98 (O.pickT (notF g99) Z Z Z) (.U Z (notF g97) (O.pickF g98 Z Z Z) (.T (notF g97) Z (.nil (toN (Gm [] (.r Z Z (.r Z Z (.r Z Z (.r Z Z (.r Z Z (.c Z (sbb (by simp only [g97, g98, g99, BL])) Z .n)))))) (.e Z Z) Z))))))
   ·refine W.exit ?_; cases h; refine rdX fun e_ => ?_; subst e_; (repeat with_reducible refine thru ?_); exact hit (fkN (Gm [] (.e Z Z) (.r Z Z Z .n) Z))
  ·intro w83 e_; subst e_; clear h; have h := z86; dsimp only at h; refine W.seq (W.seq ?_); obtain ⟨c114, h⟩ := chk h; refine W.fork (mkSt [(0, some (.s x0)), (100, some (.b (((List.length t2.1 : Int) == 0) || ((nth t2.1 (IntKind.wrap .i64 ((List.length t2.1 : Int) - 1))) == 32))))] [] 1002) ?_ ?_
   ·refine W.cnd Z h (fun q116 h => ?_) (fun q116 h => ?_)
    ·refine W.seq (W.pk (.M Z (.V Z (O.lenS u9 Z Z) (.A Z (.A Z (.nil (W.ret ?_))))))); cases h; exact leaves (.inr Z) Z (.tup _ _ _ _ (cI (cI .nil))) (cN .nil) Z Z
    ·refine W.skip (W.seq (W.pk (.M Z (.V Z (O.lenS u9 Z Z) (.A Z (.A Z (.nil (W.ret ?_)))))))); cases h; exact leaves (.inr Z) Z (.tup _ _ _ _ (cI (cI .nil))) (cN .nil) Z Z
   ·clear h; refine W.pk (.M Z (.V Z (O.lenO sl25 Z Z Z) (.B Z (.M Z ?_)))); rcases tf ((List.length t2.1 : Int) == 0) with g115 | g115
    ·(iterate 7 refine .X Z g115 ?_); exact .T g115 Z (.nil (toN (Gm [] (.r Z Z (.c Z (sbb (by simp only [g115, BL])) Z .n)) .n Z)))
    ·refine .N Z g115 (.N Z g115 (.U Z g115 (O.lenO sl25 Z Z Z) (.G Z g115 Z (.U Z g115 (O.idxO sl25 (c114 (by simp only [g115, BL])) Z Z Z Z) ?_)))); refine .U Z g115 (O.ldE (c := (.val (.int .i64 (nth t2.1 (IntKind.wrap .i64 ((List.length t2.1 : Int) - 1)))))) ty3 (c114 (by simp only [g115, BL])) Z Z Z Z Z) ?_; exact .G Z g115 Z (.E g115 Z (.nil (toN (Gm [] (.r Z Z (.c Z (sbb (by simp only [g115, BL])) Z .n)) .n Z))))
noncomputable def lombardref10_signed.f (x0 : Int) : Option (Bool) :=
 (lombardref10_Amount.f x0).bind fun t1 =>
 some (t1 || ((decide (x0 < 0)) && (decide (x0 ≥ (-1125899906842624)))))
theorem lombardref10_signed.ok {x0 : Int} {r : Bool} (h : lombardref10_signed.f x0 = some r) : Pm.Spec prog 101 [.imm (.val (.int .i64 x0))] (.imm (.val (.bool r))) [none] := by
 unfold lombardref10_signed.f at h; refine Pm.Spec.of_body Tryz.func101 Z (by kernel_rfl) (L Z) (L Z) ?_; refine W.ghost (σ' := (mkSt [(0, some (.i x0))] [] 1000)) (Gives.entry (.c Z .n) .n) (W.seq (W.pk (.A Z (.nil (W.seq ?_))))); obtain ⟨t1, b2, h⟩ := bnd1 h; refine W.fork (mkSt [(2, some (.b (t1 || ((decide (x0 < 0)) && (decide (x0 ≥ (-1125899906842624)))))))] [] 1000) ?_ ?_
 ·refine W.ret ?_; cases h; exact lv Z Z
 ·clear h; refine W.pk (.M Z (.C (.b t1) [] 0 (lombardref10_Amount.ok b2) ca98 Z (cI .nil) Z ?_)); refine .M Z ?_; rcases tf t1 with g3 | g3
  ·refine .X Z g3 (.X Z g3 (.X Z g3 ?_)); (iterate 2 refine .x Z (unmetU Z Z Z) ?_); exact .X Z g3 (.T g3 Z (.A Z (.nil (toN (Gm [] (.c Z (sbb (by simp only [g3, BL])) Z .n) .n Z)))))
  ·refine .N Z g3 (.G Z g3 Z (.N Z g3 ?_)); rcases tf (decide (x0 < 0)) with g4 | g4
   ·exact .N Z g4 (.G Z g4 Z (.U Z g3 (O.pickT g4 Z Z Z) (.E g3 Z (.A Z (.nil (toN (Gm [] (.c Z (sbb (by simp only [g3, g4, BL])) Z .n) .n Z)))))))
   ·exact .X Z g4 (.X Z g4 (.U Z g3 (O.pickF g4 Z Z Z) (.E g3 Z (.A Z (.nil (toN (Gm [] (.c Z (sbb (by simp only [g3, g4, BL])) Z .n) .n Z)))))))
noncomputable def lombardref10_Lot.f (x0 : api_Lot) : Option (Int) :=
 (lombardref10_Amount.f x0.Qty).bind fun t1 =>
 if (!t1) = true then
 some 1
 else (lombardref05_Check.f x0.ISIN).bind fun t4 =>
 some t4
theorem lombardref10_Lot.ok {x0 : api_Lot} {r : Int} (h : lombardref10_Lot.f x0 = some r) : Pm.Spec prog 102 [.agg [.imm (.val (.string (tx x0.ISIN))), .imm (.val (.int .i64 x0.Qty))]] (.imm (.val (.int .i64 r))) [none] := by
 unfold lombardref10_Lot.f at h; refine Pm.Spec.of_body Tryz.func102 Z (by kernel_rfl) (L Z) (L Z) ?_; refine W.ghost (σ' := (mkSt [(0, some (.agg [.s x0.ISIN, .i x0.Qty]))] [] 1000)) (Gives.entry (.c Z .n) .n) (W.seq (W.pk (.t Z Z (O.box Z Z Z Z Z) (.A Z (.nil (W.seq (W.seq ?_))))))); obtain ⟨t1, b2, h⟩ := bnd1 h; refine W.pk (.F fld32_1 Z (.V Z (O.ld (y := .i x0.Qty) ty3 Z Z Z) (.C (.b t1) [] 0 (lombardref10_Amount.ok b2) ca98 Z (cI .nil) Z ?_))); refine .V Z (OpL.unV Z Z Z) (.nil (W.cnd Z h (fun q3 h => ?_) (fun q3 h => ?_)))
 ·refine W.seq (W.pk (.A Z (.nil (W.ret ?_)))); cases h; exact lv Z Z
 ·refine W.skip (W.seq ?_); obtain ⟨t4, b5, h⟩ := bnd1 h; refine W.pk (.F fld32_0 Z (.V Z (O.ld (y := .s x0.ISIN) ty9 Z Z Z) (.C (.i t4) [] 0 (lombardref05_Check.ok b5) ca96 Z (cI .nil) Z ?_))); refine .A Z (.nil (W.ret ?_)); cases h; exact lv Z Z
noncomputable def lombardref10_rest.b0 (x0 : lombardref10_Msg) (v57 : Int) (v58 : Int) : Option ((Int × Int) ⊕ Int) :=
 if ((decide (v58 < (List.length x0.In : Int))) && (v57 == 0)) = true then
 if (0 : Int) ≤ v58 ∧ v58 < (List.length x0.In : Int) then
 (lombardref10_Lot.f (nth x0.In v58)).bind fun t76 =>
 some (.inl (t76, (IntKind.wrap .i64 (v58 + 1))))
 else none
 else some (.inr v57)
noncomputable def lombardref10_rest.r0 (x0 : lombardref10_Msg) (s : Int × Int) : Option ((Int × Int) ⊕ Int) := lombardref10_rest.b0 x0 s.1 s.2
noncomputable def lombardref10_rest.f (x0 : lombardref10_Msg) : Option (Int) :=
 if (x0.Kind == 1) = true then
 (lombardref04_Check.f x0.Name).bind fun t2 =>
 some t2.2
 else (if ((x0.Kind == 6) || (x0.Kind == 7)) = true then lombardref10_signed.f x0.N else some default).bind fun t4 =>
 (if (((x0.Kind == 6) || (x0.Kind == 7)) && (!t4)) = false ∧ (x0.Kind == 9) = true then lombardref10_Amount.f x0.N else some default).bind fun t6 =>
 (if ((((x0.Kind == 6) || (x0.Kind == 7)) && (!t4)) || ((x0.Kind == 9) && (!t6))) = false ∧ (x0.Kind == 14) = true then lombardref10_in.f x0.N 0 1125899906842624 else some default).bind fun t8 =>
 if (((((x0.Kind == 6) || (x0.Kind == 7)) && (!t4)) || ((x0.Kind == 9) && (!t6))) || ((x0.Kind == 14) && (!t8))) = true then
 some 1
 else (if (((x0.Kind == 10) || (x0.Kind == 11)) || (x0.Kind == 15)) = true then lombardref10_Amount.f x0.Trade else some default).bind fun t27 =>
 (if ((((x0.Kind == 10) || (x0.Kind == 11)) || (x0.Kind == 15)) && (!t27)) = false ∧ (x0.Kind == 15) = true then lombardref10_in.f x0.Rate (-1000000) 1000000 else some default).bind fun t29 =>
 if (((((x0.Kind == 10) || (x0.Kind == 11)) || (x0.Kind == 15)) && (!t27)) || ((x0.Kind == 15) && (!t29))) = true then
 some 1
 else if (x0.Kind == 7) = true then
 (lombardref05_Check.f x0.Text).bind fun t41 =>
 some t41
 else if (((x0.Kind == 10) || (x0.Kind == 12)) || (x0.Kind == 15)) = true then
 (lombardref10_day.f x0.Day).bind fun t46 =>
 some t46
 else if (x0.Kind == 11) = true then
 if (decide ((List.length x0.In : Int) > 64)) = true then
 some 1
 else (lombardref10_Lot.f x0.Out).bind fun t50 =>
 (loop (lombardref10_rest.r0 x0) (t50, 0)).bind fun o70 =>
 some o70
 else some 0
theorem lombardref10_rest.ok {x0 : lombardref10_Msg} {r : Int} (h : lombardref10_rest.f x0 = some r) : Pm.Spec prog 59 [.agg (im (lombardref10_Msg.enc x0))] (.imm (.val (.int .i64 r))) [none] := by
 unfold lombardref10_rest.f at h; refine Pm.Spec.of_body Tryz.func59 Z (by kernel_rfl) (L Z) (L Z) ?_; refine W.ghost (σ' := (mkSt [(0, some (.agg (lombardref10_Msg.av x0)))] [] 1000)) (Gives.entry (.c Z .n) .n) (W.seq (W.pk (.t Z Z (O.box Z Z Z Z Z) (.A Z (.nil (W.seq (W.seq (W.pk (.F fld35_0 Z (.V Z (O.ld (y := .i x0.Kind) ty3 Z Z Z) (.B Z ?_))))))))))); refine .nil (W.cnd Z h (fun q1 h => ?_) (fun q1 h => ?_))
 ·refine W.seq ?_; obtain ⟨t2, b3, h⟩ := bnd1 h; refine W.pk (.F fld35_2 Z (.V Z (O.ld (y := .s x0.Name) ty9 Z Z Z) (.C (.tup [.i t2.1, .i t2.2]) [] 0 (lombardref04_Check.ok b3) ca100 Z (cI .nil) Z ?_))); refine .M Z ?_; (iterate 2 refine .V Z (OpL.extract Z Z Z) ?_); refine .A Z (.A Z (.nil (W.seq (W.pk (.M Z (.A Z (.nil (W.ret ?_)))))))); cases h; exact lv Z Z
 ·refine W.skip (W.seq (W.seq ?_)); obtain ⟨t4, b5, h⟩ := bnd1 h; obtain ⟨t6, b7, h⟩ := bnd1 h; obtain ⟨t8, b9, h⟩ := bnd1 h; refine W.fork (mkSt [(1, some (.ptr 1000 0)), (52, some (.b (((((x0.Kind == 6) || (x0.Kind == 7)) && (!t4)) || ((x0.Kind == 9) && (!t6))) || ((x0.Kind == 14) && (!t8)))))] [(1000, some (.box (lombardref10_Msg.av x0)))] 1001) ?_ ?_
  ·refine W.cnd Z h (fun q26 h => ?_) (fun q26 h => ?_)
   ·refine W.seq (W.pk (.A Z (.nil (W.ret ?_)))); cases h; exact lv Z Z
   ·refine W.skip (W.seq (W.seq ?_)); obtain ⟨t27, b28, h⟩ := bnd1 h; obtain ⟨t29, b30, h⟩ := bnd1 h; refine W.fork (mkSt [(1, some (.ptr 1000 0)), (82, some (.b (((((x0.Kind == 10) || (x0.Kind == 11)) || (x0.Kind == 15)) && (!t27)) || ((x0.Kind == 15) && (!t29)))))] [(1000, some (.box (lombardref10_Msg.av x0)))] 1001) ?_ ?_
    ·refine W.cnd Z h (fun q39 h => ?_) (fun q39 h => ?_)
     ·refine W.seq (W.pk (.A Z (.nil (W.ret ?_)))); cases h; exact lv Z Z
     ·refine W.skip (W.seq (W.seq (W.pk (.F fld35_0 Z (.V Z (O.ld (y := .i x0.Kind) ty3 Z Z Z) (.B Z (.nil (W.cnd Z h (fun q40 h => ?_) (fun q40 h => ?_)))))))))
      ·refine W.seq ?_; obtain ⟨t41, b42, h⟩ := bnd1 h; refine W.pk (.F fld35_7 Z (.V Z (O.ld (y := .s x0.Text) ty9 Z Z Z) (.C (.i t41) [] 0 (lombardref05_Check.ok b42) ca96 Z (cI .nil) Z ?_))); refine .A Z (.nil (W.ret ?_)); cases h; exact lv Z Z
      ·refine W.skip (W.seq (W.seq (W.fork (mkSt [(1, some (.ptr 1000 0)), (101, some (.b (((x0.Kind == 10) || (x0.Kind == 12)) || (x0.Kind == 15))))] [(1000, some (.box (lombardref10_Msg.av x0)))] 1001) ?_ ?_)))
       ·refine W.cnd Z h (fun q45 h => ?_) (fun q45 h => ?_)
        ·refine W.seq ?_; obtain ⟨t46, b47, h⟩ := bnd1 h; refine W.pk (.F fld35_6 Z (.V Z (O.ld (y := .i x0.Day) ty3 Z Z Z) (.C (.i t46) [] 0 (lombardref10_day.ok b47) ca55 Z (cI .nil) Z ?_))); refine .A Z (.nil (W.ret ?_)); cases h; exact lv Z Z
        ·refine W.skip (W.seq (W.seq (W.pk (.F fld35_0 Z (.V Z (O.ld (y := .i x0.Kind) ty3 Z Z Z) (.B Z (.nil (W.cnd Z h (fun q48 h => ?_) (fun q48 h => ?_)))))))))
         ·refine W.seq (W.seq (W.pk (.F fld35_11 Z (.V Z (O.ld (y := .imm (.row 2 (List.map api_Lot.enc x0.In))) ty33 Z Z Z) (.V Z (O.lenR sl33 Z Z) (.B Z (.nil (W.cnd Z h (fun q49 h => ?_) (fun q49 h => ?_)))))))))
          ·refine W.seq (W.pk (.A Z (.nil (W.ret ?_)))); cases h; exact lv Z Z
          ·refine W.skip (W.seq ?_); obtain ⟨t50, b51, h⟩ := bnd1 h; refine W.pk (.F fld35_10 Z (.V Z (O.ldN ty32 Z Z Z) (.C (.i t50) [] 0 (lombardref10_Lot.ok b51) ca102 Z (cC (.agg _ _ _ _ (cI (cI .nil))) .nil) Z ?_))); refine .A Z (.nil (W.seq (W.seq (W.pk (.A Z (.nil ?_)))))); obtain ⟨o70, b71, h⟩ := bnd1 h; refine W.fork (mkSt [(5, some (.i o70))] [] 1001) ?_ ?_
           ·refine W.seq (W.pk (.M Z (.A Z (.nil (W.ret ?_))))); cases h; exact lv Z Z
           ·clear h; refine W.block (W.loopF (fun (s_ : Int × Int) => mkSt [(1, some (.ptr 1000 0)), (5, some (.i s_.1)), (6, some (.i s_.2))] [(1000, some (.box (lombardref10_Msg.av x0)))] 1001) b71 (Gm [] (.e Z Z) (.r Z Z Z .n) Z) ?_); rintro ⟨v57, v58⟩ s_ hr; have h : lombardref10_rest.b0 x0 v57 v58 = some s_ := hr; unfold lombardref10_rest.b0 at h; refine W.seq (W.seq (W.fork (mkSt [(1, some (.ptr 1000 0)), (5, some (.i v57)), (6, some (.i v58)), (123, some (.b ((decide (v58 < (List.length x0.In : Int))) && (v57 == 0))))] [(1000, some (.box (lombardref10_Msg.av x0)))] 1001) ?_ ?_))
            ·refine W.cnd Z h (fun q74 h => ?_) (fun q74 h => ?_)
             ·refine W.skip (W.seq (W.block ?_)); obtain ⟨c75, h⟩ := chk h; obtain ⟨t76, b77, h⟩ := bnd1 h; refine W.pk (.F fld35_11 Z (.V Z (O.ld (y := .imm (.row 2 (List.map api_Lot.enc x0.In))) ty33 Z Z Z) (.M Z (.V Z (O.idx sl33 c75 Z Z Z) (.V Z (O.ldN ty32 Z Z Z) (.C (.i t76) [] 0 (lombardref10_Lot.ok b77) ca102 Z (cC (.agg _ _ _ _ (cI (cI .nil))) .nil) Z ?_)))))); refine .A Z (.nil (W.pk (.M Z (.B Z (.A Z (.nil ?_)))))); cases h; exact rdN (Gm [] (.e Z Z) (.r Z Z Z .n) Z)
             ·refine W.exit ?_; cases h; refine rdX fun e_ => ?_; subst e_; (repeat with_reducible refine thru ?_); exact hit (toN (Gm [] (.r Z Z .n) .n Z))
            ·clear h; refine W.pk (.M Z (.F fld35_11 Z (.V Z (O.ld (y := .imm (.row 2 (List.map api_Lot.enc x0.In))) ty33 Z Z Z) (.V Z (O.lenR sl33 Z Z) (.B Z (.M Z ?_)))))); rcases tf (decide (v58 < (List.length x0.In : Int))) with g73 | g73
             ·exact .N Z g73 (.G Z g73 Z (.T g73 Z (.nil (toN (Gm [] (.r Z Z (.r Z Z (.r Z Z (.c Z (sbb (by simp only [g73, BL])) Z .n)))) (.r Z Z Z .n) Z)))))
             ·exact .X Z g73 (.X Z g73 (.E g73 Z (.nil (toN (Gm [] (.r Z Z (.r Z Z (.r Z Z (.c Z (sbb (by simp only [g73, BL])) Z .n)))) (.r Z Z Z .n) Z)))))
         ·refine W.skip (W.seq (W.pk (.A Z (.nil (W.ret ?_))))); cases h; exact lv Z Z
       ·clear h; refine W.pk (.F fld35_0 Z (.V Z (O.ld (y := .i x0.Kind) ty3 Z Z Z) (.B Z (.M Z ?_)))); rcases tf (x0.Kind == 10) with g43 | g43
        ·(iterate 3 refine .X Z g43 ?_); exact .T g43 Z (.M Z (.X Z Z (.X Z Z (.X Z Z (.T Z Z (.nil (toN (Gm [] (.r Z Z (.c Z (sbb (by simp only [g43, BL])) Z .n)) (.r Z Z Z .n) Z))))))))
        ·refine .H fld35_0 Z g43 Z (.U Z g43 (O.ld (y := .i x0.Kind) ty3 Z Z Z) (.G Z g43 Z (.E g43 Z (.M Z ?_)))); rcases tf (x0.Kind == 12) with g44 | g44
         ·(iterate 3 refine .X Z g44 ?_); exact .T g44 Z (.nil (toN (Gm [] (.r Z Z (.c Z (sbb (by simp only [g43, g44, BL])) Z .n)) (.r Z Z Z .n) Z)))
         ·exact .H fld35_0 Z g44 Z (.U Z g44 (O.ld (y := .i x0.Kind) ty3 Z Z Z) (.G Z g44 Z (.E g44 Z (.nil (toN (Gm [] (.r Z Z (.c Z (sbb (by simp only [g43, g44, BL])) Z .n)) (.r Z Z Z .n) Z))))))
    ·clear h; refine W.pk (.F fld35_0 Z (.V Z (O.ld (y := .i x0.Kind) ty3 Z Z Z) (.B Z (.M Z ?_)))); rcases tf (x0.Kind == 10) with g31 | g31
     ·(iterate 3 refine .X Z g31 ?_); refine .T g31 Z (.M Z (.X Z Z (.X Z Z (.X Z Z (.T Z Z (.M Z (.H fld35_12 Z Z Z (.U Z Z (O.ld (y := .i x0.Trade) ty3 Z Z Z) (.call (.b t27) [] 0 (lombardref10_Amount.ok ((if_pos (by simp only [g31, BL])).symm.trans b28)) Z (met Z Z Z Z) Z ca98 Z Z (cI .nil) Z Z Z Z Z ?_))))))))); refine .U Z Z (OpL.unV Z Z Z) (.T Z Z (.M Z ?_)); rcases tf t27 with g32 | g32
      ·refine .H fld35_0 Z (notT g32) Z (.U Z (notT g32) (O.ld (y := .i x0.Kind) ty3 Z Z Z) (.G Z (notT g32) Z (.N Z (notT g32) ?_))); rcases tf (x0.Kind == 15) with g33 | g33
       ·refine .H fld35_14 Z g33 Z (.U Z g33 (O.ld (y := .i x0.Rate) ty3 Z Z Z) (.call (.b t29) [] 0 (lombardref10_in.ok ((if_pos ⟨(by simp only [g31, g32, g33, BL]), (by simp only [g31, g32, g33, BL])⟩).symm.trans b30)) Z (met Z Z Z g33) Z ca97 Z Z (cI (cI (cI .nil))) Z Z Z Z Z ?_)); exact .U Z g33 (OpL.unV Z Z Z) (.U Z (notT g32) (O.pickT g33 Z Z Z) (.E (notT g32) Z (.nil (toN (Gm [] (.r Z Z (.c Z (sbb (by simp only [g31, g32, g33, BL])) Z .n)) (.r Z Z Z .n) Z)))))
       ·(iterate 4 refine .X Z g33 ?_); exact .U Z (notT g32) (O.pickF g33 Z Z Z) (.E (notT g32) Z (.nil (toN (Gm [] (.r Z Z (.c Z (sbb (by simp only [g31, g32, g33, BL])) Z .n)) (.r Z Z Z .n) Z))))
      ·(iterate 4 refine .X Z (notF g32) ?_); (iterate 4 refine .x Z (unmetU Z Z Z) ?_); exact .X Z (notF g32) (.T (notF g32) Z (.nil (toN (Gm [] (.r Z Z (.c Z (sbb (by simp only [g31, g32, BL])) Z .n)) (.r Z Z Z .n) Z))))
     ·refine .H fld35_0 Z g31 Z (.U Z g31 (O.ld (y := .i x0.Kind) ty3 Z Z Z) (.G Z g31 Z (.E g31 Z (.M Z ?_)))); rcases tf (x0.Kind == 11) with g34 | g34
      ·(iterate 3 refine .X Z g34 ?_); refine .T g34 Z (.M Z (.H fld35_12 Z Z Z (.U Z Z (O.ld (y := .i x0.Trade) ty3 Z Z Z) (.call (.b t27) [] 0 (lombardref10_Amount.ok ((if_pos (by simp only [g31, g34, BL])).symm.trans b28)) Z (met Z Z Z Z) Z ca98 Z Z (cI .nil) Z Z Z Z Z ?_)))); refine .U Z Z (OpL.unV Z Z Z) (.T Z Z (.M Z ?_)); rcases tf t27 with g35 | g35
       ·refine .H fld35_0 Z (notT g35) Z (.U Z (notT g35) (O.ld (y := .i x0.Kind) ty3 Z Z Z) (.G Z (notT g35) Z (.N Z (notT g35) ?_))); rcases tf (x0.Kind == 15) with g36 | g36
        ·refine .H fld35_14 Z g36 Z (.U Z g36 (O.ld (y := .i x0.Rate) ty3 Z Z Z) (.call (.b t29) [] 0 (lombardref10_in.ok ((if_pos ⟨(by simp only [g31, g34, g35, g36, BL]), (by simp only [g31, g34, g35, g36, BL])⟩).symm.trans b30)) Z (met Z Z Z g36) Z ca97 Z Z (cI (cI (cI .nil))) Z Z Z Z Z ?_)); exact .U Z g36 (OpL.unV Z Z Z) (.U Z (notT g35) (O.pickT g36 Z Z Z) (.E (notT g35) Z (.nil (toN (Gm [] (.r Z Z (.c Z (sbb (by simp only [g31, g34, g35, g36, BL])) Z .n)) (.r Z Z Z .n) Z)))))
        ·(iterate 4 refine .X Z g36 ?_); exact .U Z (notT g35) (O.pickF g36 Z Z Z) (.E (notT g35) Z (.nil (toN (Gm [] (.r Z Z (.c Z (sbb (by simp only [g31, g34, g35, g36, BL])) Z .n)) (.r Z Z Z .n) Z))))
       ·(iterate 4 refine .X Z (notF g35) ?_); (iterate 4 refine .x Z (unmetU Z Z Z) ?_); exact .X Z (notF g35) (.T (notF g35) Z (.nil (toN (Gm [] (.r Z Z (.c Z (sbb (by simp only [g31, g34, g35, BL])) Z .n)) (.r Z Z Z .n) Z))))
      ·refine .H fld35_0 Z g34 Z (.U Z g34 (O.ld (y := .i x0.Kind) ty3 Z Z Z) (.G Z g34 Z (.E g34 Z (.M Z ?_)))); rcases tf (x0.Kind == 15) with g37 | g37
       ·refine .H fld35_12 Z g37 Z (.U Z g37 (O.ld (y := .i x0.Trade) ty3 Z Z Z) (.call (.b t27) [] 0 (lombardref10_Amount.ok ((if_pos (by simp only [g31, g34, g37, BL])).symm.trans b28)) Z (met Z Z Z g37) Z ca98 Z Z (cI .nil) Z Z Z Z Z ?_)); refine .U Z g37 (OpL.unV Z Z Z) (.T g37 Z (.M Z ?_)); rcases tf t27 with g38 | g38
        ·refine .H fld35_0 Z (notT g38) Z (.U Z (notT g38) (O.ld (y := .i x0.Kind) ty3 Z Z Z) (.G Z (notT g38) Z (.N Z (notT g38) (.H fld35_14 Z g37 Z (.U Z g37 (O.ld (y := .i x0.Rate) ty3 Z Z Z) (.call (.b t29) [] 0 (lombardref10_in.ok ((if_pos ⟨(by simp only [g31, g34, g37, g38, BL]), (by simp only [g31, g34, g37, g38, BL])⟩).symm.trans b30)) Z (met Z Z Z g37) Z ca97 Z Z (cI (cI (cI .nil))) Z Z Z Z Z ?_)))))); exact .U Z g37 (OpL.unV Z Z Z) (.U Z (notT g38) (O.pickT g37 Z Z Z) (.E (notT g38) Z (.nil (toN (Gm [] (.r Z Z (.c Z (sbb (by simp only [g31, g34, g37, g38, BL])) Z .n)) (.r Z Z Z .n) Z)))))
        ·(iterate 4 refine .X Z (notF g38) ?_); (iterate 4 refine .x Z (unmetU Z Z Z) ?_); exact .X Z (notF g38) (.T (notF g38) Z (.nil (toN (Gm [] (.r Z Z (.c Z (sbb (by simp only [g31, g34, g37, g38, BL])) Z .n)) (.r Z Z Z .n) Z))))
       ·(iterate 4 refine .X Z g37 ?_); refine .E g37 Z (.M Z (.H fld35_0 Z Z Z (.U Z Z (O.ld (y := .i x0.Kind) ty3 Z Z Z) (.G Z Z Z (.N Z Z ?_))))); (iterate 4 refine .X Z g37 ?_); exact .U Z Z (O.pickF g37 Z Z Z) (.E Z Z (.nil (toN (Gm [] (.r Z Z (.c Z (sbb (by simp only [g31, g34, g37, BL])) Z .n)) (.r Z Z Z .n) Z))))
  ·clear h; refine W.pk (.F fld35_0 Z (.V Z (O.ld (y := .i x0.Kind) ty3 Z Z Z) (.B Z (.M Z ?_)))); rcases tf (x0.Kind == 6) with g10 | g10
   ·(iterate 3 refine .X Z g10 ?_); refine .T g10 Z (.M Z (.H fld35_8 Z Z Z (.U Z Z (O.ld (y := .i x0.N) ty3 Z Z Z) (.call (.b t4) [] 0 (lombardref10_signed.ok ((if_pos (by simp only [g10, BL])).symm.trans b5)) Z (met Z Z Z Z) Z ca101 Z Z (cI .nil) Z Z Z Z Z ?_)))); refine .U Z Z (OpL.unV Z Z Z) (.T Z Z (.M Z ?_)); rcases tf t4 with g11 | g11
    ·refine .H fld35_0 Z (notT g11) Z (.U Z (notT g11) (O.ld (y := .i x0.Kind) ty3 Z Z Z) (.G Z (notT g11) Z (.N Z (notT g11) ?_))); rcases tf (x0.Kind == 9) with g12 | g12
     ·refine .H fld35_8 Z g12 Z (.U Z g12 (O.ld (y := .i x0.N) ty3 Z Z Z) (.call (.b t6) [] 0 (lombardref10_Amount.ok ((if_pos ⟨(by simp only [g10, g11, g12, BL]), (by simp only [g10, g11, g12, BL])⟩).symm.trans b7)) Z (met Z Z Z g12) Z ca98 Z Z (cI .nil) Z Z Z Z Z ?_)); refine .U Z g12 (OpL.unV Z Z Z) (.U Z (notT g11) (O.pickT g12 Z Z Z) (.E (notT g11) Z (.M Z ?_))); rcases tf t6 with g13 | g13
      ·refine .H fld35_0 Z (notT g13) Z (.U Z (notT g13) (O.ld (y := .i x0.Kind) ty3 Z Z Z) (.G Z (notT g13) Z (.N Z (notT g13) ?_))); rcases tf (x0.Kind == 14) with g14 | g14
       ·refine .H fld35_8 Z g14 Z (.U Z g14 (O.ld (y := .i x0.N) ty3 Z Z Z) (.call (.b t8) [] 0 (lombardref10_in.ok ((if_pos ⟨(by simp only [g10, g11, g12, g13, g14, BL]), (by simp only [g10, g11, g12, g13, g14, BL])⟩).symm.trans b9)) Z (met Z Z Z g14) Z ca97 Z Z (cI (cI (cI .nil))) Z Z Z Z Z ?_)); exact .U Z g14 (OpL.unV Z Z Z) (.U Z (notT g13) (O.pickT g14 Z Z Z) (.E (notT g13) Z (.nil (toN (Gm [] (.r Z Z (.c Z (sbb (by simp only [g10, g11, g12, g13, g14, BL])) Z .n)) (.r Z Z Z .n) Z)))))
       ·(iterate 4 refine .X Z g14 ?_); exact .U Z (notT g13) (O.pickF g14 Z Z Z) (.E (notT g13) Z (.nil (toN (Gm [] (.r Z Z (.c Z (sbb (by simp only [g10, g11, g12, g13, g14, BL])) Z .n)) (.r Z Z Z .n) Z))))
      ·(iterate 4 refine .X Z (notF g13) ?_); (iterate 4 refine .x Z (unmetU Z Z Z) ?_); exact .X Z (notF g13) (.T (notF g13) Z (.nil (toN (Gm [] (.r Z Z (.c Z (sbb (by simp only [g10, g11, g12, g13, BL])) Z .n)) (.r Z Z Z .n) Z))))
     ·(iterate 4 refine .X Z g12 ?_); refine .U Z (notT g11) (O.pickF g12 Z Z Z) (.E (notT g11) Z (.M Z (.H fld35_0 Z Z Z (.U Z Z (O.ld (y := .i x0.Kind) ty3 Z Z Z) (.G Z Z Z (.N Z Z ?_)))))); rcases tf (x0.Kind == 14) with g15 | g15
      ·refine .H fld35_8 Z g15 Z (.U Z g15 (O.ld (y := .i x0.N) ty3 Z Z Z) (.call (.b t8) [] 0 (lombardref10_in.ok ((if_pos ⟨(by simp only [g10, g11, g12, g15, BL]), (by simp only [g10, g11, g12, g15, BL])⟩).symm.trans b9)) Z (met Z Z Z g15) Z ca97 Z Z (cI (cI (cI .nil))) Z Z Z Z Z ?_)); exact .U Z g15 (OpL.unV Z Z Z) (.U Z Z (O.pickT g15 Z Z Z) (.E Z Z (.nil (toN (Gm [] (.r Z Z (.c Z (sbb (by simp only [g10, g11, g12, g15, BL])) Z .n)) (.r Z Z Z .n) Z)))))
      ·(iterate 4 refine .X Z g15 ?_); exact .U Z Z (O.pickF g15 Z Z Z) (.E Z Z (.nil (toN (Gm [] (.r Z Z (.c Z (sbb (by simp only [g10, g11, g12, g15, BL])) Z .n)) (.r Z Z Z .n) Z))))
    ·(iterate 4 refine .X Z (notF g11) ?_); (iterate 4 refine .x Z (unmetU Z Z Z) ?_); refine .X Z (notF g11) (.T (notF g11) Z (.M Z ?_)); (iterate 4 refine .X Z Z ?_); (iterate 4 refine .x Z (unmetU Z Z Z) ?_); exact .X Z Z (.T Z Z (.nil (toN (Gm [] (.r Z Z (.c Z (sbb (by simp only [g10, g11, BL])) Z .n)) (.r Z Z Z .n) Z))))
   ·refine .H fld35_0 Z g10 Z (.U Z g10 (O.ld (y := .i x0.Kind) ty3 Z Z Z) (.G Z g10 Z (.E g10 Z (.M Z ?_)))); rcases tf (x0.Kind == 7) with g16 | g16
    ·refine .H fld35_8 Z g16 Z (.U Z g16 (O.ld (y := .i x0.N) ty3 Z Z Z) (.call (.b t4) [] 0 (lombardref10_signed.ok ((if_pos (by simp only [g10, g16, BL])).symm.trans b5)) Z (met Z Z Z g16) Z ca101 Z Z (cI .nil) Z Z Z Z Z ?_)); refine .U Z g16 (OpL.unV Z Z Z) (.T g16 Z (.M Z ?_)); rcases tf t4 with g17 | g17
     ·refine .H fld35_0 Z (notT g17) Z (.U Z (notT g17) (O.ld (y := .i x0.Kind) ty3 Z Z Z) (.G Z (notT g17) Z (.N Z (notT g17) ?_))); rcases tf (x0.Kind == 9) with g18 | g18
      ·refine .H fld35_8 Z g18 Z (.U Z g18 (O.ld (y := .i x0.N) ty3 Z Z Z) (.call (.b t6) [] 0 (lombardref10_Amount.ok ((if_pos ⟨(by simp only [g10, g16, g17, g18, BL]), (by simp only [g10, g16, g17, g18, BL])⟩).symm.trans b7)) Z (met Z Z Z g18) Z ca98 Z Z (cI .nil) Z Z Z Z Z ?_)); refine .U Z g18 (OpL.unV Z Z Z) (.U Z (notT g17) (O.pickT g18 Z Z Z) (.E (notT g17) Z (.M Z ?_))); rcases tf t6 with g19 | g19
       ·refine .H fld35_0 Z (notT g19) Z (.U Z (notT g19) (O.ld (y := .i x0.Kind) ty3 Z Z Z) (.G Z (notT g19) Z (.N Z (notT g19) ?_))); rcases tf (x0.Kind == 14) with g20 | g20
        ·refine .H fld35_8 Z g20 Z (.U Z g20 (O.ld (y := .i x0.N) ty3 Z Z Z) (.call (.b t8) [] 0 (lombardref10_in.ok ((if_pos ⟨(by simp only [g10, g16, g17, g18, g19, g20, BL]), (by simp only [g10, g16, g17, g18, g19, g20, BL])⟩).symm.trans b9)) Z (met Z Z Z g20) Z ca97 Z Z (cI (cI (cI .nil))) Z Z Z Z Z ?_)); exact .U Z g20 (OpL.unV Z Z Z) (.U Z (notT g19) (O.pickT g20 Z Z Z) (.E (notT g19) Z (.nil (toN (Gm [] (.r Z Z (.c Z (sbb (by simp only [g10, g16, g17, g18, g19, g20, BL])) Z .n)) (.r Z Z Z .n) Z)))))
        ·(iterate 4 refine .X Z g20 ?_); exact .U Z (notT g19) (O.pickF g20 Z Z Z) (.E (notT g19) Z (.nil (toN (Gm [] (.r Z Z (.c Z (sbb (by simp only [g10, g16, g17, g18, g19, g20, BL])) Z .n)) (.r Z Z Z .n) Z))))
       ·(iterate 4 refine .X Z (notF g19) ?_); (iterate 4 refine .x Z (unmetU Z Z Z) ?_); exact .X Z (notF g19) (.T (notF g19) Z (.nil (toN (Gm [] (.r Z Z (.c Z (sbb (by simp only [g10, g16, g17, g18, g19, BL])) Z .n)) (.r Z Z Z .n) Z))))
      ·(iterate 4 refine .X Z g18 ?_); refine .U Z (notT g17) (O.pickF g18 Z Z Z) (.E (notT g17) Z (.M Z (.H fld35_0 Z Z Z (.U Z Z (O.ld (y := .i x0.Kind) ty3 Z Z Z) (.G Z Z Z (.N Z Z ?_)))))); rcases tf (x0.Kind == 14) with g21 | g21
       ·refine .H fld35_8 Z g21 Z (.U Z g21 (O.ld (y := .i x0.N) ty3 Z Z Z) (.call (.b t8) [] 0 (lombardref10_in.ok ((if_pos ⟨(by simp only [g10, g16, g17, g18, g21, BL]), (by simp only [g10, g16, g17, g18, g21, BL])⟩).symm.trans b9)) Z (met Z Z Z g21) Z ca97 Z Z (cI (cI (cI .nil))) Z Z Z Z Z ?_)); exact .U Z g21 (OpL.unV Z Z Z) (.U Z Z (O.pickT g21 Z Z Z) (.E Z Z (.nil (toN (Gm [] (.r Z Z (.c Z (sbb (by simp only [g10, g16, g17, g18, g21, BL])) Z .n)) (.r Z Z Z .n) Z)))))
       ·(iterate 4 refine .X Z g21 ?_); exact .U Z Z (O.pickF g21 Z Z Z) (.E Z Z (.nil (toN (Gm [] (.r Z Z (.c Z (sbb (by simp only [g10, g16, g17, g18, g21, BL])) Z .n)) (.r Z Z Z .n) Z))))
     ·(iterate 4 refine .X Z (notF g17) ?_); (iterate 4 refine .x Z (unmetU Z Z Z) ?_); refine .X Z (notF g17) (.T (notF g17) Z (.M Z ?_)); (iterate 4 refine .X Z Z ?_); (iterate 4 refine .x Z (unmetU Z Z Z) ?_); exact .X Z Z (.T Z Z (.nil (toN (Gm [] (.r Z Z (.c Z (sbb (by simp only [g10, g16, g17, BL])) Z .n)) (.r Z Z Z .n) Z))))
    ·(iterate 4 refine .X Z g16 ?_); refine .E g16 Z (.M Z (.H fld35_0 Z Z Z (.U Z Z (O.ld (y := .i x0.Kind) ty3 Z Z Z) (.G Z Z Z (.N Z Z ?_))))); rcases tf (x0.Kind == 9) with g22 | g22
     ·refine .H fld35_8 Z g22 Z (.U Z g22 (O.ld (y := .i x0.N) ty3 Z Z Z) (.call (.b t6) [] 0 (lombardref10_Amount.ok ((if_pos ⟨(by simp only [g10, g16, g22, BL]), (by simp only [g10, g16, g22, BL])⟩).symm.trans b7)) Z (met Z Z Z g22) Z ca98 Z Z (cI .nil) Z Z Z Z Z ?_)); refine .U Z g22 (OpL.unV Z Z Z) (.U Z Z (O.pickT g22 Z Z Z) (.E Z Z (.M Z ?_))); rcases tf t6 with g23 | g23
      ·refine .H fld35_0 Z (notT g23) Z (.U Z (notT g23) (O.ld (y := .i x0.Kind) ty3 Z Z Z) (.G Z (notT g23) Z (.N Z (notT g23) ?_))); rcases tf (x0.Kind == 14) with g24 | g24
       ·refine .H fld35_8 Z g24 Z (.U Z g24 (O.ld (y := .i x0.N) ty3 Z Z Z) (.call (.b t8) [] 0 (lombardref10_in.ok ((if_pos ⟨(by simp only [g10, g16, g22, g23, g24, BL]), (by simp only [g10, g16, g22, g23, g24, BL])⟩).symm.trans b9)) Z (met Z Z Z g24) Z ca97 Z Z (cI (cI (cI .nil))) Z Z Z Z Z ?_)); exact .U Z g24 (OpL.unV Z Z Z) (.U Z (notT g23) (O.pickT g24 Z Z Z) (.E (notT g23) Z (.nil (toN (Gm [] (.r Z Z (.c Z (sbb (by simp only [g10, g16, g22, g23, g24, BL])) Z .n)) (.r Z Z Z .n) Z)))))
       ·(iterate 4 refine .X Z g24 ?_); exact .U Z (notT g23) (O.pickF g24 Z Z Z) (.E (notT g23) Z (.nil (toN (Gm [] (.r Z Z (.c Z (sbb (by simp only [g10, g16, g22, g23, g24, BL])) Z .n)) (.r Z Z Z .n) Z))))
      ·(iterate 4 refine .X Z (notF g23) ?_); (iterate 4 refine .x Z (unmetU Z Z Z) ?_); exact .X Z (notF g23) (.T (notF g23) Z (.nil (toN (Gm [] (.r Z Z (.c Z (sbb (by simp only [g10, g16, g22, g23, BL])) Z .n)) (.r Z Z Z .n) Z))))
     ·(iterate 4 refine .X Z g22 ?_); refine .U Z Z (O.pickF g22 Z Z Z) (.E Z Z (.M Z (.H fld35_0 Z Z Z (.U Z Z (O.ld (y := .i x0.Kind) ty3 Z Z Z) (.G Z Z Z (.N Z Z ?_)))))); rcases tf (x0.Kind == 14) with g25 | g25
      ·refine .H fld35_8 Z g25 Z (.U Z g25 (O.ld (y := .i x0.N) ty3 Z Z Z) (.call (.b t8) [] 0 (lombardref10_in.ok ((if_pos ⟨(by simp only [g10, g16, g22, g25, BL]), (by simp only [g10, g16, g22, g25, BL])⟩).symm.trans b9)) Z (met Z Z Z g25) Z ca97 Z Z (cI (cI (cI .nil))) Z Z Z Z Z ?_)); exact .U Z g25 (OpL.unV Z Z Z) (.U Z Z (O.pickT g25 Z Z Z) (.E Z Z (.nil (toN (Gm [] (.r Z Z (.c Z (sbb (by simp only [g10, g16, g22, g25, BL])) Z .n)) (.r Z Z Z .n) Z)))))
      ·(iterate 4 refine .X Z g25 ?_); exact .U Z Z (O.pickF g25 Z Z Z) (.E Z Z (.nil (toN (Gm [] (.r Z Z (.c Z (sbb (by simp only [g10, g16, g22, g25, BL])) Z .n)) (.r Z Z Z .n) Z))))
noncomputable def lombardref10_Check.f (x0 : lombardref10_Msg) : Option (Int) :=
 if (x0.Kind == 2) = true then
 (lombardref05_Asset.f x0.Asset).bind fun t2 =>
 some t2
 else if (x0.Kind == 3) = true then
 (lombardref10_Basket.f x0.Basket).bind fun t5 =>
 some t5
 else if (x0.Kind == 4) = true then
 (lombardref10_prices.f x0.Prices).bind fun t8 =>
 some t8
 else if (x0.Kind == 5) = true then
 (lombardref10_day.f x0.Day).bind fun t11 =>
 some t11
 else (if (x0.Kind == 6) = true then lombardref05_Currency.f x0.Text else some default).bind fun t13 =>
 if ((x0.Kind == 6) && (!t13)) = true then
 some 11
 else (if (x0.Kind == 8) = true then lombardref10_Member.f x0.Quote.Member else some default).bind fun t17 =>
 if ((x0.Kind == 8) && (!t17)) = true then
 some 1
 else if (x0.Kind == 8) = true then
 (lombardref10_Quote.f x0.Quote).bind fun t22 =>
 some t22
 else if ((decide (x0.Kind < 1)) || (decide (x0.Kind > 15))) = true then
 some 17
 else (if (x0.Kind != 15) = true then lombardref10_Member.f x0.Member else some default).bind fun t26 =>
 if ((x0.Kind != 15) && (!t26)) = true then
 some 1
 else (lombardref10_rest.f x0).bind fun t30 =>
 some t30
theorem lombardref10_Check.ok {x0 : lombardref10_Msg} {r : Int} (h : lombardref10_Check.f x0 = some r) : Pm.Spec prog 17 [.agg (im (lombardref10_Msg.enc x0))] (.imm (.val (.int .i64 r))) [none] := by
 unfold lombardref10_Check.f at h; refine Pm.Spec.of_body Tryz.func17 Z (by kernel_rfl) (L Z) (L Z) ?_; refine W.ghost (σ' := (mkSt [(0, some (.agg (lombardref10_Msg.av x0)))] [] 1000)) (Gives.entry (.c Z .n) .n) (W.seq (W.pk (.t Z Z (O.box Z Z Z Z Z) (.A Z (.nil (W.seq (W.seq (W.pk (.F fld35_0 Z (.V Z (O.ld (y := .i x0.Kind) ty3 Z Z Z) (.B Z ?_))))))))))); refine .nil (W.cnd Z h (fun q1 h => ?_) (fun q1 h => ?_))
 ·refine W.seq ?_; obtain ⟨t2, b3, h⟩ := bnd1 h; refine W.pk (.F fld35_3 Z (.V Z (O.ldN ty23 Z Z Z) (.C (.i t2) [] 0 (lombardref05_Asset.ok b3) ca52 Z (cC (.agg _ _ _ _ (cI (cI (cI (cI (cI .nil)))))) .nil) Z ?_))); refine .A Z (.nil (W.ret ?_)); cases h; exact lv Z Z
 ·refine W.skip (W.seq (W.seq (W.pk (.F fld35_0 Z (.V Z (O.ld (y := .i x0.Kind) ty3 Z Z Z) (.B Z (.nil (W.cnd Z h (fun q4 h => ?_) (fun q4 h => ?_)))))))))
  ·refine W.seq ?_; obtain ⟨t5, b6, h⟩ := bnd1 h; refine W.pk (.F fld35_4 Z (.V Z (O.ldN ty27 Z Z Z) (.C (.i t5) [] 0 (lombardref10_Basket.ok b6) ca53 Z (cC (.agg _ _ _ _ (cI (cI (cI (cI (cI (cI (cI (cI (cI (cI .nil))))))))))) .nil) Z ?_))); refine .A Z (.nil (W.ret ?_)); cases h; exact lv Z Z
  ·refine W.skip (W.seq (W.seq (W.pk (.F fld35_0 Z (.V Z (O.ld (y := .i x0.Kind) ty3 Z Z Z) (.B Z (.nil (W.cnd Z h (fun q7 h => ?_) (fun q7 h => ?_)))))))))
   ·refine W.seq ?_; obtain ⟨t8, b9, h⟩ := bnd1 h; refine W.pk (.F fld35_5 Z (.V Z (O.ld (y := .imm (.row 2 (List.map api_Price.enc x0.Prices))) ty28 Z Z Z) (.C (.i t8) [] 0 (lombardref10_prices.ok b9) ca54 Z (cI .nil) Z ?_))); refine .A Z (.nil (W.ret ?_)); cases h; exact lv Z Z
   ·refine W.skip (W.seq (W.seq (W.pk (.F fld35_0 Z (.V Z (O.ld (y := .i x0.Kind) ty3 Z Z Z) (.B Z (.nil (W.cnd Z h (fun q10 h => ?_) (fun q10 h => ?_)))))))))
    ·refine W.seq ?_; obtain ⟨t11, b12, h⟩ := bnd1 h; refine W.pk (.F fld35_6 Z (.V Z (O.ld (y := .i x0.Day) ty3 Z Z Z) (.C (.i t11) [] 0 (lombardref10_day.ok b12) ca55 Z (cI .nil) Z ?_))); refine .A Z (.nil (W.ret ?_)); cases h; exact lv Z Z
    ·refine W.skip (W.seq (W.seq ?_)); obtain ⟨t13, b14, h⟩ := bnd1 h; refine W.fork (mkSt [(1, some (.ptr 1000 0)), (35, some (.b ((x0.Kind == 6) && (!t13))))] [(1000, some (.box (lombardref10_Msg.av x0)))] 1001) ?_ ?_
     ·refine W.cnd Z h (fun q16 h => ?_) (fun q16 h => ?_)
      ·refine W.seq (W.pk (.A Z (.nil (W.ret ?_)))); cases h; exact lv Z Z
      ·refine W.skip (W.seq (W.seq ?_)); obtain ⟨t17, b18, h⟩ := bnd1 h; refine W.fork (mkSt [(1, some (.ptr 1000 0)), (45, some (.b ((x0.Kind == 8) && (!t17))))] [(1000, some (.box (lombardref10_Msg.av x0)))] 1001) ?_ ?_
       ·refine W.cnd Z h (fun q20 h => ?_) (fun q20 h => ?_)
        ·refine W.seq (W.pk (.A Z (.nil (W.ret ?_)))); cases h; exact lv Z Z
        ·refine W.skip (W.seq (W.seq (W.pk (.F fld35_0 Z (.V Z (O.ld (y := .i x0.Kind) ty3 Z Z Z) (.B Z (.nil (W.cnd Z h (fun q21 h => ?_) (fun q21 h => ?_)))))))))
         ·refine W.seq ?_; obtain ⟨t22, b23, h⟩ := bnd1 h; refine W.pk (.F fld35_9 Z (.V Z (O.ldN ty30 Z Z Z) (.C (.i t22) [] 0 (lombardref10_Quote.ok b23) ca58 Z (cC (.agg _ _ _ _ (cI (cI (cI (cI (cI (cI (cI (cI .nil))))))))) .nil) Z ?_))); refine .A Z (.nil (W.ret ?_)); cases h; exact lv Z Z
         ·refine W.skip (W.seq (W.seq (W.fork (mkSt [(1, some (.ptr 1000 0)), (59, some (.b ((decide (x0.Kind < 1)) || (decide (x0.Kind > 15)))))] [(1000, some (.box (lombardref10_Msg.av x0)))] 1001) ?_ ?_)))
          ·refine W.cnd Z h (fun q25 h => ?_) (fun q25 h => ?_)
           ·refine W.seq (W.pk (.A Z (.nil (W.ret ?_)))); cases h; exact lv Z Z
           ·refine W.skip (W.seq (W.seq ?_)); obtain ⟨t26, b27, h⟩ := bnd1 h; refine W.fork (mkSt [(1, some (.ptr 1000 0)), (68, some (.b ((x0.Kind != 15) && (!t26))))] [(1000, some (.box (lombardref10_Msg.av x0)))] 1001) ?_ ?_
            ·refine W.cnd Z h (fun q29 h => ?_) (fun q29 h => ?_)
             ·refine W.seq (W.pk (.A Z (.nil (W.ret ?_)))); cases h; exact lv Z Z
             ·refine W.skip (W.seq ?_); obtain ⟨t30, b31, h⟩ := bnd1 h; refine W.pk (.V Z (O.ldN ty35 Z Z Z) (.C (.i t30) [] 0 (lombardref10_rest.ok b31) ca59 Z (cC (.agg _ _ _ _ (cI (cI (cI (cI (cI (cI (cI (cI (cI (cI (cI (cI (cI (cI (cI (cI (cI (cI (cI (cI (cI (cI (cI (cI (cI (cI (cI (cI (cI (cI (cI (cI (cI (cI (cI (cI .nil))))))))))))))))))))))))))))))))))))) .nil) Z ?_)); refine .A Z (.nil (W.ret ?_)); cases h; exact lv Z Z
            ·clear h; refine W.pk (.F fld35_0 Z (.V Z (O.ld (y := .i x0.Kind) ty3 Z Z Z) (.B Z (.M Z ?_)))); rcases tf (x0.Kind != 15) with g28 | g28
             ·refine .H fld35_1 Z g28 Z (.U Z g28 (O.ld (y := .i x0.Member) ty3 Z Z Z) (.call (.b t26) [] 0 (lombardref10_Member.ok ((if_pos (by simp only [g28, BL])).symm.trans b27)) Z (met Z Z Z g28) Z ca57 Z Z (cI .nil) Z Z Z Z Z ?_)); exact .U Z g28 (OpL.unV Z Z Z) (.T g28 Z (.nil (toN (Gm [] (.r Z Z (.c Z (sbb (by simp only [g28, BL])) Z .n)) (.r Z Z Z .n) Z))))
             ·(iterate 4 refine .X Z g28 ?_); exact .E g28 Z (.nil (toN (Gm [] (.r Z Z (.c Z (sbb (by simp only [g28, BL])) Z .n)) (.r Z Z Z .n) Z)))
          ·clear h; refine W.pk (.F fld35_0 Z (.V Z (O.ld (y := .i x0.Kind) ty3 Z Z Z) (.B Z (.M Z ?_)))); rcases tf (decide (x0.Kind < 1)) with g24 | g24
           ·(iterate 3 refine .X Z g24 ?_); exact .T g24 Z (.nil (toN (Gm [] (.r Z Z (.c Z (sbb (by simp only [g24, BL])) Z .n)) (.r Z Z Z .n) Z)))
           ·exact .H fld35_0 Z g24 Z (.U Z g24 (O.ld (y := .i x0.Kind) ty3 Z Z Z) (.G Z g24 Z (.E g24 Z (.nil (toN (Gm [] (.r Z Z (.c Z (sbb (by simp only [g24, BL])) Z .n)) (.r Z Z Z .n) Z))))))
       ·clear h; refine W.pk (.F fld35_0 Z (.V Z (O.ld (y := .i x0.Kind) ty3 Z Z Z) (.B Z (.M Z ?_)))); rcases tf (x0.Kind == 8) with g19 | g19
        ·refine .H fld35_9 Z g19 Z (.H fld30_1 Z g19 Z (.U Z g19 (O.ld (y := .i x0.Quote.Member) ty3 Z Z Z) (.call (.b t17) [] 0 (lombardref10_Member.ok ((if_pos (by simp only [g19, BL])).symm.trans b18)) Z (met Z Z Z g19) Z ca57 Z Z (cI .nil) Z Z Z Z Z ?_))); exact .U Z g19 (OpL.unV Z Z Z) (.T g19 Z (.nil (toN (Gm [] (.r Z Z (.c Z (sbb (by simp only [g19, BL])) Z .n)) (.r Z Z Z .n) Z))))
        ·(iterate 5 refine .X Z g19 ?_); exact .E g19 Z (.nil (toN (Gm [] (.r Z Z (.c Z (sbb (by simp only [g19, BL])) Z .n)) (.r Z Z Z .n) Z)))
     ·clear h; refine W.pk (.F fld35_0 Z (.V Z (O.ld (y := .i x0.Kind) ty3 Z Z Z) (.B Z (.M Z ?_)))); rcases tf (x0.Kind == 6) with g15 | g15
      ·refine .H fld35_7 Z g15 Z (.U Z g15 (O.ld (y := .s x0.Text) ty9 Z Z Z) (.call (.b t13) [] 0 (lombardref05_Currency.ok ((if_pos (by simp only [g15, BL])).symm.trans b14)) Z (met Z Z Z g15) Z ca56 Z Z (cI .nil) Z Z Z Z Z ?_)); exact .U Z g15 (OpL.unV Z Z Z) (.T g15 Z (.nil (toN (Gm [] (.r Z Z (.c Z (sbb (by simp only [g15, BL])) Z .n)) (.r Z Z Z .n) Z))))
      ·(iterate 4 refine .X Z g15 ?_); exact .E g15 Z (.nil (toN (Gm [] (.r Z Z (.c Z (sbb (by simp only [g15, BL])) Z .n)) (.r Z Z Z .n) Z)))
noncomputable def lombardref10_Decode.f (x0 : Bs) : Option (lombardref10_Msg × Int × Int) :=
 (lombardref09_Reader_Int.f (⟨x0, 0, 0⟩ : lombardref09_Reader)).bind fun t1 =>
 if ((t1.1.E == 0) && ((decide (t1.2 < 1)) || (decide (t1.2 > 15)))) = true then
 some ((⟨0, 0, [], (⟨[], 0, 0, 0, []⟩ : api_Asset), (⟨0, 0, [], 0, 0, 0, [], 0, 0, []⟩ : api_Basket), [], 0, [], 0, (⟨0, 0, 0, 0, 0, 0, 0, 0⟩ : api_Quote), (⟨[], 0⟩ : api_Lot), [], 0, false, 0⟩ : lombardref10_Msg), 0, 17)
 else ((
 if (t1.1.E == 0) = true then
 (lombardref10_read.f t1.1 (⟨t1.2, 0, [], (⟨[], 0, 0, 0, []⟩ : api_Asset), (⟨0, 0, [], 0, 0, 0, [], 0, 0, []⟩ : api_Basket), [], 0, [], 0, (⟨0, 0, 0, 0, 0, 0, 0, 0⟩ : api_Quote), (⟨[], 0⟩ : api_Lot), [], 0, false, 0⟩ : lombardref10_Msg)).bind fun t51 =>
 some (t51.1.S, t51.1.At, t51.1.E, t51.2.Kind, t51.2.Member, t51.2.Name, t51.2.Asset.ISIN, t51.2.Asset.Issuer, t51.2.Asset.Rating, t51.2.Asset.Maturity, t51.2.Asset.Currency, t51.2.Basket.ID, t51.2.Basket.Version, t51.2.Basket.Currency, t51.2.Basket.Rating, t51.2.Basket.Least, t51.2.Basket.Most, t51.2.Basket.Cuts, t51.2.Basket.Issuer, t51.2.Basket.Asset, t51.2.Basket.Barred, t51.2.Prices, t51.2.Day, t51.2.Text, t51.2.N, t51.2.Quote.ID, t51.2.Quote.Member, t51.2.Quote.Side, t51.2.Quote.Basket, t51.2.Quote.Amount, t51.2.Quote.Rate, t51.2.Quote.Start, t51.2.Quote.End, t51.2.Out.ISIN, t51.2.Out.Qty, t51.2.In, t51.2.Trade, t51.2.Done, t51.2.Rate)
 else some (t1.1.S, t1.1.At, t1.1.E, t1.2, 0, [], [], 0, 0, 0, [], 0, 0, [], 0, 0, 0, [], 0, 0, [], [], 0, [], 0, 0, 0, 0, 0, 0, 0, 0, 0, [], 0, [], 0, false, 0) : Option (Bs × Int × Int × Int × Int × Bs × Bs × Int × Int × Int × Bs × Int × Int × Bs × Int × Int × Int × (List api_Cut) × Int × Int × (List Int) × (List api_Price) × Int × Bs × Int × Int × Int × Int × Int × Int × Int × Int × Int × Bs × Int × (List api_Lot) × Int × Bool × Int))).bind fun o48 =>
 (lombardref09_Reader_End.f (⟨o48.1, o48.2.1, o48.2.2.1⟩ : lombardref09_Reader)).bind fun t53 =>
 if (t53.1.E != 0) = true then
 some ((⟨0, 0, [], (⟨[], 0, 0, 0, []⟩ : api_Asset), (⟨0, 0, [], 0, 0, 0, [], 0, 0, []⟩ : api_Basket), [], 0, [], 0, (⟨0, 0, 0, 0, 0, 0, 0, 0⟩ : api_Quote), (⟨[], 0⟩ : api_Lot), [], 0, false, 0⟩ : lombardref10_Msg), t53.1.At, t53.1.E)
 else (lombardref10_Check.f (⟨o48.2.2.2.1, o48.2.2.2.2.1, o48.2.2.2.2.2.1, (⟨o48.2.2.2.2.2.2.1, o48.2.2.2.2.2.2.2.1, o48.2.2.2.2.2.2.2.2.1, o48.2.2.2.2.2.2.2.2.2.1, o48.2.2.2.2.2.2.2.2.2.2.1⟩ : api_Asset), (⟨o48.2.2.2.2.2.2.2.2.2.2.2.1, o48.2.2.2.2.2.2.2.2.2.2.2.2.1, o48.2.2.2.2.2.2.2.2.2.2.2.2.2.1, o48.2.2.2.2.2.2.2.2.2.2.2.2.2.2.1, o48.2.2.2.2.2.2.2.2.2.2.2.2.2.2.2.1, o48.2.2.2.2.2.2.2.2.2.2.2.2.2.2.2.2.1, o48.2.2.2.2.2.2.2.2.2.2.2.2.2.2.2.2.2.1, o48.2.2.2.2.2.2.2.2.2.2.2.2.2.2.2.2.2.2.1, o48.2.2.2.2.2.2.2.2.2.2.2.2.2.2.2.2.2.2.2.1, o48.2.2.2.2.2.2.2.2.2.2.2.2.2.2.2.2.2.2.2.2.1⟩ : api_Basket), o48.2.2.2.2.2.2.2.2.2.2.2.2.2.2.2.2.2.2.2.2.2.1, o48.2.2.2.2.2.2.2.2.2.2.2.2.2.2.2.2.2.2.2.2.2.2.1, o48.2.2.2.2.2.2.2.2.2.2.2.2.2.2.2.2.2.2.2.2.2.2.2.1, o48.2.2.2.2.2.2.2.2.2.2.2.2.2.2.2.2.2.2.2.2.2.2.2.2.1, (⟨o48.2.2.2.2.2.2.2.2.2.2.2.2.2.2.2.2.2.2.2.2.2.2.2.2.2.1, o48.2.2.2.2.2.2.2.2.2.2.2.2.2.2.2.2.2.2.2.2.2.2.2.2.2.2.1, o48.2.2.2.2.2.2.2.2.2.2.2.2.2.2.2.2.2.2.2.2.2.2.2.2.2.2.2.1, o48.2.2.2.2.2.2.2.2.2.2.2.2.2.2.2.2.2.2.2.2.2.2.2.2.2.2.2.2.1, o48.2.2.2.2.2.2.2.2.2.2.2.2.2.2.2.2.2.2.2.2.2.2.2.2.2.2.2.2.2.1, o48.2.2.2.2.2.2.2.2.2.2.2.2.2.2.2.2.2.2.2.2.2.2.2.2.2.2.2.2.2.2.1, o48.2.2.2.2.2.2.2.2.2.2.2.2.2.2.2.2.2.2.2.2.2.2.2.2.2.2.2.2.2.2.2.1, o48.2.2.2.2.2.2.2.2.2.2.2.2.2.2.2.2.2.2.2.2.2.2.2.2.2.2.2.2.2.2.2.2.1⟩ : api_Quote), (⟨o48.2.2.2.2.2.2.2.2.2.2.2.2.2.2.2.2.2.2.2.2.2.2.2.2.2.2.2.2.2.2.2.2.2.1, o48.2.2.2.2.2.2.2.2.2.2.2.2.2.2.2.2.2.2.2.2.2.2.2.2.2.2.2.2.2.2.2.2.2.2.1⟩ : api_Lot), o48.2.2.2.2.2.2.2.2.2.2.2.2.2.2.2.2.2.2.2.2.2.2.2.2.2.2.2.2.2.2.2.2.2.2.2.1, o48.2.2.2.2.2.2.2.2.2.2.2.2.2.2.2.2.2.2.2.2.2.2.2.2.2.2.2.2.2.2.2.2.2.2.2.2.1, o48.2.2.2.2.2.2.2.2.2.2.2.2.2.2.2.2.2.2.2.2.2.2.2.2.2.2.2.2.2.2.2.2.2.2.2.2.2.1, o48.2.2.2.2.2.2.2.2.2.2.2.2.2.2.2.2.2.2.2.2.2.2.2.2.2.2.2.2.2.2.2.2.2.2.2.2.2.2⟩ : lombardref10_Msg)).bind fun t56 =>
 if (t56 != 0) = true then
 (lombardref10_Check.f (⟨o48.2.2.2.1, o48.2.2.2.2.1, o48.2.2.2.2.2.1, (⟨o48.2.2.2.2.2.2.1, o48.2.2.2.2.2.2.2.1, o48.2.2.2.2.2.2.2.2.1, o48.2.2.2.2.2.2.2.2.2.1, o48.2.2.2.2.2.2.2.2.2.2.1⟩ : api_Asset), (⟨o48.2.2.2.2.2.2.2.2.2.2.2.1, o48.2.2.2.2.2.2.2.2.2.2.2.2.1, o48.2.2.2.2.2.2.2.2.2.2.2.2.2.1, o48.2.2.2.2.2.2.2.2.2.2.2.2.2.2.1, o48.2.2.2.2.2.2.2.2.2.2.2.2.2.2.2.1, o48.2.2.2.2.2.2.2.2.2.2.2.2.2.2.2.2.1, o48.2.2.2.2.2.2.2.2.2.2.2.2.2.2.2.2.2.1, o48.2.2.2.2.2.2.2.2.2.2.2.2.2.2.2.2.2.2.1, o48.2.2.2.2.2.2.2.2.2.2.2.2.2.2.2.2.2.2.2.1, o48.2.2.2.2.2.2.2.2.2.2.2.2.2.2.2.2.2.2.2.2.1⟩ : api_Basket), o48.2.2.2.2.2.2.2.2.2.2.2.2.2.2.2.2.2.2.2.2.2.1, o48.2.2.2.2.2.2.2.2.2.2.2.2.2.2.2.2.2.2.2.2.2.2.1, o48.2.2.2.2.2.2.2.2.2.2.2.2.2.2.2.2.2.2.2.2.2.2.2.1, o48.2.2.2.2.2.2.2.2.2.2.2.2.2.2.2.2.2.2.2.2.2.2.2.2.1, (⟨o48.2.2.2.2.2.2.2.2.2.2.2.2.2.2.2.2.2.2.2.2.2.2.2.2.2.1, o48.2.2.2.2.2.2.2.2.2.2.2.2.2.2.2.2.2.2.2.2.2.2.2.2.2.2.1, o48.2.2.2.2.2.2.2.2.2.2.2.2.2.2.2.2.2.2.2.2.2.2.2.2.2.2.2.1, o48.2.2.2.2.2.2.2.2.2.2.2.2.2.2.2.2.2.2.2.2.2.2.2.2.2.2.2.2.1, o48.2.2.2.2.2.2.2.2.2.2.2.2.2.2.2.2.2.2.2.2.2.2.2.2.2.2.2.2.2.1, o48.2.2.2.2.2.2.2.2.2.2.2.2.2.2.2.2.2.2.2.2.2.2.2.2.2.2.2.2.2.2.1, o48.2.2.2.2.2.2.2.2.2.2.2.2.2.2.2.2.2.2.2.2.2.2.2.2.2.2.2.2.2.2.2.1, o48.2.2.2.2.2.2.2.2.2.2.2.2.2.2.2.2.2.2.2.2.2.2.2.2.2.2.2.2.2.2.2.2.1⟩ : api_Quote), (⟨o48.2.2.2.2.2.2.2.2.2.2.2.2.2.2.2.2.2.2.2.2.2.2.2.2.2.2.2.2.2.2.2.2.2.1, o48.2.2.2.2.2.2.2.2.2.2.2.2.2.2.2.2.2.2.2.2.2.2.2.2.2.2.2.2.2.2.2.2.2.2.1⟩ : api_Lot), o48.2.2.2.2.2.2.2.2.2.2.2.2.2.2.2.2.2.2.2.2.2.2.2.2.2.2.2.2.2.2.2.2.2.2.2.1, o48.2.2.2.2.2.2.2.2.2.2.2.2.2.2.2.2.2.2.2.2.2.2.2.2.2.2.2.2.2.2.2.2.2.2.2.2.1, o48.2.2.2.2.2.2.2.2.2.2.2.2.2.2.2.2.2.2.2.2.2.2.2.2.2.2.2.2.2.2.2.2.2.2.2.2.2.1, o48.2.2.2.2.2.2.2.2.2.2.2.2.2.2.2.2.2.2.2.2.2.2.2.2.2.2.2.2.2.2.2.2.2.2.2.2.2.2⟩ : lombardref10_Msg)).bind fun t59 =>
 some ((⟨0, 0, [], (⟨[], 0, 0, 0, []⟩ : api_Asset), (⟨0, 0, [], 0, 0, 0, [], 0, 0, []⟩ : api_Basket), [], 0, [], 0, (⟨0, 0, 0, 0, 0, 0, 0, 0⟩ : api_Quote), (⟨[], 0⟩ : api_Lot), [], 0, false, 0⟩ : lombardref10_Msg), (List.length x0 : Int), t59)
 else some ((⟨o48.2.2.2.1, o48.2.2.2.2.1, o48.2.2.2.2.2.1, (⟨o48.2.2.2.2.2.2.1, o48.2.2.2.2.2.2.2.1, o48.2.2.2.2.2.2.2.2.1, o48.2.2.2.2.2.2.2.2.2.1, o48.2.2.2.2.2.2.2.2.2.2.1⟩ : api_Asset), (⟨o48.2.2.2.2.2.2.2.2.2.2.2.1, o48.2.2.2.2.2.2.2.2.2.2.2.2.1, o48.2.2.2.2.2.2.2.2.2.2.2.2.2.1, o48.2.2.2.2.2.2.2.2.2.2.2.2.2.2.1, o48.2.2.2.2.2.2.2.2.2.2.2.2.2.2.2.1, o48.2.2.2.2.2.2.2.2.2.2.2.2.2.2.2.2.1, o48.2.2.2.2.2.2.2.2.2.2.2.2.2.2.2.2.2.1, o48.2.2.2.2.2.2.2.2.2.2.2.2.2.2.2.2.2.2.1, o48.2.2.2.2.2.2.2.2.2.2.2.2.2.2.2.2.2.2.2.1, o48.2.2.2.2.2.2.2.2.2.2.2.2.2.2.2.2.2.2.2.2.1⟩ : api_Basket), o48.2.2.2.2.2.2.2.2.2.2.2.2.2.2.2.2.2.2.2.2.2.1, o48.2.2.2.2.2.2.2.2.2.2.2.2.2.2.2.2.2.2.2.2.2.2.1, o48.2.2.2.2.2.2.2.2.2.2.2.2.2.2.2.2.2.2.2.2.2.2.2.1, o48.2.2.2.2.2.2.2.2.2.2.2.2.2.2.2.2.2.2.2.2.2.2.2.2.1, (⟨o48.2.2.2.2.2.2.2.2.2.2.2.2.2.2.2.2.2.2.2.2.2.2.2.2.2.1, o48.2.2.2.2.2.2.2.2.2.2.2.2.2.2.2.2.2.2.2.2.2.2.2.2.2.2.1, o48.2.2.2.2.2.2.2.2.2.2.2.2.2.2.2.2.2.2.2.2.2.2.2.2.2.2.2.1, o48.2.2.2.2.2.2.2.2.2.2.2.2.2.2.2.2.2.2.2.2.2.2.2.2.2.2.2.2.1, o48.2.2.2.2.2.2.2.2.2.2.2.2.2.2.2.2.2.2.2.2.2.2.2.2.2.2.2.2.2.1, o48.2.2.2.2.2.2.2.2.2.2.2.2.2.2.2.2.2.2.2.2.2.2.2.2.2.2.2.2.2.2.1, o48.2.2.2.2.2.2.2.2.2.2.2.2.2.2.2.2.2.2.2.2.2.2.2.2.2.2.2.2.2.2.2.1, o48.2.2.2.2.2.2.2.2.2.2.2.2.2.2.2.2.2.2.2.2.2.2.2.2.2.2.2.2.2.2.2.2.1⟩ : api_Quote), (⟨o48.2.2.2.2.2.2.2.2.2.2.2.2.2.2.2.2.2.2.2.2.2.2.2.2.2.2.2.2.2.2.2.2.2.1, o48.2.2.2.2.2.2.2.2.2.2.2.2.2.2.2.2.2.2.2.2.2.2.2.2.2.2.2.2.2.2.2.2.2.2.1⟩ : api_Lot), o48.2.2.2.2.2.2.2.2.2.2.2.2.2.2.2.2.2.2.2.2.2.2.2.2.2.2.2.2.2.2.2.2.2.2.2.1, o48.2.2.2.2.2.2.2.2.2.2.2.2.2.2.2.2.2.2.2.2.2.2.2.2.2.2.2.2.2.2.2.2.2.2.2.2.1, o48.2.2.2.2.2.2.2.2.2.2.2.2.2.2.2.2.2.2.2.2.2.2.2.2.2.2.2.2.2.2.2.2.2.2.2.2.2.1, o48.2.2.2.2.2.2.2.2.2.2.2.2.2.2.2.2.2.2.2.2.2.2.2.2.2.2.2.2.2.2.2.2.2.2.2.2.2.2⟩ : lombardref10_Msg), (List.length x0 : Int), 0)
theorem lombardref10_Decode.ok {x0 : Bs} {r : lombardref10_Msg × Int × Int} (h : lombardref10_Decode.f x0 = some r) : Pm.Spec prog 12 [.imm (.val (.string (tx x0)))] (.tup [.agg (im (lombardref10_Msg.enc r.1)), .imm (.val (.int .i64 r.2.1)), .imm (.val (.int .i64 r.2.2))]) [none] := by
 unfold lombardref10_Decode.f at h; refine Pm.Spec.of_body Tryz.func12 Z (by kernel_rfl) (L Z) (L Z) ?_; refine W.ghost (σ' := (mkSt [(0, some (.s x0))] [] 1000)) (Gives.entry (.c Z .n) .n) (W.seq (W.pk (.t Z Z (O.alloc z35 Z) (.A Z (.A Z (.nil (W.seq (W.pk (.M Z (.V Z (O.build (out := [.s x0, .i 0, .i 0]) bl114 Z Z Z Z (by kernel_rfl)) ?_)))))))))); refine .t Z Z (O.alloc z114 Z) (.S ty114 Z [.s x0, .i 0, .i 0] Z (.nil (W.seq ?_))); obtain ⟨t1, b2, h⟩ := bnd1 h; refine W.pk (.V Z (O.ldN ty114 Z Z Z) (.C (.tup [.agg (lombardref09_Reader.av t1.1), .i t1.2]) [] 0 (lombardref09_Reader_Int.ok b2) ca35 Z (cC (.agg _ _ _ _ (cI (cI (cI .nil)))) .nil) Z ?_)); refine .M Z ?_; (iterate 2 refine .V Z (OpL.extract Z Z Z) ?_); refine .S ty114 Z [.s t1.1.S, .i t1.1.At, .i t1.1.E] Z (.A Z (.nil (W.seq (W.seq (W.fork (mkSt [(0, some (.s x0)), (2, some (.ptr 1000 0)), (5, some (.ptr 1001 0)), (6, some (.i t1.2)), (25, some (.b ((t1.1.E == 0) && ((decide (t1.2 < 1)) || (decide (t1.2 > 15))))))] [(1000, some (.box (zl36))), (1001, some (.box [.s t1.1.S, .i t1.1.At, .i t1.1.E]))] 1002) ?_ ?_)))))
 ·refine W.cnd Z h (fun q5 h => ?_) (fun q5 h => ?_)
  ·refine W.seq (W.pk (.V Z (O.build (out := (zl36)) bl35 Z Z Z Z (by kernel_rfl)) ?_)); refine .S ty35 Z (zl36) Z (.A Z (.A Z (.nil (W.ret ?_)))); cases h; exact leaves (.inr Z) Z (.tup _ _ _ _ (cC (.agg _ _ _ _ (cI (cI (cI (cI (cI (cI (cI (cI (cI (cI (cI (cI (cI (cI (cC (.nilrow _) (cI (cI (cC (.nilrow _) (cC (.nilrow _) (cI (cI (cI (cI (cI (cI (cI (cI (cI (cI (cI (cI (cI (cC (.nilrow _) (cI (cI (cI .nil))))))))))))))))))))))))))))))))))))) (cI (cI .nil)))) (cN .nil) Z Z
  ·refine W.skip (W.seq (W.pk (.M Z (.V Z (O.build (out := (.i t1.2 :: zl35)) bl35 Z Z Z Z (by kernel_rfl)) ?_)))); refine .t Z Z (O.alloc z35 Z) (.S ty35 Z (.i t1.2 :: zl35) Z (.nil (W.seq (W.seq (W.pk (.F fld114_2 Z (.V Z (O.ld (y := .i t1.1.E) ty3 Z Z Z) (.B Z (.nil ?_))))))))); obtain ⟨o48, b49, h⟩ := bnd1 h; refine W.fork (mkSt [(0, some (.s x0)), (2, some (.ptr 1000 0)), (5, some (.ptr 1001 0)), (7, some (.ptr 1002 0))] [(1000, some (.box (zl36))), (1001, some (.box [.s o48.1, .i o48.2.1, .i o48.2.2.1])), (1002, some (.box [.i o48.2.2.2.1, .i o48.2.2.2.2.1, .s o48.2.2.2.2.2.1, .s o48.2.2.2.2.2.2.1, .i o48.2.2.2.2.2.2.2.1, .i o48.2.2.2.2.2.2.2.2.1, .i o48.2.2.2.2.2.2.2.2.2.1, .s o48.2.2.2.2.2.2.2.2.2.2.1, .i o48.2.2.2.2.2.2.2.2.2.2.2.1, .i o48.2.2.2.2.2.2.2.2.2.2.2.2.1, .s o48.2.2.2.2.2.2.2.2.2.2.2.2.2.1, .i o48.2.2.2.2.2.2.2.2.2.2.2.2.2.2.1, .i o48.2.2.2.2.2.2.2.2.2.2.2.2.2.2.2.1, .i o48.2.2.2.2.2.2.2.2.2.2.2.2.2.2.2.2.1, .imm (.row 3 (List.map api_Cut.enc o48.2.2.2.2.2.2.2.2.2.2.2.2.2.2.2.2.2.1)), .i o48.2.2.2.2.2.2.2.2.2.2.2.2.2.2.2.2.2.2.1, .i o48.2.2.2.2.2.2.2.2.2.2.2.2.2.2.2.2.2.2.2.1, .imm (.row 1 (List.map (encI .i64) o48.2.2.2.2.2.2.2.2.2.2.2.2.2.2.2.2.2.2.2.2.1)), .imm (.row 2 (List.map api_Price.enc o48.2.2.2.2.2.2.2.2.2.2.2.2.2.2.2.2.2.2.2.2.2.1)), .i o48.2.2.2.2.2.2.2.2.2.2.2.2.2.2.2.2.2.2.2.2.2.2.1, .s o48.2.2.2.2.2.2.2.2.2.2.2.2.2.2.2.2.2.2.2.2.2.2.2.1, .i o48.2.2.2.2.2.2.2.2.2.2.2.2.2.2.2.2.2.2.2.2.2.2.2.2.1, .i o48.2.2.2.2.2.2.2.2.2.2.2.2.2.2.2.2.2.2.2.2.2.2.2.2.2.1, .i o48.2.2.2.2.2.2.2.2.2.2.2.2.2.2.2.2.2.2.2.2.2.2.2.2.2.2.1, .i o48.2.2.2.2.2.2.2.2.2.2.2.2.2.2.2.2.2.2.2.2.2.2.2.2.2.2.2.1, .i o48.2.2.2.2.2.2.2.2.2.2.2.2.2.2.2.2.2.2.2.2.2.2.2.2.2.2.2.2.1, .i o48.2.2.2.2.2.2.2.2.2.2.2.2.2.2.2.2.2.2.2.2.2.2.2.2.2.2.2.2.2.1, .i o48.2.2.2.2.2.2.2.2.2.2.2.2.2.2.2.2.2.2.2.2.2.2.2.2.2.2.2.2.2.2.1, .i o48.2.2.2.2.2.2.2.2.2.2.2.2.2.2.2.2.2.2.2.2.2.2.2.2.2.2.2.2.2.2.2.1, .i o48.2.2.2.2.2.2.2.2.2.2.2.2.2.2.2.2.2.2.2.2.2.2.2.2.2.2.2.2.2.2.2.2.1, .s o48.2.2.2.2.2.2.2.2.2.2.2.2.2.2.2.2.2.2.2.2.2.2.2.2.2.2.2.2.2.2.2.2.2.1, .i o48.2.2.2.2.2.2.2.2.2.2.2.2.2.2.2.2.2.2.2.2.2.2.2.2.2.2.2.2.2.2.2.2.2.2.1, .imm (.row 2 (List.map api_Lot.enc o48.2.2.2.2.2.2.2.2.2.2.2.2.2.2.2.2.2.2.2.2.2.2.2.2.2.2.2.2.2.2.2.2.2.2.2.1)), .i o48.2.2.2.2.2.2.2.2.2.2.2.2.2.2.2.2.2.2.2.2.2.2.2.2.2.2.2.2.2.2.2.2.2.2.2.2.1, .b o48.2.2.2.2.2.2.2.2.2.2.2.2.2.2.2.2.2.2.2.2.2.2.2.2.2.2.2.2.2.2.2.2.2.2.2.2.2.1, .i o48.2.2.2.2.2.2.2.2.2.2.2.2.2.2.2.2.2.2.2.2.2.2.2.2.2.2.2.2.2.2.2.2.2.2.2.2.2.2]))] 1003) ?_ ?_
   ·refine W.seq ?_; obtain ⟨t53, b54, h⟩ := bnd1 h; refine W.pk (.V Z (O.ldN ty114 Z Z Z) (.C (.tup [.agg (lombardref09_Reader.av t53.1), .b t53.2]) [] 0 (lombardref09_Reader_End.ok b54) ca37 Z (cC (.agg _ _ _ _ (cI (cI (cI .nil)))) .nil) Z ?_)); refine .M Z ?_; (iterate 2 refine .V Z (OpL.extract Z Z Z) ?_); refine .S ty114 Z [.s t53.1.S, .i t53.1.At, .i t53.1.E] Z (.nil (W.seq (W.seq (W.pk (.F fld114_2 Z (.V Z (O.ld (y := .i t53.1.E) ty3 Z Z Z) (.B Z (.nil (W.cnd Z h (fun q55 h => ?_) (fun q55 h => ?_))))))))))
    ·refine W.seq (W.dk (unm 8 [0, 0, 2, 0, 8, 1, 39, 127]) Z (by kernel_rfl) ?_); refine .V Z (O.build (out := (zl36)) bl35 Z Z Z Z (by kernel_rfl)) ?_; refine .F fld114_1 Z (.V Z (O.ld (y := .i t53.1.At) ty3 Z Z Z) (.F fld114_2 Z (.V Z (O.ld (y := .i t53.1.E) ty3 Z Z Z) (.S ty35 Z (zl36) Z (.A Z (.A Z (.nil ?_))))))); refine ⟨by kernel_rfl, by kernel_rfl, ?_⟩; refine W.ret ?_; cases h; exact leaves (.inr Z) Z (.tup _ _ _ _ (cC (.agg _ _ _ _ (cI (cI (cI (cI (cI (cI (cI (cI (cI (cI (cI (cI (cI (cI (cC (.nilrow _) (cI (cI (cC (.nilrow _) (cC (.nilrow _) (cI (cI (cI (cI (cI (cI (cI (cI (cI (cI (cI (cI (cI (cC (.nilrow _) (cI (cI (cI .nil))))))))))))))))))))))))))))))))))))) (cI (cI .nil)))) (cN .nil) Z Z
    ·refine W.skip (W.seq (W.seq ?_)); obtain ⟨t56, b57, h⟩ := bnd1 h; refine W.pk (.V Z (O.ldN ty35 Z Z Z) (.C (.i t56) [] 0 (lombardref10_Check.ok b57) ca17 Z (cC (.agg _ _ _ _ (cI (cI (cI (cI (cI (cI (cI (cI (cI (cI (cI (cI (cI (cI (cI (cI (cI (cI (cI (cI (cI (cI (cI (cI (cI (cI (cI (cI (cI (cI (cI (cI (cI (cI (cI (cI .nil))))))))))))))))))))))))))))))))))))) .nil) Z ?_)); refine .B Z (.nil (W.cnd Z h (fun q58 h => ?_) (fun q58 h => ?_)))
     ·refine W.seq ?_; obtain ⟨t59, b60, h⟩ := bnd1 h; refine W.pk (.V Z (O.build (out := (zl36)) bl35 Z Z Z Z (by kernel_rfl)) ?_); refine .M Z (.V Z (O.lenS u9 Z Z) (.V Z (O.ldN ty35 Z Z Z) (.C (.i t59) [] 0 (lombardref10_Check.ok b60) ca17 Z (cC (.agg _ _ _ _ (cI (cI (cI (cI (cI (cI (cI (cI (cI (cI (cI (cI (cI (cI (cI (cI (cI (cI (cI (cI (cI (cI (cI (cI (cI (cI (cI (cI (cI (cI (cI (cI (cI (cI (cI (cI .nil))))))))))))))))))))))))))))))))))))) .nil) Z ?_))); refine .S ty35 Z (zl36) Z (.A Z (.A Z (.nil (W.ret ?_)))); cases h; exact leaves (.inr Z) Z (.tup _ _ _ _ (cC (.agg _ _ _ _ (cI (cI (cI (cI (cI (cI (cI (cI (cI (cI (cI (cI (cI (cI (cC (.nilrow _) (cI (cI (cC (.nilrow _) (cC (.nilrow _) (cI (cI (cI (cI (cI (cI (cI (cI (cI (cI (cI (cI (cI (cC (.nilrow _) (cI (cI (cI .nil))))))))))))))))))))))))))))))))))))) (cI (cI .nil)))) (cN .nil) Z Z
     ·refine W.skip (W.seq (W.pk (.V Z (O.ldN ty35 Z Z Z) (.M Z (.V Z (O.lenS u9 Z Z) (.S ty35 Z [.i o48.2.2.2.1, .i o48.2.2.2.2.1, .s o48.2.2.2.2.2.1, .s o48.2.2.2.2.2.2.1, .i o48.2.2.2.2.2.2.2.1, .i o48.2.2.2.2.2.2.2.2.1, .i o48.2.2.2.2.2.2.2.2.2.1, .s o48.2.2.2.2.2.2.2.2.2.2.1, .i o48.2.2.2.2.2.2.2.2.2.2.2.1, .i o48.2.2.2.2.2.2.2.2.2.2.2.2.1, .s o48.2.2.2.2.2.2.2.2.2.2.2.2.2.1, .i o48.2.2.2.2.2.2.2.2.2.2.2.2.2.2.1, .i o48.2.2.2.2.2.2.2.2.2.2.2.2.2.2.2.1, .i o48.2.2.2.2.2.2.2.2.2.2.2.2.2.2.2.2.1, .imm (.row 3 (List.map api_Cut.enc o48.2.2.2.2.2.2.2.2.2.2.2.2.2.2.2.2.2.1)), .i o48.2.2.2.2.2.2.2.2.2.2.2.2.2.2.2.2.2.2.1, .i o48.2.2.2.2.2.2.2.2.2.2.2.2.2.2.2.2.2.2.2.1, .imm (.row 1 (List.map (encI .i64) o48.2.2.2.2.2.2.2.2.2.2.2.2.2.2.2.2.2.2.2.2.1)), .imm (.row 2 (List.map api_Price.enc o48.2.2.2.2.2.2.2.2.2.2.2.2.2.2.2.2.2.2.2.2.2.1)), .i o48.2.2.2.2.2.2.2.2.2.2.2.2.2.2.2.2.2.2.2.2.2.2.1, .s o48.2.2.2.2.2.2.2.2.2.2.2.2.2.2.2.2.2.2.2.2.2.2.2.1, .i o48.2.2.2.2.2.2.2.2.2.2.2.2.2.2.2.2.2.2.2.2.2.2.2.2.1, .i o48.2.2.2.2.2.2.2.2.2.2.2.2.2.2.2.2.2.2.2.2.2.2.2.2.2.1, .i o48.2.2.2.2.2.2.2.2.2.2.2.2.2.2.2.2.2.2.2.2.2.2.2.2.2.2.1, .i o48.2.2.2.2.2.2.2.2.2.2.2.2.2.2.2.2.2.2.2.2.2.2.2.2.2.2.2.1, .i o48.2.2.2.2.2.2.2.2.2.2.2.2.2.2.2.2.2.2.2.2.2.2.2.2.2.2.2.2.1, .i o48.2.2.2.2.2.2.2.2.2.2.2.2.2.2.2.2.2.2.2.2.2.2.2.2.2.2.2.2.2.1, .i o48.2.2.2.2.2.2.2.2.2.2.2.2.2.2.2.2.2.2.2.2.2.2.2.2.2.2.2.2.2.2.1, .i o48.2.2.2.2.2.2.2.2.2.2.2.2.2.2.2.2.2.2.2.2.2.2.2.2.2.2.2.2.2.2.2.1, .i o48.2.2.2.2.2.2.2.2.2.2.2.2.2.2.2.2.2.2.2.2.2.2.2.2.2.2.2.2.2.2.2.2.1, .s o48.2.2.2.2.2.2.2.2.2.2.2.2.2.2.2.2.2.2.2.2.2.2.2.2.2.2.2.2.2.2.2.2.2.1, .i o48.2.2.2.2.2.2.2.2.2.2.2.2.2.2.2.2.2.2.2.2.2.2.2.2.2.2.2.2.2.2.2.2.2.2.1, .imm (.row 2 (List.map api_Lot.enc o48.2.2.2.2.2.2.2.2.2.2.2.2.2.2.2.2.2.2.2.2.2.2.2.2.2.2.2.2.2.2.2.2.2.2.2.1)), .i o48.2.2.2.2.2.2.2.2.2.2.2.2.2.2.2.2.2.2.2.2.2.2.2.2.2.2.2.2.2.2.2.2.2.2.2.2.1, .b o48.2.2.2.2.2.2.2.2.2.2.2.2.2.2.2.2.2.2.2.2.2.2.2.2.2.2.2.2.2.2.2.2.2.2.2.2.2.1, .i o48.2.2.2.2.2.2.2.2.2.2.2.2.2.2.2.2.2.2.2.2.2.2.2.2.2.2.2.2.2.2.2.2.2.2.2.2.2.2] Z (.A Z (.A Z (.nil (W.ret ?_)))))))))); cases h; exact leaves (.inr Z) Z (.tup _ _ _ _ (cC (.agg _ _ _ _ (cI (cI (cI (cI (cI (cI (cI (cI (cI (cI (cI (cI (cI (cI (cI (cI (cI (cI (cI (cI (cI (cI (cI (cI (cI (cI (cI (cI (cI (cI (cI (cI (cI (cI (cI (cI .nil))))))))))))))))))))))))))))))))))))) (cI (cI .nil)))) (cN .nil) Z Z
   ·clear h; have h := b49; refine W.cnd Z h (fun q50 h => ?_) (fun q50 h => ?_)
    ·obtain ⟨t51, b52, h⟩ := bnd1 h; refine W.pk (.V Z (O.ldN ty114 Z Z Z) (.V Z (O.ldN ty35 Z Z Z) (.C (.tup [.agg (lombardref09_Reader.av t51.1), .agg (lombardref10_Msg.av t51.2)]) [] 0 (lombardref10_read.ok b52) ca36 Z (cC (.agg _ _ _ _ (cI (cI (cI .nil)))) (cC (.agg _ _ _ _ (cI (cI (cI (cI (cI (cI (cI (cI (cI (cI (cI (cI (cI (cI (cI (cI (cI (cI (cI (cI (cI (cI (cI (cI (cI (cI (cI (cI (cI (cI (cI (cI (cI (cI (cI (cI .nil))))))))))))))))))))))))))))))))))))) .nil)) Z ?_))); refine .M Z ?_; (iterate 2 refine .V Z (OpL.extract Z Z Z) ?_); refine .S ty114 Z [.s t51.1.S, .i t51.1.At, .i t51.1.E] Z (.S ty35 Z (lombardref10_Msg.av t51.2) Z (.nil ?_)); cases h; exact toN (Gm [] (.e Z Z) (.e Z Z) Z)
    ·refine W.skip ?_; cases h; exact toN (Gm [] (.e Z Z) (.r Z Z Z (.r Z Z Z (.c Z (.box (.cons (.rfl _) (.cons (.rfl _) (.cons (.rfl _) (.cons (.rfl _) (.cons (.rfl _) (.cons (.rfl _) (.cons (.rfl _) (.cons (.rfl _) (.cons (.rfl _) (.cons (.rfl _) (.cons (.rfl _) (.cons (.rfl _) (.cons (.rfl _) (.cons (.rfl _) (.cons (.nil _) (.cons (.rfl _) (.cons (.rfl _) (.cons (.nil _) (.cons (.nil _) (.cons (.rfl _) (.cons (.rfl _) (.cons (.rfl _) (.cons (.rfl _) (.cons (.rfl _) (.cons (.rfl _) (.cons (.rfl _) (.cons (.rfl _) (.cons (.rfl _) (.cons (.rfl _) (.cons (.rfl _) (.cons (.rfl _) (.cons (.rfl _) (.cons (.nil _) (.cons (.rfl _) (.cons (.rfl _) (.cons (.rfl _) .nil))))))))))))))))))))))))))))))))))))) Z Z .n))) Z)
 ·clear h; refine W.pk (.F fld114_2 Z (.V Z (O.ld (y := .i t1.1.E) ty3 Z Z Z) (.B Z (.M Z ?_)))); rcases tf (t1.1.E == 0) with g3 | g3
  ·refine .N Z g3 (.G Z g3 Z (.N Z g3 ?_)); rcases tf (decide (t1.2 < 1)) with g4 | g4
   ·exact .X Z g4 (.X Z g4 (.U Z g3 (O.pickT g4 Z Z Z) (.T g3 Z (.nil (toN (Gm [] (.r Z Z (.r Z Z (.r Z Z (.r Z Z (.c Z (sbb (by simp only [g3, g4, BL])) Z .n))))) (.e Z Z) Z))))))
   ·exact .N Z g4 (.G Z g4 Z (.U Z g3 (O.pickF g4 Z Z Z) (.T g3 Z (.nil (toN (Gm [] (.r Z Z (.r Z Z (.r Z Z (.r Z Z (.c Z (sbb (by simp only [g3, g4, BL])) Z .n))))) (.e Z Z) Z))))))
  ·refine .X Z g3 (.X Z g3 (.X Z g3 ?_)); (iterate 2 refine .x Z (unmetU Z Z Z) ?_); exact .X Z g3 (.E g3 Z (.nil (toN (Gm [] (.r Z Z (.r Z Z (.r Z Z (.r Z Z (.c Z (sbb (by simp only [g3, BL])) Z .n))))) (.e Z Z) Z))))
end Go.Proofs.YtbmokbkgielmmaaGreat
