-- PRINTED BY print.sh 35421559b90ae4d0a3588c463048766b98c2df88dd9212a6774a882060cdf62d: not written by this session
import Derived.Test.YtkcjlpiaaklnkaaPAssetMorex0
import Derived.Test.YtkcjlpiaaklnkaaPAssetMorex1
namespace Go.Proofs.Ytkcjlpiaaklnkaa.PAssetMore
open Go.RowKit Go.Proofs.YtkcjlpiaaklnkaaW.PrintWords Go.Proofs.YtkcjlpiaaklnkaaW.PrintLast Go.Proofs.YtkcjlpiaaklnkaaW.PrintMore
attribute [local go_sem] max2_int min2_int max_two min_two max_three min_three max_four min_four   -- for this text's walks alone
set_option linter.unusedVariables false
set_option linter.unusedSimpArgs false

/-! ### lombardlaw13_AssetMore: function 3 -/
mutual
def lombardlaw13_AssetMore.j0 : Nat → Int → Int → Int → Bool → Option (Bool)
  | 0, _, _, _, _ => none
  | k + 1, x0, x1, x2, x26 => if x26 = true then ((lombardlaw13_awake.f k).bind fun t128 => (some t128)) else ((asset_Worth.f k x0 x2).bind fun bt129 => ((asset_Worth.f k x1 x2).bind fun bt131 => ((asset_Worth.f k (wrap64 (x0 + x1)) x2).bind fun bt133 => (if bt129.2 = 0 then (if bt131.2 = bt129.2 then (lombardlaw13_AssetMore.j1 k bt129.1 bt129.2 bt131.1 bt131.2 bt133.1 bt133.2 (bt133.2 != bt129.2)) else (lombardlaw13_AssetMore.j1 k bt129.1 bt129.2 bt131.1 bt131.2 bt133.1 bt133.2 true)) else (lombardlaw13_AssetMore.j1 k bt129.1 bt129.2 bt131.1 bt131.2 bt133.1 bt133.2 true)))))
def lombardlaw13_AssetMore.j1 : Nat → Int → Int → Int → Int → Int → Int → Bool → Option (Bool)
  | 0, _, _, _, _, _, _, _ => none
  | k + 1, x7, x8, x9, x10, x11, x12, x59 => if x59 = true then (if x8 = x10 then (if x10 = x12 then (if x7 = 0 then (if x9 = 0 then (if x11 = 0 then ((lombardlaw13_awake.f k).bind fun t135 => (some t135)) else (some false)) else (some false)) else (some false)) else (some false)) else (some false)) else (if x11 ≥ (wrap64 (x7 + x9)) then (if x11 ≤ (wrap64 ((wrap64 (x7 + x9)) + 1)) then (if x11 ≥ x7 then (if x11 ≥ x9 then ((lombardlaw13_awake.f k).bind fun t136 => (some t136)) else (some false)) else (some false)) else (some false)) else (some false))
end
def lombardlaw13_AssetMore.f (k : Nat) (a0 : Int) (a1 : Int) (a2 : Int) : Option (Bool) := if a0 < 0 then (lombardlaw13_AssetMore.j0 k a0 a1 a2 true) else (if a1 < 0 then (lombardlaw13_AssetMore.j0 k a0 a1 a2 true) else (if a0 > 562949953421312 then (lombardlaw13_AssetMore.j0 k a0 a1 a2 true) else (lombardlaw13_AssetMore.j0 k a0 a1 a2 (decide (a1 > 562949953421312)))))
theorem lombardlaw13_AssetMore.mono_l : ∀ k, (∀ y0 y1 y2 y3, LeO (lombardlaw13_AssetMore.j0 k y0 y1 y2 y3) (lombardlaw13_AssetMore.j0 (k + 1) y0 y1 y2 y3)) ∧ (∀ y0 y1 y2 y3 y4 y5 y6, LeO (lombardlaw13_AssetMore.j1 k y0 y1 y2 y3 y4 y5 y6) (lombardlaw13_AssetMore.j1 (k + 1) y0 y1 y2 y3 y4 y5 y6))
  | 0 => ⟨fun _ _ _ _ r h => by simp [lombardlaw13_AssetMore.j0] at h, fun _ _ _ _ _ _ _ r h => by simp [lombardlaw13_AssetMore.j1] at h⟩
  | k + 1 => by
    obtain ⟨ih0, ih1⟩ := lombardlaw13_AssetMore.mono_l k
    refine ⟨?_, ?_⟩
    · intro y0 y1 y2 y3
      unfold lombardlaw13_AssetMore.j0
      repeat' first
      | (with_reducible exact ih0 _ _ _ _)
      | (with_reducible exact ih1 _ _ _ _ _ _ _)
      | (with_reducible exact asset_Worth.mono _ _ _)
      | (with_reducible exact lombardlaw13_awake.mono _)
      | (with_reducible exact LeO.refl _)
      | (with_reducible exact LeO.none _)
      | (with_reducible refine LeO.ite ?_ ?_)
      | (with_reducible refine LeO.bind ?_ (fun _ => ?_))
      | exact ih0 _ _ _ _
      | exact ih1 _ _ _ _ _ _ _
      | exact asset_Worth.mono _ _ _
      | exact lombardlaw13_awake.mono _
      | exact LeO.none _
      | refine LeO.ite ?_ ?_
      | refine LeO.bind ?_ (fun _ => ?_)
    · intro y0 y1 y2 y3 y4 y5 y6
      unfold lombardlaw13_AssetMore.j1
      repeat' first
      | (with_reducible exact ih0 _ _ _ _)
      | (with_reducible exact ih1 _ _ _ _ _ _ _)
      | (with_reducible exact asset_Worth.mono _ _ _)
      | (with_reducible exact lombardlaw13_awake.mono _)
      | (with_reducible exact LeO.refl _)
      | (with_reducible exact LeO.none _)
      | (with_reducible refine LeO.ite ?_ ?_)
      | (with_reducible refine LeO.bind ?_ (fun _ => ?_))
      | exact ih0 _ _ _ _
      | exact ih1 _ _ _ _ _ _ _
      | exact asset_Worth.mono _ _ _
      | exact lombardlaw13_awake.mono _
      | exact LeO.none _
      | refine LeO.ite ?_ ?_
      | refine LeO.bind ?_ (fun _ => ?_)
theorem lombardlaw13_AssetMore.mono : ∀ a0 a1 a2 k, LeO (lombardlaw13_AssetMore.f k a0 a1 a2) (lombardlaw13_AssetMore.f (k + 1) a0 a1 a2) := by
  intro a0 a1 a2 k
  obtain ⟨ih0, ih1⟩ := lombardlaw13_AssetMore.mono_l k
  unfold lombardlaw13_AssetMore.f
  repeat' first
      | (with_reducible exact ih0 _ _ _ _)
      | (with_reducible exact ih1 _ _ _ _ _ _ _)
      | (with_reducible exact asset_Worth.mono _ _ _)
      | (with_reducible exact lombardlaw13_awake.mono _)
      | (with_reducible exact LeO.refl _)
      | (with_reducible exact LeO.none _)
      | (with_reducible refine LeO.ite ?_ ?_)
      | (with_reducible refine LeO.bind ?_ (fun _ => ?_))
      | exact ih0 _ _ _ _
      | exact ih1 _ _ _ _ _ _ _
      | exact asset_Worth.mono _ _ _
      | exact lombardlaw13_awake.mono _
      | exact LeO.none _
      | refine LeO.ite ?_ ?_
      | refine LeO.bind ?_ (fun _ => ?_)
set_option maxHeartbeats 8000000 in
set_option maxRecDepth 100000 in
theorem lombardlaw13_AssetMore.calls (k : Nat) (a0 : Int) (a1 : Int) (a2 : Int) (r : Bool) (w : World) (h : lombardlaw13_AssetMore.f k a0 a1 a2 = some r) :
    Calls Try.prog 3 #[.int .i64 a0, .int .i64 a1, .int .i64 a2] w fun e w' => e = .returned (.bool r) ∧ Below w.heap.size w w' := by
  have HB := Aside0.mk (Below.refl w.heap.size w)
  have H : (if a0 < 0 then (lombardlaw13_AssetMore.j0 k a0 a1 a2 true) else (if a1 < 0 then (lombardlaw13_AssetMore.j0 k a0 a1 a2 true) else (if a0 > 562949953421312 then (lombardlaw13_AssetMore.j0 k a0 a1 a2 true) else (lombardlaw13_AssetMore.j0 k a0 a1 a2 (decide (a1 > 562949953421312)))))) = some r := h
  clear h
  have HC4 := Aside0.mk H
  clear H
  go_enter Try.func3, Try.ntmps3
  go_upto_region 1 with (fail)
  go_cut [26] (fun v26 wc => ∃ (kq : Nat) (x26_3 : Bool), v26 = .bool x26_3 ∧ Aside0 (lombardlaw13_AssetMore.j0 kq a0 a1 a2 x26_3 = some r) ∧ Aside0 (kq ≤ k) ∧ Aside0 (Below w.heap.size w wc))
  case first =>
    have H := HC4.out
    clear HC4
    by_cases c5 : a0 < 0
    · rw [if_pos c5] at H
      have c5b0 : decide (a0 < 0) = true := decide_eq_true c5
      clear c5
      (first | rw [c5b0] | (simp only [i64_w, i32_w]; rw [c5b0]) | skip)
      have H' := Aside0.mk H
      clear H
      go_wp2
      go_meet
      case rel => exact ⟨_, (true), (by first | rfl | (simp; done) | (simp [*]; done)), H', ⟨by first | omega | exact Nat.le_refl _⟩, ⟨by repeat (first | (with_reducible first | exact HB.out | apply below_alloc | apply pw_below_drewN | apply below_drew1) | exact HB.out)⟩⟩
    · rw [if_neg c5] at H
      have c5b0 : decide (a0 < 0) = false := decide_eq_false c5
      clear c5
      (first | rw [c5b0] | (simp only [i64_w, i32_w]; rw [c5b0]) | skip)
      by_cases c6 : a1 < 0
      · rw [if_pos c6] at H
        have c6b0 : decide (a1 < 0) = true := decide_eq_true c6
        clear c6
        have H' := Aside0.mk H
        clear H
        go_wp2
        go_meet
        case rel => exact ⟨_, (true), (by first | rfl | (simp; done) | (simp [*]; done)), H', ⟨by first | omega | exact Nat.le_refl _⟩, ⟨by repeat (first | (with_reducible first | exact HB.out | apply below_alloc | apply pw_below_drewN | apply below_drew1) | exact HB.out)⟩⟩
      · rw [if_neg c6] at H
        have c6b0 : decide (a1 < 0) = false := decide_eq_false c6
        clear c6
        by_cases c7 : a0 > 562949953421312
        · rw [if_pos c7] at H
          have c7b0 : decide (562949953421312 < a0) = true := decide_eq_true c7
          clear c7
          have H' := Aside0.mk H
          clear H
          go_wp2
          go_meet
          case rel => exact ⟨_, (true), (by first | rfl | (simp; done) | (simp [*]; done)), H', ⟨by first | omega | exact Nat.le_refl _⟩, ⟨by repeat (first | (with_reducible first | exact HB.out | apply below_alloc | apply pw_below_drewN | apply below_drew1) | exact HB.out)⟩⟩
        · rw [if_neg c7] at H
          have c7b0 : decide (562949953421312 < a0) = false := decide_eq_false c7
          clear c7
          have H' := Aside0.mk H
          clear H
          go_wp2
          go_meet
          case rel => exact ⟨_, (decide (a1 > 562949953421312)), (by first | rfl | (simp; done) | (simp [*]; done)), H', ⟨by first | omega | exact Nat.le_refl _⟩, ⟨by repeat (first | (with_reducible first | exact HB.out | apply below_alloc | apply pw_below_drewN | apply below_drew1) | exact HB.out)⟩⟩
  case rest =>
    clear HC4
    try clear p2
    try clear c3
    try clear c5
    try clear c5b0
    try clear c6
    try clear c6b0
    try clear c7
    try clear c7b0
    obtain ⟨kq, x26_3, rfl, HA, HJ3, HB⟩ := hcut
    cases kq with
    | zero => exact absurd HA.out (by simp [lombardlaw13_AssetMore.j0])
    | succ kj3 =>
      have H := HA.out
      clear HA
      simp only [lombardlaw13_AssetMore.j0] at H
      by_cases c8 : x26_3 = true
      · subst c8
        have H1 : ((lombardlaw13_awake.f kj3).bind fun t128 => (some t128)) = some r := by rw [if_pos rfl] at H; exact H
        clear H
        have H := H1
        clear H1
        replace H := Option.bind_eq_some_iff.mp H
        obtain ⟨t128, A90, H⟩ := H
        replace H : (some t128) = some r := H
        have A9 := Aside0.mk A90
        clear A90
        obtain rfl := Option.some.inj H
        go_wp2_with (first | ((with_reducible refine gate_callee (f := 9) rfl ?_); refine goesL_ (some 27) rfl rfl Try.func9 (by kernel_rfl) rfl #[] rfl (by (try simp only [List.map_toArray, List.map_cons, List.map_nil]); first | done | rfl | (simp only [List.length_drop, List.length_take]; rfl)) ?_; (with_reducible refine (lombardlaw13_awake.calls kj3  t128 _ A9.out).mono ?_); rintro e w10 ⟨rfl, hb⟩; refine ⟨_, rfl, ?_⟩; have n0_ := Aside0.mk (below_step (by repeat (first | (with_reducible first | exact HB.out | apply below_alloc | apply pw_below_drewN | apply below_drew1) | exact HB.out)) hb); clear HB; have HB := n0_; clear n0_; (try clear hb); (try clear hb2); (try clear hk); (try clear hi)))
        go_ret
        exact ⟨by first | rfl | (simp [errW_none, errW_some] <;> rfl) | (simp [*, errW_none, errW_some] <;> rfl), by repeat (first | (with_reducible first | exact HB.out | apply below_alloc | apply pw_below_drewN | apply below_drew1) | exact HB.out)⟩
      · replace c8 := Bool.eq_false_iff.mpr c8
        subst c8
        have H1 : ((asset_Worth.f kj3 a0 a2).bind fun bt129 => ((asset_Worth.f kj3 a1 a2).bind fun bt131 => ((asset_Worth.f kj3 (wrap64 (a0 + a1)) a2).bind fun bt133 => (if bt129.2 = 0 then (if bt131.2 = bt129.2 then (lombardlaw13_AssetMore.j1 kj3 bt129.1 bt129.2 bt131.1 bt131.2 bt133.1 bt133.2 (bt133.2 != bt129.2)) else (lombardlaw13_AssetMore.j1 kj3 bt129.1 bt129.2 bt131.1 bt131.2 bt133.1 bt133.2 true)) else (lombardlaw13_AssetMore.j1 kj3 bt129.1 bt129.2 bt131.1 bt131.2 bt133.1 bt133.2 true))))) = some r := by rw [if_neg (show ¬ (false = true) by decide)] at H; exact H
        clear H
        have H := H1
        clear H1
        replace H := Option.bind_eq_some_iff.mp H
        obtain ⟨⟨t129, t130⟩, A110, H⟩ := H
        replace H : ((asset_Worth.f kj3 a1 a2).bind fun bt131 => ((asset_Worth.f kj3 (wrap64 (a0 + a1)) a2).bind fun bt133 => (if t130 = 0 then (if bt131.2 = t130 then (lombardlaw13_AssetMore.j1 kj3 t129 t130 bt131.1 bt131.2 bt133.1 bt133.2 (bt133.2 != t130)) else (lombardlaw13_AssetMore.j1 kj3 t129 t130 bt131.1 bt131.2 bt133.1 bt133.2 true)) else (lombardlaw13_AssetMore.j1 kj3 t129 t130 bt131.1 bt131.2 bt133.1 bt133.2 true)))) = some r := H
        have A11 := Aside0.mk A110
        clear A110
        replace H := Option.bind_eq_some_iff.mp H
        obtain ⟨⟨t131, t132⟩, A120, H⟩ := H
        replace H : ((asset_Worth.f kj3 (wrap64 (a0 + a1)) a2).bind fun bt133 => (if t130 = 0 then (if t132 = t130 then (lombardlaw13_AssetMore.j1 kj3 t129 t130 t131 t132 bt133.1 bt133.2 (bt133.2 != t130)) else (lombardlaw13_AssetMore.j1 kj3 t129 t130 t131 t132 bt133.1 bt133.2 true)) else (lombardlaw13_AssetMore.j1 kj3 t129 t130 t131 t132 bt133.1 bt133.2 true))) = some r := H
        have A12 := Aside0.mk A120
        clear A120
        replace H := Option.bind_eq_some_iff.mp H
        obtain ⟨⟨t133, t134⟩, A130, H⟩ := H
        replace H : (if t130 = 0 then (if t132 = t130 then (lombardlaw13_AssetMore.j1 kj3 t129 t130 t131 t132 t133 t134 (t134 != t130)) else (lombardlaw13_AssetMore.j1 kj3 t129 t130 t131 t132 t133 t134 true)) else (lombardlaw13_AssetMore.j1 kj3 t129 t130 t131 t132 t133 t134 true)) = some r := H
        have A13 := Aside0.mk A130
        clear A130
        have HC14 := Aside0.mk H
        clear H
        go_upto_region 6 with (first | ((with_reducible refine gate_callee (f := 10) rfl ?_); refine goesL_ (some 31) rfl rfl Try.func10 (by kernel_rfl) rfl #[.int .i64 a0, .int .i64 a2] rfl (by (try simp only [List.map_toArray, List.map_cons, List.map_nil]); first | done | rfl | (simp only [List.length_drop, List.length_take]; rfl)) ?_; (with_reducible refine (asset_Worth.calls kj3 a0 a2 t129 t130 _ A11.out).mono ?_); rintro e w15 ⟨rfl, hb⟩; refine ⟨_, rfl, ?_⟩; have n0_ := Aside0.mk (below_step (by repeat (first | (with_reducible first | exact HB.out | apply below_alloc | apply pw_below_drewN | apply below_drew1) | exact HB.out)) hb); clear HB; have HB := n0_; clear n0_; (try clear hb); (try clear hb2); (try clear hk); (try clear hi)) | ((with_reducible refine gate_callee (f := 10) rfl ?_); refine goesL_ (some 37) rfl rfl Try.func10 (by kernel_rfl) rfl #[.int .i64 a1, .int .i64 a2] rfl (by (try simp only [List.map_toArray, List.map_cons, List.map_nil]); first | done | rfl | (simp only [List.length_drop, List.length_take]; rfl)) ?_; (with_reducible refine (asset_Worth.calls kj3 a1 a2 t131 t132 _ A12.out).mono ?_); rintro e w16 ⟨rfl, hb⟩; refine ⟨_, rfl, ?_⟩; have n0_ := Aside0.mk (below_step (by repeat (first | (with_reducible first | exact HB.out | apply below_alloc | apply pw_below_drewN | apply below_drew1) | exact HB.out)) hb); clear HB; have HB := n0_; clear n0_; (try clear hb); (try clear hb2); (try clear hk); (try clear hi)) | ((with_reducible refine gate_callee (f := 10) rfl ?_); refine goesL_ (some 45) rfl rfl Try.func10 (by kernel_rfl) rfl #[.int .i64 (wrap64 (a0 + a1)), .int .i64 a2] rfl (by (try simp only [List.map_toArray, List.map_cons, List.map_nil]); first | done | rfl | (simp only [List.length_drop, List.length_take]; rfl)) ?_; (with_reducible refine (asset_Worth.calls kj3 (wrap64 (a0 + a1)) a2 t133 t134 _ A13.out).mono ?_); rintro e w17 ⟨rfl, hb⟩; refine ⟨_, rfl, ?_⟩; have n0_ := Aside0.mk (below_step (by repeat (first | (with_reducible first | exact HB.out | apply below_alloc | apply pw_below_drewN | apply below_drew1) | exact HB.out)) hb); clear HB; have HB := n0_; clear n0_; (try clear hb); (try clear hb2); (try clear hk); (try clear hi)))
        (try simp only [Act.put, List.setIfInBounds_toArray, List.set_cons_zero, List.set_cons_succ])
        go_cut [59] (fun v59 wc => ∃ (kq : Nat) (x59_13 : Bool), v59 = .bool x59_13 ∧ Aside0 (lombardlaw13_AssetMore.j1 kq t129 t130 t131 t132 t133 t134 x59_13 = some r) ∧ Aside0 (kq ≤ kj3) ∧ Aside0 (Below w.heap.size w wc))
        case first =>
          have H := HC14.out
          clear HC14
          by_cases c18 : t130 = 0
          · rw [if_pos c18] at H
            have c18b0 : (t130 == 0) = true := beq_iff_eq.mpr c18
            have c18b1 : (t130 != 0) = false := bne_eq_false_iff_eq.mpr c18
            clear c18
            (first | rw [c18b0] | (simp only [i64_w, i32_w]; rw [c18b0]) | skip)
            by_cases c19 : t132 = t130
            · rw [if_pos c19] at H
              have c19b0 : (t132 == t130) = true := beq_iff_eq.mpr c19
              have c19b1 : (t132 != t130) = false := bne_eq_false_iff_eq.mpr c19
              clear c19
              have H' := Aside0.mk H
              clear H
              go_wp2
              go_meet
              case rel => exact ⟨_, ((t134 != t130)), (by first | rfl | (simp; done) | (simp [*]; done)), H', ⟨by have := HJ3.out; first | omega | exact Nat.le_refl _⟩, ⟨by repeat (first | (with_reducible first | exact HB.out | apply below_alloc | apply pw_below_drewN | apply below_drew1) | exact HB.out)⟩⟩
            · rw [if_neg c19] at H
              have c19b0 : (t132 == t130) = false := beq_eq_false_iff_ne.mpr c19
              have c19b1 : (t132 != t130) = true := bne_iff_ne.mpr c19
              have H' := Aside0.mk H
              clear H
              go_wp2
              go_meet
              case rel => exact ⟨_, (true), (by first | rfl | (simp; done) | (simp [*]; done)), H', ⟨by have := HJ3.out; first | omega | exact Nat.le_refl _⟩, ⟨by repeat (first | (with_reducible first | exact HB.out | apply below_alloc | apply pw_below_drewN | apply below_drew1) | exact HB.out)⟩⟩
          · rw [if_neg c18] at H
            have c18b0 : (t130 == 0) = false := beq_eq_false_iff_ne.mpr c18
            have c18b1 : (t130 != 0) = true := bne_iff_ne.mpr c18
            (first | rw [c18b0] | (simp only [i64_w, i32_w]; rw [c18b0]) | skip)
            have H' := Aside0.mk H
            clear H
            go_wp2
            go_meet
            case rel => exact ⟨_, (true), (by first | rfl | (simp; done) | (simp [*]; done)), H', ⟨by have := HJ3.out; first | omega | exact Nat.le_refl _⟩, ⟨by repeat (first | (with_reducible first | exact HB.out | apply below_alloc | apply pw_below_drewN | apply below_drew1) | exact HB.out)⟩⟩
        case rest =>
          clear HC14
          try clear c1
          try clear p2
          try clear c3
          try clear c5
          try clear c5b0
          try clear c6
          try clear c6b0
          try clear p6
          try clear c7
          try clear c7b0
          try clear c8
          try clear c9
          try clear c10
          try clear c18
          try clear c18b0
          try clear c18b1
          try clear c19
          try clear c19b0
          try clear c19b1
          try clear p2
          obtain ⟨kq, x59_13, rfl, HA, HJ13, HB⟩ := hcut
          cases kq with
          | zero => exact absurd HA.out (by simp [lombardlaw13_AssetMore.j1])
          | succ kj13 =>
            have H := HA.out
            clear HA
            simp only [lombardlaw13_AssetMore.j1] at H
            by_cases c20 : x59_13 = true
            · subst c20
              have H1 : (if t130 = t132 then (if t132 = t134 then (if t129 = 0 then (if t131 = 0 then (if t133 = 0 then ((lombardlaw13_awake.f kj13).bind fun t135 => (some t135)) else (some false)) else (some false)) else (some false)) else (some false)) else (some false)) = some r := by rw [if_pos rfl] at H; exact H
              clear H
              have H := H1
              clear H1
              by_cases c21 : t130 = t132
              · rw [if_pos c21] at H
                have c21b0 : (t130 == t132) = true := beq_iff_eq.mpr c21
                have c21b1 : (t130 != t132) = false := bne_eq_false_iff_eq.mpr c21
                clear c21
                by_cases c22 : t132 = t134
                · rw [if_pos c22] at H
                  have c22b0 : (t132 == t134) = true := beq_iff_eq.mpr c22
                  have c22b1 : (t132 != t134) = false := bne_eq_false_iff_eq.mpr c22
                  clear c22
                  by_cases c23 : t129 = 0
                  · rw [if_pos c23] at H
                    have c23b0 : (t129 == 0) = true := beq_iff_eq.mpr c23
                    have c23b1 : (t129 != 0) = false := bne_eq_false_iff_eq.mpr c23
                    clear c23
                    by_cases c24 : t131 = 0
                    · rw [if_pos c24] at H
                      have c24b0 : (t131 == 0) = true := beq_iff_eq.mpr c24
                      have c24b1 : (t131 != 0) = false := bne_eq_false_iff_eq.mpr c24
                      clear c24
                      by_cases c25 : t133 = 0
                      · rw [if_pos c25] at H
                        have c25b0 : (t133 == 0) = true := beq_iff_eq.mpr c25
                        have c25b1 : (t133 != 0) = false := bne_eq_false_iff_eq.mpr c25
                        clear c25
                        replace H := Option.bind_eq_some_iff.mp H
                        obtain ⟨t135, A260, H⟩ := H
                        replace H : (some t135) = some r := H
                        have A26 := Aside0.mk A260
                        clear A260
                        obtain rfl := Option.some.inj H
                        go_wp2_with (first | (go_at_call 9; (with_reducible refine (lombardlaw13_awake.calls kj13  t135 _ A26.out).mono ?_); rintro e w27 ⟨rfl, hb⟩; have n0_ := Aside0.mk (below_step (by repeat (first | (with_reducible first | exact HB.out | apply below_alloc | apply pw_below_drewN | apply below_drew1) | exact HB.out)) hb); clear HB; have HB := n0_; clear n0_; (try clear hb); (try clear hb2); (try clear hk); (try clear hi)))
                        go_ret
                        exact ⟨by first | rfl | (simp [errW_none, errW_some] <;> rfl) | (simp [*, errW_none, errW_some] <;> rfl), by repeat (first | (with_reducible first | exact HB.out | apply below_alloc | apply pw_below_drewN | apply below_drew1) | exact HB.out)⟩
                      · rw [if_neg c25] at H
                        have c25b0 : (t133 == 0) = false := beq_eq_false_iff_ne.mpr c25
                        have c25b1 : (t133 != 0) = true := bne_iff_ne.mpr c25
                        obtain rfl := Option.some.inj H
                        go_wp2
                        go_ret
                        exact ⟨by first | rfl | (simp [errW_none, errW_some] <;> rfl) | (simp [*, errW_none, errW_some] <;> rfl), by repeat (first | (with_reducible first | exact HB.out | apply below_alloc | apply pw_below_drewN | apply below_drew1) | exact HB.out)⟩
                    · rw [if_neg c24] at H
                      have c24b0 : (t131 == 0) = false := beq_eq_false_iff_ne.mpr c24
                      have c24b1 : (t131 != 0) = true := bne_iff_ne.mpr c24
                      obtain rfl := Option.some.inj H
                      go_wp2
                      go_ret
                      exact ⟨by first | rfl | (simp [errW_none, errW_some] <;> rfl) | (simp [*, errW_none, errW_some] <;> rfl), by repeat (first | (with_reducible first | exact HB.out | apply below_alloc | apply pw_below_drewN | apply below_drew1) | exact HB.out)⟩
                  · rw [if_neg c23] at H
                    have c23b0 : (t129 == 0) = false := beq_eq_false_iff_ne.mpr c23
                    have c23b1 : (t129 != 0) = true := bne_iff_ne.mpr c23
                    obtain rfl := Option.some.inj H
                    go_wp2
                    go_ret
                    exact ⟨by first | rfl | (simp [errW_none, errW_some] <;> rfl) | (simp [*, errW_none, errW_some] <;> rfl), by repeat (first | (with_reducible first | exact HB.out | apply below_alloc | apply pw_below_drewN | apply below_drew1) | exact HB.out)⟩
                · rw [if_neg c22] at H
                  have c22b0 : (t132 == t134) = false := beq_eq_false_iff_ne.mpr c22
                  have c22b1 : (t132 != t134) = true := bne_iff_ne.mpr c22
                  obtain rfl := Option.some.inj H
                  go_wp2
                  go_ret
                  exact ⟨by first | rfl | (simp [errW_none, errW_some] <;> rfl) | (simp [*, errW_none, errW_some] <;> rfl), by repeat (first | (with_reducible first | exact HB.out | apply below_alloc | apply pw_below_drewN | apply below_drew1) | exact HB.out)⟩
              · rw [if_neg c21] at H
                have c21b0 : (t130 == t132) = false := beq_eq_false_iff_ne.mpr c21
                have c21b1 : (t130 != t132) = true := bne_iff_ne.mpr c21
                obtain rfl := Option.some.inj H
                go_wp2
                go_ret
                exact ⟨by first | rfl | (simp [errW_none, errW_some] <;> rfl) | (simp [*, errW_none, errW_some] <;> rfl), by repeat (first | (with_reducible first | exact HB.out | apply below_alloc | apply pw_below_drewN | apply below_drew1) | exact HB.out)⟩
            · replace c20 := Bool.eq_false_iff.mpr c20
              subst c20
              have H1 : (if t133 ≥ (wrap64 (t129 + t131)) then (if t133 ≤ (wrap64 ((wrap64 (t129 + t131)) + 1)) then (if t133 ≥ t129 then (if t133 ≥ t131 then ((lombardlaw13_awake.f kj13).bind fun t136 => (some t136)) else (some false)) else (some false)) else (some false)) else (some false)) = some r := by rw [if_neg (show ¬ (false = true) by decide)] at H; exact H
              clear H
              have H := H1
              clear H1
              by_cases c28 : t133 ≥ (wrap64 (t129 + t131))
              · rw [if_pos c28] at H
                have c28b0 : decide ((wrap64 (t129 + t131)) ≤ t133) = true := decide_eq_true c28
                clear c28
                by_cases c29 : t133 ≤ (wrap64 ((wrap64 (t129 + t131)) + 1))
                · rw [if_pos c29] at H
                  have c29b0 : decide (t133 ≤ (wrap64 ((wrap64 (t129 + t131)) + 1))) = true := decide_eq_true c29
                  clear c29
                  by_cases c30 : t133 ≥ t129
                  · rw [if_pos c30] at H
                    have c30b0 : decide (t129 ≤ t133) = true := decide_eq_true c30
                    clear c30
                    by_cases c31 : t133 ≥ t131
                    · rw [if_pos c31] at H
                      have c31b0 : decide (t131 ≤ t133) = true := decide_eq_true c31
                      clear c31
                      replace H := Option.bind_eq_some_iff.mp H
                      obtain ⟨t136, A320, H⟩ := H
                      replace H : (some t136) = some r := H
                      have A32 := Aside0.mk A320
                      clear A320
                      obtain rfl := Option.some.inj H
                      go_wp2_with (first | (go_at_call 9; (with_reducible refine (lombardlaw13_awake.calls kj13  t136 _ A32.out).mono ?_); rintro e w33 ⟨rfl, hb⟩; have n0_ := Aside0.mk (below_step (by repeat (first | (with_reducible first | exact HB.out | apply below_alloc | apply pw_below_drewN | apply below_drew1) | exact HB.out)) hb); clear HB; have HB := n0_; clear n0_; (try clear hb); (try clear hb2); (try clear hk); (try clear hi)))
                      go_ret
                      exact ⟨by first | rfl | (simp [errW_none, errW_some] <;> rfl) | (simp [*, errW_none, errW_some] <;> rfl), by repeat (first | (with_reducible first | exact HB.out | apply below_alloc | apply pw_below_drewN | apply below_drew1) | exact HB.out)⟩
                    · rw [if_neg c31] at H
                      have c31b0 : decide (t131 ≤ t133) = false := decide_eq_false c31
                      clear c31
                      obtain rfl := Option.some.inj H
                      go_wp2
                      go_ret
                      exact ⟨by first | rfl | (simp [errW_none, errW_some] <;> rfl) | (simp [*, errW_none, errW_some] <;> rfl), by repeat (first | (with_reducible first | exact HB.out | apply below_alloc | apply pw_below_drewN | apply below_drew1) | exact HB.out)⟩
                  · rw [if_neg c30] at H
                    have c30b0 : decide (t129 ≤ t133) = false := decide_eq_false c30
                    clear c30
                    obtain rfl := Option.some.inj H
                    go_wp2
                    go_ret
                    exact ⟨by first | rfl | (simp [errW_none, errW_some] <;> rfl) | (simp [*, errW_none, errW_some] <;> rfl), by repeat (first | (with_reducible first | exact HB.out | apply below_alloc | apply pw_below_drewN | apply below_drew1) | exact HB.out)⟩
                · rw [if_neg c29] at H
                  have c29b0 : decide (t133 ≤ (wrap64 ((wrap64 (t129 + t131)) + 1))) = false := decide_eq_false c29
                  clear c29
                  obtain rfl := Option.some.inj H
                  go_wp2
                  go_ret
                  exact ⟨by first | rfl | (simp [errW_none, errW_some] <;> rfl) | (simp [*, errW_none, errW_some] <;> rfl), by repeat (first | (with_reducible first | exact HB.out | apply below_alloc | apply pw_below_drewN | apply below_drew1) | exact HB.out)⟩
              · rw [if_neg c28] at H
                have c28b0 : decide ((wrap64 (t129 + t131)) ≤ t133) = false := decide_eq_false c28
                clear c28
                obtain rfl := Option.some.inj H
                go_wp2
                go_ret
                exact ⟨by first | rfl | (simp [errW_none, errW_some] <;> rfl) | (simp [*, errW_none, errW_some] <;> rfl), by repeat (first | (with_reducible first | exact HB.out | apply below_alloc | apply pw_below_drewN | apply below_drew1) | exact HB.out)⟩

/-- THE ONE PURE STATEMENT of lombardlaw13_AssetMore: yours. -/
def lombardlaw13_AssetMore.Pure : Prop := ∀ (a0 : Int) (a1 : Int) (a2 : Int), (Lit.int .i64 a0).wf = true → (Lit.int .i64 a1).wf = true → (Lit.int .i64 a2).wf = true → ∃ k, lombardlaw13_AssetMore.f k a0 a1 a2 = some true
theorem lombardlaw13_AssetMore.walk (P : lombardlaw13_AssetMore.Pure) (a0 : Int) (a1 : Int) (a2 : Int) (w : World) (w0 : (Lit.int .i64 a0).wf = true) (w1 : (Lit.int .i64 a1).wf = true) (w2 : (Lit.int .i64 a2).wf = true) :
    Calls Try.prog 3 #[.int .i64 a0, .int .i64 a1, .int .i64 a2] w fun e w' => e = .returned (.bool true) ∧ Below w.heap.size w w' := by
  obtain ⟨k, h⟩ := P a0 a1 a2 w0 w1 w2
  refine (lombardlaw13_AssetMore.calls k a0 a1 a2 true w h).mono ?_
  rintro e w' ⟨rfl, hd⟩
  exact ⟨rfl, hd⟩

end Go.Proofs.Ytkcjlpiaaklnkaa.PAssetMore
