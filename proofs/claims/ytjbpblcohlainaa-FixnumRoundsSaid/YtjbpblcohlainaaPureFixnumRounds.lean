/- Shows that up and down are as near as can be, and that all ways agree where nothing is rounded, of the printed functions. -/
import Derived.Test.YtjbpblcohlainaaPrintx34
import Derived.Test.YtjbpblcohlainaaPrintx33
import Derived.Test.YtjbpblcohlainaaLaw01a
import Derived.Test.YtjbpblcohlainaaBigAll
import Derived.Test.YtjbpblcohlainaaMdT
namespace Go.Proofs.Ytjbpblcohlainaa.Print
open Go.RowKit Go.Proofs.YtjbpblcohlainaaW.PrintWords Go.Proofs.YtjbpblcohlainaaW.PrintLast Go.Proofs.YtjbpblcohlainaaW.PrintMore Go.Pm.Arith Go.Pm.Big
set_option linter.unusedVariables false
set_option linter.unusedSimpArgs false

theorem abs_is (n : Int) (h₀ : -9223372036854775808 ≤ n) (h₁ : n < 9223372036854775808) : ∃ v, lombardlaw01_abs.f n = some v ∧ IntKind.u64.wrap v = (n.natAbs : Int) := by
  unfold lombardlaw01_abs.f
  split
  · refine ⟨_, rfl, ?_⟩
    rw [u64_wrap]; unfold wrap64; omega
  · refine ⟨_, rfl, ?_⟩
    rw [u64_wrap]; omega

theorem signOf_ok {u : Int} {m : Bool} (h : (signOf u m).2 = 0) : signOf u m = (if m = true then -u else u, 0) ∧ u ≤ 9223372036854775808 := by
  unfold signOf at h ⊢
  split at h
  · cases h
  · rename_i c
    rw [if_neg c]
    refine ⟨?_, by omega⟩
    split <;> rfl

/-- What four ways to round come to, where up and down have a place. -/
theorem rounds_of (Q R d : Int) (m : Bool) (hQ : 0 ≤ Q) (hx : (signOf (Q + (if roundUp Q R d m 1 = true then 1 else 0)) m).2 = 0) (hy : (signOf (Q + (if roundUp Q R d m 2 = true then 1 else 0)) m).2 = 0) :
    ∃ x y z w : Int, signOf (Q + (if roundUp Q R d m 1 = true then 1 else 0)) m = (x, 0) ∧ signOf (Q + (if roundUp Q R d m 2 = true then 1 else 0)) m = (y, 0) ∧
      signOf (Q + (if roundUp Q R d m 3 = true then 1 else 0)) m = (z, 0) ∧ signOf (Q + (if roundUp Q R d m 4 = true then 1 else 0)) m = (w, 0) ∧
      (R = 0 → x = y) ∧ (R ≠ 0 → y - x = 1) ∧ (z = x ∨ z = y) ∧ (w = x ∨ w = y) := by
  have r3 : roundUp Q R d m 3 = false := by unfold roundUp; split <;> rfl
  have r1 : roundUp Q R d m 1 = (decide (R ≠ 0) && m) := by unfold roundUp; by_cases h : R = 0 <;> simp [h]
  have r2 : roundUp Q R d m 2 = (decide (R ≠ 0) && !m) := by unfold roundUp; by_cases h : R = 0 <;> simp [h]
  have r4 : R = 0 → roundUp Q R d m 4 = false := fun h => by unfold roundUp; rw [if_pos h]
  have f0 : Q + (if (false : Bool) = true then (1 : Int) else 0) = Q := by rw [if_neg (by decide), Int.add_zero]
  have f1 : Q + (if (true : Bool) = true then (1 : Int) else 0) = Q + 1 := by rw [if_pos rfl]
  rw [r1] at hx
  rw [r2] at hy
  rw [r1, r2, r3]
  by_cases hR : R = 0
  · have e : decide (R ≠ 0) = false := by simp [hR]
    rw [e, Bool.false_and, f0] at hx
    rw [r4 hR, e, Bool.false_and, Bool.false_and, f0]
    obtain ⟨e1, _⟩ := signOf_ok hx
    exact ⟨_, _, _, _, e1, e1, e1, e1, fun _ => rfl, fun h => absurd hR h, Or.inl rfl, Or.inl rfl⟩
  · have e : decide (R ≠ 0) = true := by simp [hR]
    rw [e, Bool.true_and] at hx hy ⊢
    rw [Bool.true_and]
    cases m
    · rw [Bool.not_false] at hy ⊢
      rw [f0] at hx ⊢
      rw [f1] at hy ⊢
      obtain ⟨e1, _⟩ := signOf_ok hx
      obtain ⟨e2, _⟩ := signOf_ok hy
      rw [if_neg (by decide)] at e1 e2
      cases r : roundUp Q R d false 4
      · rw [f0]
        exact ⟨_, _, _, _, e1, e2, e1, e1, fun h => absurd h hR, fun _ => by omega, Or.inl rfl, Or.inl rfl⟩
      · rw [f1]
        exact ⟨_, _, _, _, e1, e2, e1, e2, fun h => absurd h hR, fun _ => by omega, Or.inl rfl, Or.inr rfl⟩
    · rw [Bool.not_true] at hy ⊢
      rw [f1] at hx ⊢
      rw [f0] at hy ⊢
      obtain ⟨e1, _⟩ := signOf_ok hx
      obtain ⟨e2, _⟩ := signOf_ok hy
      rw [if_pos rfl] at e1 e2
      cases r : roundUp Q R d true 4
      · rw [f0]
        exact ⟨_, _, _, _, e1, e2, e2, e2, fun h => absurd h hR, fun _ => by omega, Or.inr rfl, Or.inr rfl⟩
      · rw [f1]
        exact ⟨_, _, _, _, e1, e2, e2, e1, fun h => absurd h hR, fun _ => by omega, Or.inr rfl, Or.inl rfl⟩

end Go.Proofs.Ytjbpblcohlainaa.Print
namespace Go.Proofs.Ytjbpblcohlainaa.Pure
open Go.RowKit Go.Proofs.Ytjbpblcohlainaa.Print Go.Proofs.YtjbpblcohlainaaW.PrintWords Go.Proofs.YtjbpblcohlainaaW.PrintLast Go.Pm.Arith Go.Pm.Big

theorem FixnumRounds : lombardlaw01_FixnumRounds.Pure := by
  intro a b c wa wb wc
  have ha := wf_i64 wa
  have hb := wf_i64 wb
  have hc := wf_i64 wc
  refine Ev.rounds (r := true) ?_
  refine Ev.congr (fun k => by rw [lombardlaw01_FixnumRounds.f]) (Ev.bind (muldiv_is a b c 1 ha hb hc) (Ev.bind (muldiv_is a b c 2 ha hb hc) (Ev.bind (muldiv_is a b c 3 ha hb hc) (Ev.bind (muldiv_is a b c 4 ha hb hc) ?_))))
  have over : ∀ x7 x9 x11 x12 x13 x14, Ev (fun k => lombardlaw01_FixnumRounds.j0 k a b c x7 x9 x11 x12 x13 x14 true) true := fun x7 x9 x11 x12 x13 x14 =>
    Ev.step (fun k => by rw [lombardlaw01_FixnumRounds.j0, if_pos rfl]) then_awake
  by_cases h1 : (mdOf a b c 1).2 = 0
  · by_cases h2 : (mdOf a b c 2).2 = 0
    · have c0 : ¬ c = 0 := fun h => by unfold mdOf at h1; rw [if_pos (Or.inl h)] at h1; cases h1
      have q : ∀ how, how = 1 ∨ how = 2 ∨ how = 3 ∨ how = 4 → mdOf a b c how = signOf (quotOf ((a.natAbs : Int) * (b.natAbs : Int)) (c.natAbs : Int) (minusOf a b c) how) (minusOf a b c) := fun how h => by
        unfold mdOf; rw [if_neg (by omega)]
      rw [q 1 (by decide), q 2 (by decide), q 3 (by decide), q 4 (by decide)]
      rw [q 1 (by decide)] at h1
      rw [q 2 (by decide)] at h2
      obtain ⟨va, ea, fa⟩ := abs_is a ha.1 ha.2
      obtain ⟨vb, eb, fb⟩ := abs_is b hb.1 hb.2
      obtain ⟨vc, ec, fc⟩ := abs_is c hc.1 hc.2
      obtain ⟨x, hx, xl, hE1⟩ := of_is (a.natAbs : Int) (by omega) (by omega)
      obtain ⟨y, hy, yl, hE2⟩ := of_is (b.natAbs : Int) (by omega) (by omega)
      obtain ⟨z, hz, zl, hE3⟩ := of_is (c.natAbs : Int) (by omega) (by omega)
      obtain ⟨p, hp, pl, hE4⟩ := mul_is2 hx hy (by omega) (by omega)
      have dp : 0 < (c.natAbs : Int) := by omega
      obtain ⟨q', r, hq, hr, ql, rl, hE5⟩ := div_is2 hp hz dp (by omega) (by omega)
      unfold quotOf at h1 h2 ⊢
      obtain ⟨X, Y, Z, W, k1, k2, k3, k4, g1, g2, g3, g4⟩ := rounds_of _ _ _ _ hq.nonneg h1 h2
      rw [k1, k2, k3, k4]
      refine Ev.congr (fun k => by rw [if_pos rfl]; rfl) (?_ : Ev (fun k => lombardlaw01_FixnumRounds.j0 k a b c X Y Z 0 W 0 false) true)
      refine Ev.step (fun k => by rw [lombardlaw01_FixnumRounds.j0, if_neg (by decide), ea, Option.bind_some, fa]) (Ev.bind hE1 ?_)
      refine Ev.congr (fun k => by rw [eb, Option.bind_some, fb]) (Ev.bind hE2 (Ev.bind hE4 ?_))
      refine Ev.congr (fun k => by rw [ec, Option.bind_some, fc]) (Ev.bind hE3 (Ev.bind hE5 ?_))
      refine Ev.congr (fun k => ?_) then_awake
      generalize (a.natAbs : Int) * (b.natAbs : Int) % (c.natAbs : Int) = R at *
      by_cases hR : R = 0
      · have l0 : (r.length : Int) = 0 := by subst hR; rw [hr.zero]; rfl
        obtain rfl := g1 hR
        have z1 : Z = X := by omega
        have w1 : W = X := by omega
        have t1 : ((X == X) == ((r.length : Int) == 0)) = true := by rw [l0]; simp
        rw [if_pos rfl, if_pos rfl, if_pos t1, if_pos l0, if_pos z1, if_pos w1]
      · have l0 : ¬ (r.length : Int) = 0 := fun h => hR (by
          have : r = [] := List.length_eq_zero_iff.mp (by omega)
          rw [← hr.val, this]; rfl)
        have d1 := g2 hR
        have t1 : ((X == Y) == ((r.length : Int) == 0)) = true := by
          rw [beq_eq_false_iff_ne.mpr (show X ≠ Y by omega), beq_eq_false_iff_ne.mpr l0]; rfl
        have w64' : wrap64 (Y - X) = 1 := by rw [d1]; unfold wrap64; decide
        rw [if_pos rfl, if_pos rfl, if_pos t1, if_neg l0, if_pos w64']
        rcases g3 with rfl | rfl
        · rw [if_pos rfl]
          rcases g4 with rfl | rfl
          · rw [if_pos rfl]
          · rw [if_neg (by omega), if_pos rfl]
        · rw [if_neg (by omega), if_pos rfl]
          rcases g4 with rfl | rfl
          · rw [if_pos rfl]
          · rw [if_neg (by omega), if_pos rfl]
    · exact Ev.congr (fun k => by rw [if_pos h1, show ((mdOf a b c 2).2 != 0) = true from bne_iff_ne.mpr h2]) (over _ _ _ _ _ _)
  · exact Ev.congr (fun k => by rw [if_neg h1]) (over _ _ _ _ _ _)

end Go.Proofs.Ytjbpblcohlainaa.Pure
