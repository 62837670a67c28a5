/- Shows the quotient and the rest of every wide number, of the printed functions. -/
import Derived.Test.YtjbpblcohlainaaPrintx22
import Derived.Test.YtjbpblcohlainaaPrintx6
import Derived.Test.YtjbpblcohlainaaLaw01a
import Derived.Test.YtjbpblcohlainaaBigAll
import Derived.Test.YtjbpblcohlainaaFixN
namespace Go.Proofs.Ytjbpblcohlainaa.Print
open Go.RowKit Go.Proofs.YtjbpblcohlainaaW.PrintWords Go.Proofs.YtjbpblcohlainaaW.PrintLast Go.Proofs.YtjbpblcohlainaaW.PrintMore Go.Pm.Arith Go.Pm.Big
theorem is_is (hi lo : Int) (l : List Int) (n : Int) (h0 : 0 ≤ hi) (h1 : hi < 18446744073709551616) (l0 : 0 ≤ lo) (l1 : lo < 18446744073709551616) (hl : Is l n) (ll : l.length < 1000000) :
    Ev (fun k => lombardlaw01_is.f k hi lo l) (decide (hi * 18446744073709551616 + lo = n)) := by
  obtain ⟨r, hr, hrl, hE⟩ := two_is hi lo h0 h1 l0 l1
  obtain ⟨c, c1, c2, hE2⟩ := compare_is hr hl (by omega) ll
  have e : (c == 0) = decide (hi * 18446744073709551616 + lo = n) := by
    by_cases h : hi * 18446744073709551616 + lo = n
    · rw [decide_eq_true h]; exact beq_iff_eq.mpr (c2.mpr h)
    · rw [decide_eq_false h]; exact beq_eq_false_iff_ne.mpr (fun x => h (c2.mp x))
  rw [← e]
  exact Ev.bind hE (Ev.bind hE2 (Ev.now _))

end Go.Proofs.Ytjbpblcohlainaa.Print
namespace Go.Proofs.Ytjbpblcohlainaa.Pure
open Go.RowKit Go.Proofs.Ytjbpblcohlainaa.Print Go.Proofs.YtjbpblcohlainaaW.PrintWords Go.Proofs.YtjbpblcohlainaaW.PrintLast Go.Pm.Arith Go.Pm.Big
set_option linter.unusedVariables false
set_option linter.unusedSimpArgs false

theorem wide_div (hi lo d : Int) (hd : 0 < d) (hh : 0 ≤ hi) (hl₀ : 0 ≤ lo) (hl₁ : lo < 18446744073709551616) :
    hi / d * 18446744073709551616 + (hi % d * 18446744073709551616 + lo) / d = (hi * 18446744073709551616 + lo) / d ∧ (hi % d * 18446744073709551616 + lo) % d = (hi * 18446744073709551616 + lo) % d ∧
    0 ≤ (hi % d * 18446744073709551616 + lo) / d ∧ (hi % d * 18446744073709551616 + lo) / d < 18446744073709551616 := by
  have e : hi * 18446744073709551616 + lo = hi % d * 18446744073709551616 + lo + d * (hi / d * 18446744073709551616) := by
    have h := Int.mul_ediv_add_emod hi d
    have : d * (hi / d * 18446744073709551616) = d * (hi / d) * 18446744073709551616 := by rw [Int.mul_assoc]
    rw [this]; omega
  have r0 := Int.emod_nonneg hi (show d ≠ 0 by omega)
  have r1 := Int.emod_lt_of_pos hi hd
  refine ⟨?_, ?_, ?_, ?_⟩
  · rw [e, Int.add_mul_ediv_left _ _ (by omega)]; omega
  · rw [e, Int.add_mul_emod_self_left]
  · exact Int.ediv_nonneg (by omega) (by omega)
  · rw [Int.ediv_lt_iff_lt_mul hd]; omega

theorem FixnumDiv : lombardlaw01_FixnumDiv.Pure := by
  intro a b d wa wb wd
  obtain ⟨a0, a1⟩ := wf_u64 wa
  obtain ⟨b0, b1⟩ := wf_u64 wb
  obtain ⟨d0, d1⟩ := wf_u64 wd
  refine Ev.rounds (r := true) ?_
  by_cases hz : d = 0
  · subst hz
    refine Ev.congr (fun k => ?_) then_awake
    rw [lombardlaw01_FixnumDiv.f, fixnum_Wide_Div.f, if_pos rfl, Option.bind_some, if_pos rfl]
    rfl
  · have dp : 0 < d := by omega
    obtain ⟨e1, e2, e3, e4⟩ := wide_div a b d dp a0 b0 b1
    have hq : 0 ≤ a / d ∧ a / d ≤ a := ⟨Int.ediv_nonneg a0 d0, Int.ediv_le_self _ a0⟩
    have r0 := Int.emod_nonneg (a % d * 18446744073709551616 + b) (show d ≠ 0 by omega)
    have r1 := Int.emod_lt_of_pos (a % d * 18446744073709551616 + b) dp
    obtain ⟨x, hx, hxl, hE1⟩ := two_is a b a0 a1 b0 b1
    obtain ⟨y, hy, hyl, hE2⟩ := of_is d d0 d1
    obtain ⟨q, r, hq2, hr2, ql, rl, hE3⟩ := div_is2 hx hy dp (by omega) (by omega)
    have hE4 := is_is (a / d) ((a % d * 18446744073709551616 + b) / d) q _ hq.1 (by omega) e3 e4 hq2 (by omega)
    rw [decide_eq_true e1] at hE4
    obtain ⟨z, hz2, hzl, hE5⟩ := of_is ((a % d * 18446744073709551616 + b) % d) r0 (by omega)
    obtain ⟨c, _, c2, hE6⟩ := compare_is hz2 hr2 (by omega) (by omega)
    have c3 := c2.mpr e2
    have hE0 : Ev (fun k => fixnum_Wide_Div.f k a b d) (a / d, (a % d * 18446744073709551616 + b) / d, (a % d * 18446744073709551616 + b) % d) :=
      ⟨65, fun k hk => div_is k (by omega) a b d dp d1 a0 a1 b0 b1⟩
    refine Ev.congr (fun k => by rw [lombardlaw01_FixnumDiv.f]) (Ev.bind hE0 ?_)
    refine Ev.congr (fun k => by rw [if_neg hz]) (Ev.bind hE1 (Ev.bind hE2 (Ev.bind hE3 (Ev.bind hE4 ?_))))
    refine Ev.congr (fun k => by rw [if_pos rfl]) (Ev.bind hE5 (Ev.bind hE6 ?_))
    exact Ev.congr (fun k => by rw [if_pos c3, if_pos r1]) then_awake

end Go.Proofs.Ytjbpblcohlainaa.Pure
