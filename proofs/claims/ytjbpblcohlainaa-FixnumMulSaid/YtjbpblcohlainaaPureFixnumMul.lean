/- Shows the product of every two numbers, of the printed functions. -/
import Derived.Test.YtjbpblcohlainaaPrintx19
import Derived.Test.YtjbpblcohlainaaLaw01a
import Derived.Test.YtjbpblcohlainaaFixN
namespace Go.Proofs.Ytjbpblcohlainaa.Pure
open Go.RowKit Go.Proofs.Ytjbpblcohlainaa.Print Go.Proofs.YtjbpblcohlainaaW.PrintWords Go.Proofs.YtjbpblcohlainaaW.PrintLast Go.Pm.Arith Go.Pm.Big
set_option linter.unusedVariables false
set_option linter.unusedSimpArgs false

theorem FixnumMul : lombardlaw01_FixnumMul.Pure := by
  intro a b wa wb
  obtain ⟨a0, a1⟩ := wf_u64 wa
  obtain ⟨b0, b1⟩ := wf_u64 wb
  obtain ⟨x, hx, hxl, hE1⟩ := of_is a a0 a1
  obtain ⟨y, hy, hyl, hE2⟩ := of_is b b0 b1
  obtain ⟨z, hz, hzl, hE3⟩ := mul_is2 hx hy (by omega) (by omega)
  have p0 : 0 ≤ a * b := Int.mul_nonneg a0 b0
  have p1 : a * b ≤ 18446744073709551615 * 18446744073709551615 := Int.mul_le_mul (by omega) (by omega) b0 (by decide)
  have hi : 0 ≤ hiOf a b ∧ hiOf a b < 18446744073709551616 ∧ 0 ≤ loOf a b ∧ loOf a b < 18446744073709551616 ∧ hiOf a b * 18446744073709551616 + loOf a b = a * b := by unfold hiOf loOf; omega
  have hE4 := is_is (hiOf a b) (loOf a b) z (a * b) hi.1 hi.2.1 hi.2.2.1 hi.2.2.2.1 hz (by omega)
  rw [decide_eq_true hi.2.2.2.2] at hE4
  refine Ev.rounds (r := true) ?_
  refine Ev.congr (fun k => by rw [lombardlaw01_FixnumMul.f, mul_is a b a0 a1 b0 b1, Option.bind_some]) (Ev.bind hE1 (Ev.bind hE2 (Ev.bind hE3 (Ev.bind hE4 ?_))))
  exact Ev.congr (fun k => by rw [if_pos rfl]) then_awake

end Go.Proofs.Ytjbpblcohlainaa.Pure
