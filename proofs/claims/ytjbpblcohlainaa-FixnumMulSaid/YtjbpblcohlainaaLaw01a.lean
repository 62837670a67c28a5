/- Shows that the chapter's examples come out, and when a number of the program's is the document's. -/
import Derived.Test.YtjbpblcohlainaaBigB
import Derived.Test.YtjbpblcohlainaaPrintx6
import Derived.Test.YtjbpblcohlainaaPrintx18
namespace Go.Proofs.Ytjbpblcohlainaa.Print
open Go.RowKit Go.Proofs.YtjbpblcohlainaaW.PrintWords Go.Proofs.YtjbpblcohlainaaW.PrintLast Go.Proofs.YtjbpblcohlainaaW.PrintMore Go.Pm.Arith Go.Pm.Big
set_option linter.unusedVariables false
set_option linter.unusedSimpArgs false

theorem awake_ev : Ev (fun k => lombardlaw01_awake.f k) true :=
  Ev.of (fun k => lombardlaw01_awake.mono k) (k := 90) (by decide +kernel)

theorem then_awake : Ev (fun k => (lombardlaw01_awake.f k).bind fun t => some t) true := Ev.bind awake_ev (Ev.now true)

theorem is_is (hi lo : Int) (l : List Int) (n : Int) (h0 : 0 ≤ hi) (h1 : hi < 18446744073709551616) (l0 : 0 ≤ lo) (l1 : lo < 18446744073709551616) (hl : Is l n) (ll : l.length < 1000000) :
    Ev (fun k => lombardlaw01_is.f k hi lo l) (decide (hi * 18446744073709551616 + lo = n)) := by
  obtain ⟨r, hr, hrl, hE⟩ := two_is hi lo h0 h1 l0 l1
  obtain ⟨c, c1, c2, hE2⟩ := compare_is hr hl (by omega) ll
  have e : (c == 0) = decide (hi * 18446744073709551616 + lo = n) := by
    by_cases h : hi * 18446744073709551616 + lo = n
    · rw [decide_eq_true h]; exact beq_iff_eq.mpr (c2.mpr h)
    · rw [decide_eq_false h]; exact beq_eq_false_iff_ne.mpr (fun x => h (c2.mp x))
  rw [← e]
  exact Ev.bind hE (Ev.bind hE2 (Ev.now _))

theorem wf_u64 {a : Int} (h : (Lit.int .u64 a).wf = true) : 0 ≤ a ∧ a < 18446744073709551616 := by
  simp only [Lit.wf, IntKind.min, IntKind.max, IntKind.signed, IntKind.bits, Bool.and_eq_true, decide_eq_true_eq] at h
  simp at h
  omega

theorem wf_i64 {a : Int} (h : (Lit.int .i64 a).wf = true) : -9223372036854775808 ≤ a ∧ a < 9223372036854775808 := by
  simp only [Lit.wf, IntKind.min, IntKind.max, IntKind.signed, IntKind.bits, Bool.and_eq_true, decide_eq_true_eq] at h
  simp at h
  omega

end Go.Proofs.Ytjbpblcohlainaa.Print
