/- Shows a product divided, rounded in every way, or that it has no place, of the printed functions. -/
import Derived.Test.YtjbpblcohlainaaPrintx27
import Derived.Test.YtjbpblcohlainaaLaw01a
import Derived.Test.YtjbpblcohlainaaRefMdT
namespace Go.Proofs.Ytjbpblcohlainaa.Pure
open Go.RowKit Go.Proofs.Ytjbpblcohlainaa.Print Go.Proofs.YtjbpblcohlainaaW.PrintWords Go.Proofs.YtjbpblcohlainaaW.PrintLast Go.Pm.Arith
set_option linter.unusedVariables false
set_option linter.unusedSimpArgs false

theorem FixnumMulDiv : lombardlaw01_FixnumMulDiv.Pure := by
  intro a b c how wa wb wc wh
  refine Ev.rounds (r := true) ?_
  refine Ev.congr (fun k => by rw [lombardlaw01_FixnumMulDiv.f]) (Ev.bind (muldiv_is a b c how (wf_i64 wa) (wf_i64 wb) (wf_i64 wc)) (Ev.bind (ref_muldiv_is a b c how (wf_i64 wa) (wf_i64 wb) (wf_i64 wc)) ?_))
  exact Ev.congr (fun k => by rw [if_pos rfl, if_pos rfl]) then_awake

end Go.Proofs.Ytjbpblcohlainaa.Pure
