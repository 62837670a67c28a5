/- Shows sums and differences, or that they have no place, of the printed functions. -/
import Derived.Test.YtjbpblcohlainaaPrintx37
import Derived.Test.YtjbpblcohlainaaPrintx35
import Derived.Test.YtjbpblcohlainaaPrintx36
import Derived.Test.YtjbpblcohlainaaLaw01a
import Derived.Test.YtjbpblcohlainaaSumT
namespace Go.Proofs.Ytjbpblcohlainaa.Print
open Go.RowKit Go.Proofs.YtjbpblcohlainaaW.PrintWords Go.Proofs.YtjbpblcohlainaaW.PrintLast Go.Proofs.YtjbpblcohlainaaW.PrintMore Go.Pm.Arith
set_option linter.unusedVariables false
set_option linter.unusedSimpArgs false

theorem minus_is (a b : Int) (ha : inI64 a) (hb : inI64 b) : fixnum_Minus.f a b = some (sumOf (a - b)) := by
  unfold inI64 at ha hb
  unfold sumOf
  simp only [fixnum_Minus.f, wrap64]
  repeat' split
  all_goals first
    | (exfalso; omega)
    | rfl
    | (congr 2; omega)

theorem ref_minus_is (a b : Int) (ha : inI64 a) (hb : inI64 b) : lombardref01_Minus.f a b = some (sumOf (a - b)) := by
  unfold inI64 at ha hb
  unfold sumOf
  simp only [lombardref01_Minus.f, wrap64]
  repeat' split
  all_goals first
    | (exfalso; omega)
    | rfl
    | (congr 2; omega)

end Go.Proofs.Ytjbpblcohlainaa.Print
namespace Go.Proofs.Ytjbpblcohlainaa.Pure
open Go.RowKit Go.Proofs.Ytjbpblcohlainaa.Print Go.Proofs.YtjbpblcohlainaaW.PrintWords Go.Proofs.YtjbpblcohlainaaW.PrintLast

theorem FixnumSums : lombardlaw01_FixnumSums.Pure := by
  intro a b l wa wb hl hl8 hw
  have ha : inI64 a := wf_i64 wa
  have hb : inI64 b := wf_i64 wb
  obtain ⟨e1, e2⟩ := sum_is l (fun x hx => wf_i64 (hw x hx)) (by omega)
  refine Ev.rounds (r := true) ?_
  refine Ev.congr (fun k => by rw [lombardlaw01_FixnumSums.f, plus_is a b ha hb, Option.bind_some, ref_plus_is a b ha hb, Option.bind_some, minus_is a b ha hb, Option.bind_some, ref_minus_is a b ha hb, Option.bind_some]) (Ev.bind e1 (Ev.bind e2 ?_))
  exact Ev.congr (fun k => by rw [if_pos rfl, if_pos rfl, if_pos rfl, if_pos rfl, if_pos rfl, if_pos rfl]) then_awake

end Go.Proofs.Ytjbpblcohlainaa.Pure
