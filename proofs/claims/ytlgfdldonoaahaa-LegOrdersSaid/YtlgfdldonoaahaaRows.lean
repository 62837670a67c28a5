/-
  No cell of these rows narrows 'for every input' (looked for: loops, veiled, ifaces, maps, wideKeys, modest, calm, conditions, laid).
  DERIVED. THE GIVEN ROWS OF THIS SEAT. 5 by the template 'for every input the law returns true; each argument reads behind the call as it read before'; 0 by the template 'total and deterministic' (their statements: YtlgfdldonoaahaaTotals.lean).
  GIVEN WITH THE SEED: the statements are not yours to turn. If you find one false, say at which input.
  Laid BY PROGRAM, IN A SANDBOX (cutbox-rows.mjs): the forced cells as the released guide's own fill.sh prints them over the translation 83da435b0bc793d5… (all of the seat's roots in one cut). By AI agents, Wed Nov 11 2026. No macro, syntax, notation, axiom, sorry.
-/
import Derived.Test.YtlgfdldonoaahaaChecked
import GoSem.Claim
import GoSem.ClaimJoined
import GoSem.ClaimMapViews
import Derived.JoinedTies
import Derived.KernelRfl
namespace Go.Proofs.Ytlgfdldonoaahaa
/- THE CELL 'sum', in the pinned program and in every row, IS THE sha256 OF THE DUMP (.gsa) THAT YtlgfdldonoaahaaProg.lean LOADS. Nothing in Lean hashes anything: it is a label: what it is worth is what the hold of that sum in a sandbox is worth. -/
noncomputable def Try.pinned : Pinned := { name := "ytlgfdldonoaahaa", sum := "83da435b0bc793d501f07dd3aa4d8549aaf2e91c788b6399bfd90a5bf237a222", checked := Try.checked }
namespace Rows
def none {H : Type} : Left H := { results := [], args := [] }

/-- 'lombardlaw25.LegBoth': WHATEVER THE INPUT: true; the input reads as it did. -/
def legBothSpec : ChangeSpec := { name := "legBoth", fn := fun _ => fun
  | [d] => { results := [.lit (.bool true)], args := [d] }
  | _ => none }
def legBothRow : OpenClaim := { program := "ytlgfdldonoaahaa", sum := "83da435b0bc793d501f07dd3aa4d8549aaf2e91c788b6399bfd90a5bf237a222", func := "lombard/lombardlaw25.LegBoth", spec := "legBoth", unfollowed := true, recurses := true, apart := false }
def LegBothSaid : Prop := legBothRow.holds Try.pinned (OpenSpec.ofChange legBothSpec)

/-- ITS FALSE NEIGHBOUR: 'it returns false'. Refute it at one input. -/
def legBothWrong : ChangeSpec := { name := "legBoth", fn := fun _ => fun
  | [d] => { results := [.lit (.bool false)], args := [d] }
  | _ => none }
def LegBothWrongFalsely : Prop := legBothRow.holds Try.pinned (OpenSpec.ofChange legBothWrong)

/-- 'lombardlaw25.LegTwins': WHATEVER THE INPUT: true; the input reads as it did. -/
def legTwinsSpec : ChangeSpec := { name := "legTwins", fn := fun _ => fun
  | [d1, d2] => { results := [.lit (.bool true)], args := [d1, d2] }
  | _ => none }
def legTwinsRow : OpenClaim := { program := "ytlgfdldonoaahaa", sum := "83da435b0bc793d501f07dd3aa4d8549aaf2e91c788b6399bfd90a5bf237a222", func := "lombard/lombardlaw25.LegTwins", spec := "legTwins", unfollowed := true, recurses := true, apart := false }
def LegTwinsSaid : Prop := legTwinsRow.holds Try.pinned (OpenSpec.ofChange legTwinsSpec)

/-- ITS FALSE NEIGHBOUR: 'it returns false'. Refute it at one input. -/
def legTwinsWrong : ChangeSpec := { name := "legTwins", fn := fun _ => fun
  | [d1, d2] => { results := [.lit (.bool false)], args := [d1, d2] }
  | _ => none }
def LegTwinsWrongFalsely : Prop := legTwinsRow.holds Try.pinned (OpenSpec.ofChange legTwinsWrong)

/-- 'lombardlaw25.LegInterest': WHATEVER THE INPUT: true; the input reads as it did. -/
def legInterestSpec : ChangeSpec := { name := "legInterest", fn := fun _ => fun
  | [d] => { results := [.lit (.bool true)], args := [d] }
  | _ => none }
def legInterestRow : OpenClaim := { program := "ytlgfdldonoaahaa", sum := "83da435b0bc793d501f07dd3aa4d8549aaf2e91c788b6399bfd90a5bf237a222", func := "lombard/lombardlaw25.LegInterest", spec := "legInterest", unfollowed := true, recurses := true, apart := false }
def LegInterestSaid : Prop := legInterestRow.holds Try.pinned (OpenSpec.ofChange legInterestSpec)

/-- ITS FALSE NEIGHBOUR: 'it returns false'. Refute it at one input. -/
def legInterestWrong : ChangeSpec := { name := "legInterest", fn := fun _ => fun
  | [d] => { results := [.lit (.bool false)], args := [d] }
  | _ => none }
def LegInterestWrongFalsely : Prop := legInterestRow.holds Try.pinned (OpenSpec.ofChange legInterestWrong)

/-- 'lombardlaw25.LegOrders': WHATEVER THE INPUT: true; the input reads as it did. -/
def legOrdersSpec : ChangeSpec := { name := "legOrders", fn := fun _ => fun
  | [d1, d2, d3] => { results := [.lit (.bool true)], args := [d1, d2, d3] }
  | _ => none }
def legOrdersRow : OpenClaim := { program := "ytlgfdldonoaahaa", sum := "83da435b0bc793d501f07dd3aa4d8549aaf2e91c788b6399bfd90a5bf237a222", func := "lombard/lombardlaw25.LegOrders", spec := "legOrders", unfollowed := true, recurses := true, apart := false }
def LegOrdersSaid : Prop := legOrdersRow.holds Try.pinned (OpenSpec.ofChange legOrdersSpec)

/-- ITS FALSE NEIGHBOUR: 'it returns false'. Refute it at one input. -/
def legOrdersWrong : ChangeSpec := { name := "legOrders", fn := fun _ => fun
  | [d1, d2, d3] => { results := [.lit (.bool false)], args := [d1, d2, d3] }
  | _ => none }
def LegOrdersWrongFalsely : Prop := legOrdersRow.holds Try.pinned (OpenSpec.ofChange legOrdersWrong)

/-- 'lombardlaw25.LegDays': WHATEVER THE INPUT: true; the input reads as it did. -/
def legDaysSpec : ChangeSpec := { name := "legDays", fn := fun _ => fun
  | [d1, d2, d3] => { results := [.lit (.bool true)], args := [d1, d2, d3] }
  | _ => none }
def legDaysRow : OpenClaim := { program := "ytlgfdldonoaahaa", sum := "83da435b0bc793d501f07dd3aa4d8549aaf2e91c788b6399bfd90a5bf237a222", func := "lombard/lombardlaw25.LegDays", spec := "legDays", unfollowed := true, recurses := true, apart := false }
def LegDaysSaid : Prop := legDaysRow.holds Try.pinned (OpenSpec.ofChange legDaysSpec)

/-- ITS FALSE NEIGHBOUR: 'it returns false'. Refute it at one input. -/
def legDaysWrong : ChangeSpec := { name := "legDays", fn := fun _ => fun
  | [d1, d2, d3] => { results := [.lit (.bool false)], args := [d1, d2, d3] }
  | _ => none }
def LegDaysWrongFalsely : Prop := legDaysRow.holds Try.pinned (OpenSpec.ofChange legDaysWrong)

/- THE SECOND FORM. 'bulk': how many values and letters a reading holds, each counted each time it is reached (what is shared counts as often as it is met; a slice's spare places count too). A statement '..UptoSaid' is the law's where the arguments, and the package variables that the reading takes, are together of bulk at most 1048576: NARROWER than '..Said'. Prove '..Said' where nothing that the law and all that it calls make is longer than what came in: it says more and counts as full. Else prove '..UptoSaid'. A law counts once. -/
mutual
def uptoBulk {H : Type} : DataW H → Nat
  | .lit (.string bytes) => bytes.length + 1
  | .lit _ => 1
  | .nil => 1
  | .ptr d => uptoBulk d + 1
  | .slice elems spare => uptoBulkAll elems + uptoBulkAll spare + 1
  | .agg parts => uptoBulkAll parts + 1
  | .iface _ d => uptoBulk d + 1
  | .map entries => uptoBulkEntries entries + 1
  | .held _ => 1
def uptoBulkAll {H : Type} : List (DataW H) → Nat
  | [] => 0
  | d :: r => uptoBulk d + uptoBulkAll r
def uptoBulkEntries {H : Type} : List (Lit × DataW H) → Nat
  | [] => 0
  | x :: r => uptoBulkEntry x + uptoBulkEntries r
def uptoBulkEntry {H : Type} : Lit × DataW H → Nat
  | (.string bytes, d) => bytes.length + uptoBulk d + 1
  | (_, d) => uptoBulk d + 1
 end
def uptoSmall : (H : Type) → List (DataW H) → Bool := fun _ ds => decide (uptoBulkAll ds ≤ 1048576)
def OpenSpec.upto (s : _root_.Go.ChangeSpec) : _root_.Go.OpenSpec := { _root_.Go.OpenSpec.ofChange s with cond := some uptoSmall }

/-- 'lombardlaw25.LegBoth', WHERE WHAT IT READS IS OF BULK AT MOST 1048576: true; the input reads as it did. -/
def legBothUptoRow : OpenClaim := { program := "ytlgfdldonoaahaa", sum := "83da435b0bc793d501f07dd3aa4d8549aaf2e91c788b6399bfd90a5bf237a222", func := "lombard/lombardlaw25.LegBoth", spec := "legBoth", unfollowed := true, recurses := true, apart := false, narrowed := true }
def LegBothUptoSaid : Prop := legBothUptoRow.holds Try.pinned (OpenSpec.upto legBothSpec)

/-- 'lombardlaw25.LegTwins', WHERE WHAT IT READS IS OF BULK AT MOST 1048576: true; the input reads as it did. -/
def legTwinsUptoRow : OpenClaim := { program := "ytlgfdldonoaahaa", sum := "83da435b0bc793d501f07dd3aa4d8549aaf2e91c788b6399bfd90a5bf237a222", func := "lombard/lombardlaw25.LegTwins", spec := "legTwins", unfollowed := true, recurses := true, apart := false, narrowed := true }
def LegTwinsUptoSaid : Prop := legTwinsUptoRow.holds Try.pinned (OpenSpec.upto legTwinsSpec)

/-- 'lombardlaw25.LegInterest', WHERE WHAT IT READS IS OF BULK AT MOST 1048576: true; the input reads as it did. -/
def legInterestUptoRow : OpenClaim := { program := "ytlgfdldonoaahaa", sum := "83da435b0bc793d501f07dd3aa4d8549aaf2e91c788b6399bfd90a5bf237a222", func := "lombard/lombardlaw25.LegInterest", spec := "legInterest", unfollowed := true, recurses := true, apart := false, narrowed := true }
def LegInterestUptoSaid : Prop := legInterestUptoRow.holds Try.pinned (OpenSpec.upto legInterestSpec)

/-- 'lombardlaw25.LegOrders', WHERE WHAT IT READS IS OF BULK AT MOST 1048576: true; the input reads as it did. -/
def legOrdersUptoRow : OpenClaim := { program := "ytlgfdldonoaahaa", sum := "83da435b0bc793d501f07dd3aa4d8549aaf2e91c788b6399bfd90a5bf237a222", func := "lombard/lombardlaw25.LegOrders", spec := "legOrders", unfollowed := true, recurses := true, apart := false, narrowed := true }
def LegOrdersUptoSaid : Prop := legOrdersUptoRow.holds Try.pinned (OpenSpec.upto legOrdersSpec)

/-- 'lombardlaw25.LegDays', WHERE WHAT IT READS IS OF BULK AT MOST 1048576: true; the input reads as it did. -/
def legDaysUptoRow : OpenClaim := { program := "ytlgfdldonoaahaa", sum := "83da435b0bc793d501f07dd3aa4d8549aaf2e91c788b6399bfd90a5bf237a222", func := "lombard/lombardlaw25.LegDays", spec := "legDays", unfollowed := true, recurses := true, apart := false, narrowed := true }
def LegDaysUptoSaid : Prop := legDaysUptoRow.holds Try.pinned (OpenSpec.upto legDaysSpec)

end Rows
end Go.Proofs.Ytlgfdldonoaahaa
