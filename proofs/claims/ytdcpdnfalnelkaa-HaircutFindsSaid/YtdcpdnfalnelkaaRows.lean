/-
  No cell of these rows narrows 'for every input' (looked for: loops, veiled, ifaces, maps, wideKeys, modest, calm, conditions, laid).
  DERIVED. THE GIVEN ROWS OF THIS SEAT. 6 by the template 'for every input the law returns true; each argument reads behind the call as it read before'; 0 by the template 'total and deterministic' (their statements: YtdcpdnfalnelkaaTotals.lean).
  GIVEN WITH THE SEED: the statements are not yours to turn. If you find one false, say at which input.
  Laid BY PROGRAM, IN A SANDBOX (cutbox-rows.mjs): the forced cells as the released guide's own fill.sh prints them over the translation 31f9eeed217785d0… (all of the seat's roots in one cut). By AI agents, Wed Nov 11 2026. No macro, syntax, notation, axiom, sorry.
-/
import Derived.Test.YtdcpdnfalnelkaaChecked
import GoSem.Claim
import GoSem.ClaimJoined
import GoSem.ClaimMapViews
import Derived.JoinedTies
import Derived.KernelRfl
namespace Go.Proofs.Ytdcpdnfalnelkaa
/- THE CELL 'sum', in the pinned program and in every row, IS THE sha256 OF THE DUMP (.gsa) THAT YtdcpdnfalnelkaaProg.lean LOADS. Nothing in Lean hashes anything: it is a label: what it is worth is what the hold of that sum in a sandbox is worth. -/
noncomputable def Try.pinned : Pinned := { name := "ytdcpdnfalnelkaa", sum := "31f9eeed217785d0969b7e6ac39865c9a0352df0e2e2a2e7d72f61a4ac2f75d7", checked := Try.checked }
namespace Rows
def none {H : Type} : Left H := { results := [], args := [] }

/-- 'lombardlaw15.HaircutMore': WHATEVER THE INPUT: true; the input reads as it did. -/
def haircutMoreSpec : ChangeSpec := { name := "haircutMore", fn := fun _ => fun
  | [d1, d2, d3, d4, d5] => { results := [.lit (.bool true)], args := [d1, d2, d3, d4, d5] }
  | _ => none }
def haircutMoreRow : OpenClaim := { program := "ytdcpdnfalnelkaa", sum := "31f9eeed217785d0969b7e6ac39865c9a0352df0e2e2a2e7d72f61a4ac2f75d7", func := "lombard/lombardlaw15.HaircutMore", spec := "haircutMore", apart := false }
def HaircutMoreSaid : Prop := haircutMoreRow.holds Try.pinned (OpenSpec.ofChange haircutMoreSpec)

/-- ITS FALSE NEIGHBOUR: 'it returns false'. Refute it at one input. -/
def haircutMoreWrong : ChangeSpec := { name := "haircutMore", fn := fun _ => fun
  | [d1, d2, d3, d4, d5] => { results := [.lit (.bool false)], args := [d1, d2, d3, d4, d5] }
  | _ => none }
def HaircutMoreWrongFalsely : Prop := haircutMoreRow.holds Try.pinned (OpenSpec.ofChange haircutMoreWrong)

/-- 'lombardlaw15.HaircutCovers': WHATEVER THE INPUT: true; the input reads as it did. -/
def haircutCoversSpec : ChangeSpec := { name := "haircutCovers", fn := fun _ => fun
  | [d1, d2, d3, d4] => { results := [.lit (.bool true)], args := [d1, d2, d3, d4] }
  | _ => none }
def haircutCoversRow : OpenClaim := { program := "ytdcpdnfalnelkaa", sum := "31f9eeed217785d0969b7e6ac39865c9a0352df0e2e2a2e7d72f61a4ac2f75d7", func := "lombard/lombardlaw15.HaircutCovers", spec := "haircutCovers", apart := false }
def HaircutCoversSaid : Prop := haircutCoversRow.holds Try.pinned (OpenSpec.ofChange haircutCoversSpec)

/-- ITS FALSE NEIGHBOUR: 'it returns false'. Refute it at one input. -/
def haircutCoversWrong : ChangeSpec := { name := "haircutCovers", fn := fun _ => fun
  | [d1, d2, d3, d4] => { results := [.lit (.bool false)], args := [d1, d2, d3, d4] }
  | _ => none }
def HaircutCoversWrongFalsely : Prop := haircutCoversRow.holds Try.pinned (OpenSpec.ofChange haircutCoversWrong)

/-- 'lombardlaw15.HaircutTight': WHATEVER THE INPUT: true; the input reads as it did. -/
def haircutTightSpec : ChangeSpec := { name := "haircutTight", fn := fun _ => fun
  | [d1, d2, d3, d4] => { results := [.lit (.bool true)], args := [d1, d2, d3, d4] }
  | _ => none }
def haircutTightRow : OpenClaim := { program := "ytdcpdnfalnelkaa", sum := "31f9eeed217785d0969b7e6ac39865c9a0352df0e2e2a2e7d72f61a4ac2f75d7", func := "lombard/lombardlaw15.HaircutTight", spec := "haircutTight", apart := false }
def HaircutTightSaid : Prop := haircutTightRow.holds Try.pinned (OpenSpec.ofChange haircutTightSpec)

/-- ITS FALSE NEIGHBOUR: 'it returns false'. Refute it at one input. -/
def haircutTightWrong : ChangeSpec := { name := "haircutTight", fn := fun _ => fun
  | [d1, d2, d3, d4] => { results := [.lit (.bool false)], args := [d1, d2, d3, d4] }
  | _ => none }
def HaircutTightWrongFalsely : Prop := haircutTightRow.holds Try.pinned (OpenSpec.ofChange haircutTightWrong)

/-- 'lombardlaw15.HaircutOf': WHATEVER THE INPUT: true; the input reads as it did. -/
def haircutOfSpec : ChangeSpec := { name := "haircutOf", fn := fun _ => fun
  | [d1, d2, d3] => { results := [.lit (.bool true)], args := [d1, d2, d3] }
  | _ => none }
def haircutOfRow : OpenClaim := { program := "ytdcpdnfalnelkaa", sum := "31f9eeed217785d0969b7e6ac39865c9a0352df0e2e2a2e7d72f61a4ac2f75d7", func := "lombard/lombardlaw15.HaircutOf", spec := "haircutOf", apart := false }
def HaircutOfSaid : Prop := haircutOfRow.holds Try.pinned (OpenSpec.ofChange haircutOfSpec)

/-- ITS FALSE NEIGHBOUR: 'it returns false'. Refute it at one input. -/
def haircutOfWrong : ChangeSpec := { name := "haircutOf", fn := fun _ => fun
  | [d1, d2, d3] => { results := [.lit (.bool false)], args := [d1, d2, d3] }
  | _ => none }
def HaircutOfWrongFalsely : Prop := haircutOfRow.holds Try.pinned (OpenSpec.ofChange haircutOfWrong)

/-- 'lombardlaw15.HaircutTotals': WHATEVER THE INPUT: true; the input reads as it did. -/
def haircutTotalsSpec : ChangeSpec := { name := "haircutTotals", fn := fun _ => fun
  | [d1, d2] => { results := [.lit (.bool true)], args := [d1, d2] }
  | _ => none }
def haircutTotalsRow : OpenClaim := { program := "ytdcpdnfalnelkaa", sum := "31f9eeed217785d0969b7e6ac39865c9a0352df0e2e2a2e7d72f61a4ac2f75d7", func := "lombard/lombardlaw15.HaircutTotals", spec := "haircutTotals", apart := false }
def HaircutTotalsSaid : Prop := haircutTotalsRow.holds Try.pinned (OpenSpec.ofChange haircutTotalsSpec)

/-- ITS FALSE NEIGHBOUR: 'it returns false'. Refute it at one input. -/
def haircutTotalsWrong : ChangeSpec := { name := "haircutTotals", fn := fun _ => fun
  | [d1, d2] => { results := [.lit (.bool false)], args := [d1, d2] }
  | _ => none }
def HaircutTotalsWrongFalsely : Prop := haircutTotalsRow.holds Try.pinned (OpenSpec.ofChange haircutTotalsWrong)

/-- 'lombardlaw15.HaircutFinds': WHATEVER THE INPUT: true; the input reads as it did. -/
def haircutFindsSpec : ChangeSpec := { name := "haircutFinds", fn := fun _ => fun
  | [d1, d2, d3, d4, d5] => { results := [.lit (.bool true)], args := [d1, d2, d3, d4, d5] }
  | _ => none }
def haircutFindsRow : OpenClaim := { program := "ytdcpdnfalnelkaa", sum := "31f9eeed217785d0969b7e6ac39865c9a0352df0e2e2a2e7d72f61a4ac2f75d7", func := "lombard/lombardlaw15.HaircutFinds", spec := "haircutFinds", inPlace := ["slices.overlaps[lombard/api.Asset]", "slices.overlaps[int]"], unfollowed := true, recurses := true, apart := false }
def HaircutFindsSaid : Prop := haircutFindsRow.holds Try.pinned (OpenSpec.ofChange haircutFindsSpec)

/-- ITS FALSE NEIGHBOUR: 'it returns false'. Refute it at one input. -/
def haircutFindsWrong : ChangeSpec := { name := "haircutFinds", fn := fun _ => fun
  | [d1, d2, d3, d4, d5] => { results := [.lit (.bool false)], args := [d1, d2, d3, d4, d5] }
  | _ => none }
def HaircutFindsWrongFalsely : Prop := haircutFindsRow.holds Try.pinned (OpenSpec.ofChange haircutFindsWrong)

/- THE SECOND FORM. 'bulk': how many values and letters a reading holds, each counted each time it is reached (what is shared counts as often as it is met; a slice's spare places count too). A statement '..UptoSaid' is the law's where the arguments, and the package variables that the reading takes, are together of bulk at most 1048576: NARROWER than '..Said'. Prove '..Said' where nothing that the law and all that it calls make is longer than what came in: it says more and counts as full. Else prove '..UptoSaid'. A law counts once. -/
mutual
def uptoBulk {H : Type} : DataW H → Nat
  | .lit (.string bytes) => bytes.length + 1
  | .lit _ => 1
  | .nil => 1
  | .ptr d => uptoBulk d + 1
  | .slice elems spare => uptoBulkAll elems + uptoBulkAll spare + 1
  | .agg parts => uptoBulkAll parts + 1
  | .iface _ d => uptoBulk d + 1
  | .map entries => uptoBulkEntries entries + 1
  | .held _ => 1
def uptoBulkAll {H : Type} : List (DataW H) → Nat
  | [] => 0
  | d :: r => uptoBulk d + uptoBulkAll r
def uptoBulkEntries {H : Type} : List (Lit × DataW H) → Nat
  | [] => 0
  | x :: r => uptoBulkEntry x + uptoBulkEntries r
def uptoBulkEntry {H : Type} : Lit × DataW H → Nat
  | (.string bytes, d) => bytes.length + uptoBulk d + 1
  | (_, d) => uptoBulk d + 1
 end
def uptoSmall : (H : Type) → List (DataW H) → Bool := fun _ ds => decide (uptoBulkAll ds ≤ 1048576)
def OpenSpec.upto (s : _root_.Go.ChangeSpec) : _root_.Go.OpenSpec := { _root_.Go.OpenSpec.ofChange s with cond := some uptoSmall }

/-- 'lombardlaw15.HaircutMore', WHERE WHAT IT READS IS OF BULK AT MOST 1048576: true; the input reads as it did. -/
def haircutMoreUptoRow : OpenClaim := { program := "ytdcpdnfalnelkaa", sum := "31f9eeed217785d0969b7e6ac39865c9a0352df0e2e2a2e7d72f61a4ac2f75d7", func := "lombard/lombardlaw15.HaircutMore", spec := "haircutMore", apart := false, narrowed := true }
def HaircutMoreUptoSaid : Prop := haircutMoreUptoRow.holds Try.pinned (OpenSpec.upto haircutMoreSpec)

/-- 'lombardlaw15.HaircutCovers', WHERE WHAT IT READS IS OF BULK AT MOST 1048576: true; the input reads as it did. -/
def haircutCoversUptoRow : OpenClaim := { program := "ytdcpdnfalnelkaa", sum := "31f9eeed217785d0969b7e6ac39865c9a0352df0e2e2a2e7d72f61a4ac2f75d7", func := "lombard/lombardlaw15.HaircutCovers", spec := "haircutCovers", apart := false, narrowed := true }
def HaircutCoversUptoSaid : Prop := haircutCoversUptoRow.holds Try.pinned (OpenSpec.upto haircutCoversSpec)

/-- 'lombardlaw15.HaircutTight', WHERE WHAT IT READS IS OF BULK AT MOST 1048576: true; the input reads as it did. -/
def haircutTightUptoRow : OpenClaim := { program := "ytdcpdnfalnelkaa", sum := "31f9eeed217785d0969b7e6ac39865c9a0352df0e2e2a2e7d72f61a4ac2f75d7", func := "lombard/lombardlaw15.HaircutTight", spec := "haircutTight", apart := false, narrowed := true }
def HaircutTightUptoSaid : Prop := haircutTightUptoRow.holds Try.pinned (OpenSpec.upto haircutTightSpec)

/-- 'lombardlaw15.HaircutOf', WHERE WHAT IT READS IS OF BULK AT MOST 1048576: true; the input reads as it did. -/
def haircutOfUptoRow : OpenClaim := { program := "ytdcpdnfalnelkaa", sum := "31f9eeed217785d0969b7e6ac39865c9a0352df0e2e2a2e7d72f61a4ac2f75d7", func := "lombard/lombardlaw15.HaircutOf", spec := "haircutOf", apart := false, narrowed := true }
def HaircutOfUptoSaid : Prop := haircutOfUptoRow.holds Try.pinned (OpenSpec.upto haircutOfSpec)

/-- 'lombardlaw15.HaircutTotals', WHERE WHAT IT READS IS OF BULK AT MOST 1048576: true; the input reads as it did. -/
def haircutTotalsUptoRow : OpenClaim := { program := "ytdcpdnfalnelkaa", sum := "31f9eeed217785d0969b7e6ac39865c9a0352df0e2e2a2e7d72f61a4ac2f75d7", func := "lombard/lombardlaw15.HaircutTotals", spec := "haircutTotals", apart := false, narrowed := true }
def HaircutTotalsUptoSaid : Prop := haircutTotalsUptoRow.holds Try.pinned (OpenSpec.upto haircutTotalsSpec)

/-- 'lombardlaw15.HaircutFinds', WHERE WHAT IT READS IS OF BULK AT MOST 1048576: true; the input reads as it did. -/
def haircutFindsUptoRow : OpenClaim := { program := "ytdcpdnfalnelkaa", sum := "31f9eeed217785d0969b7e6ac39865c9a0352df0e2e2a2e7d72f61a4ac2f75d7", func := "lombard/lombardlaw15.HaircutFinds", spec := "haircutFinds", inPlace := ["slices.overlaps[lombard/api.Asset]", "slices.overlaps[int]"], unfollowed := true, recurses := true, apart := false, narrowed := true }
def HaircutFindsUptoSaid : Prop := haircutFindsUptoRow.holds Try.pinned (OpenSpec.upto haircutFindsSpec)

end Rows
end Go.Proofs.Ytdcpdnfalnelkaa
