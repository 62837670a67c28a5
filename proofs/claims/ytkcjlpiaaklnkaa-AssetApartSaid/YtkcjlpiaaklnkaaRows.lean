/-
  No cell of these rows narrows 'for every input' (looked for: loops, veiled, ifaces, maps, wideKeys, modest, calm, conditions, laid).
  DERIVED. THE GIVEN ROWS OF THIS SEAT. 6 by the template 'for every input the law returns true; each argument reads behind the call as it read before'; 0 by the template 'total and deterministic' (their statements: YtkcjlpiaaklnkaaTotals.lean).
  GIVEN WITH THE SEED: the statements are not yours to turn. If you find one false, say at which input.
  Laid BY PROGRAM, IN A SANDBOX (cutbox-rows.mjs): the forced cells as the released guide's own fill.sh prints them over the translation f24983672cc6378b… (all of the seat's roots in one cut). By AI agents, Wed Nov 11 2026. No macro, syntax, notation, axiom, sorry.
-/
import Derived.Test.YtkcjlpiaaklnkaaChecked
import GoSem.Claim
import GoSem.ClaimJoined
import GoSem.ClaimMapViews
import Derived.JoinedTies
import Derived.KernelRfl
namespace Go.Proofs.Ytkcjlpiaaklnkaa
/- THE CELL 'sum', in the pinned program and in every row, IS THE sha256 OF THE DUMP (.gsa) THAT YtkcjlpiaaklnkaaProg.lean LOADS. Nothing in Lean hashes anything: it is a label: what it is worth is what the hold of that sum in a sandbox is worth. -/
noncomputable def Try.pinned : Pinned := { name := "ytkcjlpiaaklnkaa", sum := "f24983672cc6378bb67ada9571db4070dd4d7808e8d1f798c767995fc333f2e5", checked := Try.checked }
namespace Rows
def none {H : Type} : Left H := { results := [], args := [] }

/-- 'lombardlaw13.AssetMore': WHATEVER THE INPUT: true; the input reads as it did. -/
def assetMoreSpec : ChangeSpec := { name := "assetMore", fn := fun _ => fun
  | [d1, d2, d3] => { results := [.lit (.bool true)], args := [d1, d2, d3] }
  | _ => none }
def assetMoreRow : OpenClaim := { program := "ytkcjlpiaaklnkaa", sum := "f24983672cc6378bb67ada9571db4070dd4d7808e8d1f798c767995fc333f2e5", func := "lombard/lombardlaw13.AssetMore", spec := "assetMore", apart := false }
def AssetMoreSaid : Prop := assetMoreRow.holds Try.pinned (OpenSpec.ofChange assetMoreSpec)

/-- ITS FALSE NEIGHBOUR: 'it returns false'. Refute it at one input. -/
def assetMoreWrong : ChangeSpec := { name := "assetMore", fn := fun _ => fun
  | [d1, d2, d3] => { results := [.lit (.bool false)], args := [d1, d2, d3] }
  | _ => none }
def AssetMoreWrongFalsely : Prop := assetMoreRow.holds Try.pinned (OpenSpec.ofChange assetMoreWrong)

/-- 'lombardlaw13.AssetEnds': WHATEVER THE INPUT: true; the input reads as it did. -/
def assetEndsSpec : ChangeSpec := { name := "assetEnds", fn := fun _ => fun
  | [d1, d2, d3] => { results := [.lit (.bool true)], args := [d1, d2, d3] }
  | _ => none }
def assetEndsRow : OpenClaim := { program := "ytkcjlpiaaklnkaa", sum := "f24983672cc6378bb67ada9571db4070dd4d7808e8d1f798c767995fc333f2e5", func := "lombard/lombardlaw13.AssetEnds", spec := "assetEnds", inPlace := ["slices.overlaps[lombard/api.Asset]", "slices.overlaps[int]"], unfollowed := true, recurses := true, apart := false }
def AssetEndsSaid : Prop := assetEndsRow.holds Try.pinned (OpenSpec.ofChange assetEndsSpec)

/-- ITS FALSE NEIGHBOUR: 'it returns false'. Refute it at one input. -/
def assetEndsWrong : ChangeSpec := { name := "assetEnds", fn := fun _ => fun
  | [d1, d2, d3] => { results := [.lit (.bool false)], args := [d1, d2, d3] }
  | _ => none }
def AssetEndsWrongFalsely : Prop := assetEndsRow.holds Try.pinned (OpenSpec.ofChange assetEndsWrong)

/-- 'lombardlaw13.AssetTells': WHATEVER THE INPUT: true; the input reads as it did. -/
def assetTellsSpec : ChangeSpec := { name := "assetTells", fn := fun _ => fun
  | [d1, d2] => { results := [.lit (.bool true)], args := [d1, d2] }
  | _ => none }
def assetTellsRow : OpenClaim := { program := "ytkcjlpiaaklnkaa", sum := "f24983672cc6378bb67ada9571db4070dd4d7808e8d1f798c767995fc333f2e5", func := "lombard/lombardlaw13.AssetTells", spec := "assetTells", inPlace := ["slices.overlaps[lombard/api.Asset]", "slices.overlaps[int]"], unfollowed := true, recurses := true, apart := false }
def AssetTellsSaid : Prop := assetTellsRow.holds Try.pinned (OpenSpec.ofChange assetTellsSpec)

/-- ITS FALSE NEIGHBOUR: 'it returns false'. Refute it at one input. -/
def assetTellsWrong : ChangeSpec := { name := "assetTells", fn := fun _ => fun
  | [d1, d2] => { results := [.lit (.bool false)], args := [d1, d2] }
  | _ => none }
def AssetTellsWrongFalsely : Prop := assetTellsRow.holds Try.pinned (OpenSpec.ofChange assetTellsWrong)

/-- 'lombardlaw13.AssetPlays': WHATEVER THE INPUT: true; the input reads as it did. -/
def assetPlaysSpec : ChangeSpec := { name := "assetPlays", fn := fun _ => fun
  | [d] => { results := [.lit (.bool true)], args := [d] }
  | _ => none }
def assetPlaysRow : OpenClaim := { program := "ytkcjlpiaaklnkaa", sum := "f24983672cc6378bb67ada9571db4070dd4d7808e8d1f798c767995fc333f2e5", func := "lombard/lombardlaw13.AssetPlays", spec := "assetPlays", inPlace := ["slices.overlaps[lombard/api.Asset]", "slices.overlaps[int]"], unfollowed := true, recurses := true, apart := false }
def AssetPlaysSaid : Prop := assetPlaysRow.holds Try.pinned (OpenSpec.ofChange assetPlaysSpec)

/-- ITS FALSE NEIGHBOUR: 'it returns false'. Refute it at one input. -/
def assetPlaysWrong : ChangeSpec := { name := "assetPlays", fn := fun _ => fun
  | [d] => { results := [.lit (.bool false)], args := [d] }
  | _ => none }
def AssetPlaysWrongFalsely : Prop := assetPlaysRow.holds Try.pinned (OpenSpec.ofChange assetPlaysWrong)

/-- 'lombardlaw13.AssetWorths': WHATEVER THE INPUT: true; the input reads as it did. -/
def assetWorthsSpec : ChangeSpec := { name := "assetWorths", fn := fun _ => fun
  | [d1, d2, d3, d4] => { results := [.lit (.bool true)], args := [d1, d2, d3, d4] }
  | _ => none }
def assetWorthsRow : OpenClaim := { program := "ytkcjlpiaaklnkaa", sum := "f24983672cc6378bb67ada9571db4070dd4d7808e8d1f798c767995fc333f2e5", func := "lombard/lombardlaw13.AssetWorths", spec := "assetWorths", inPlace := ["slices.overlaps[lombard/api.Asset]", "slices.overlaps[int]"], unfollowed := true, recurses := true, apart := false }
def AssetWorthsSaid : Prop := assetWorthsRow.holds Try.pinned (OpenSpec.ofChange assetWorthsSpec)

/-- ITS FALSE NEIGHBOUR: 'it returns false'. Refute it at one input. -/
def assetWorthsWrong : ChangeSpec := { name := "assetWorths", fn := fun _ => fun
  | [d1, d2, d3, d4] => { results := [.lit (.bool false)], args := [d1, d2, d3, d4] }
  | _ => none }
def AssetWorthsWrongFalsely : Prop := assetWorthsRow.holds Try.pinned (OpenSpec.ofChange assetWorthsWrong)

/-- 'lombardlaw13.AssetApart': WHATEVER THE INPUT: true; the input reads as it did. -/
def assetApartSpec : ChangeSpec := { name := "assetApart", fn := fun _ => fun
  | [d1, d2, d3] => { results := [.lit (.bool true)], args := [d1, d2, d3] }
  | _ => none }
def assetApartRow : OpenClaim := { program := "ytkcjlpiaaklnkaa", sum := "f24983672cc6378bb67ada9571db4070dd4d7808e8d1f798c767995fc333f2e5", func := "lombard/lombardlaw13.AssetApart", spec := "assetApart", inPlace := ["slices.overlaps[lombard/api.Asset]", "slices.overlaps[int]"], unfollowed := true, recurses := true, apart := false }
def AssetApartSaid : Prop := assetApartRow.holds Try.pinned (OpenSpec.ofChange assetApartSpec)

/-- ITS FALSE NEIGHBOUR: 'it returns false'. Refute it at one input. -/
def assetApartWrong : ChangeSpec := { name := "assetApart", fn := fun _ => fun
  | [d1, d2, d3] => { results := [.lit (.bool false)], args := [d1, d2, d3] }
  | _ => none }
def AssetApartWrongFalsely : Prop := assetApartRow.holds Try.pinned (OpenSpec.ofChange assetApartWrong)

/- THE SECOND FORM. 'bulk': how many values and letters a reading holds, each counted each time it is reached (what is shared counts as often as it is met; a slice's spare places count too). A statement '..UptoSaid' is the law's where the arguments, and the package variables that the reading takes, are together of bulk at most 1048576: NARROWER than '..Said'. Prove '..Said' where nothing that the law and all that it calls make is longer than what came in: it says more and counts as full. Else prove '..UptoSaid'. A law counts once. -/
mutual
def uptoBulk {H : Type} : DataW H → Nat
  | .lit (.string bytes) => bytes.length + 1
  | .lit _ => 1
  | .nil => 1
  | .ptr d => uptoBulk d + 1
  | .slice elems spare => uptoBulkAll elems + uptoBulkAll spare + 1
  | .agg parts => uptoBulkAll parts + 1
  | .iface _ d => uptoBulk d + 1
  | .map entries => uptoBulkEntries entries + 1
  | .held _ => 1
def uptoBulkAll {H : Type} : List (DataW H) → Nat
  | [] => 0
  | d :: r => uptoBulk d + uptoBulkAll r
def uptoBulkEntries {H : Type} : List (Lit × DataW H) → Nat
  | [] => 0
  | x :: r => uptoBulkEntry x + uptoBulkEntries r
def uptoBulkEntry {H : Type} : Lit × DataW H → Nat
  | (.string bytes, d) => bytes.length + uptoBulk d + 1
  | (_, d) => uptoBulk d + 1
 end
def uptoSmall : (H : Type) → List (DataW H) → Bool := fun _ ds => decide (uptoBulkAll ds ≤ 1048576)
def OpenSpec.upto (s : _root_.Go.ChangeSpec) : _root_.Go.OpenSpec := { _root_.Go.OpenSpec.ofChange s with cond := some uptoSmall }

/-- 'lombardlaw13.AssetMore', WHERE WHAT IT READS IS OF BULK AT MOST 1048576: true; the input reads as it did. -/
def assetMoreUptoRow : OpenClaim := { program := "ytkcjlpiaaklnkaa", sum := "f24983672cc6378bb67ada9571db4070dd4d7808e8d1f798c767995fc333f2e5", func := "lombard/lombardlaw13.AssetMore", spec := "assetMore", apart := false, narrowed := true }
def AssetMoreUptoSaid : Prop := assetMoreUptoRow.holds Try.pinned (OpenSpec.upto assetMoreSpec)

/-- 'lombardlaw13.AssetEnds', WHERE WHAT IT READS IS OF BULK AT MOST 1048576: true; the input reads as it did. -/
def assetEndsUptoRow : OpenClaim := { program := "ytkcjlpiaaklnkaa", sum := "f24983672cc6378bb67ada9571db4070dd4d7808e8d1f798c767995fc333f2e5", func := "lombard/lombardlaw13.AssetEnds", spec := "assetEnds", inPlace := ["slices.overlaps[lombard/api.Asset]", "slices.overlaps[int]"], unfollowed := true, recurses := true, apart := false, narrowed := true }
def AssetEndsUptoSaid : Prop := assetEndsUptoRow.holds Try.pinned (OpenSpec.upto assetEndsSpec)

/-- 'lombardlaw13.AssetTells', WHERE WHAT IT READS IS OF BULK AT MOST 1048576: true; the input reads as it did. -/
def assetTellsUptoRow : OpenClaim := { program := "ytkcjlpiaaklnkaa", sum := "f24983672cc6378bb67ada9571db4070dd4d7808e8d1f798c767995fc333f2e5", func := "lombard/lombardlaw13.AssetTells", spec := "assetTells", inPlace := ["slices.overlaps[lombard/api.Asset]", "slices.overlaps[int]"], unfollowed := true, recurses := true, apart := false, narrowed := true }
def AssetTellsUptoSaid : Prop := assetTellsUptoRow.holds Try.pinned (OpenSpec.upto assetTellsSpec)

/-- 'lombardlaw13.AssetPlays', WHERE WHAT IT READS IS OF BULK AT MOST 1048576: true; the input reads as it did. -/
def assetPlaysUptoRow : OpenClaim := { program := "ytkcjlpiaaklnkaa", sum := "f24983672cc6378bb67ada9571db4070dd4d7808e8d1f798c767995fc333f2e5", func := "lombard/lombardlaw13.AssetPlays", spec := "assetPlays", inPlace := ["slices.overlaps[lombard/api.Asset]", "slices.overlaps[int]"], unfollowed := true, recurses := true, apart := false, narrowed := true }
def AssetPlaysUptoSaid : Prop := assetPlaysUptoRow.holds Try.pinned (OpenSpec.upto assetPlaysSpec)

/-- 'lombardlaw13.AssetWorths', WHERE WHAT IT READS IS OF BULK AT MOST 1048576: true; the input reads as it did. -/
def assetWorthsUptoRow : OpenClaim := { program := "ytkcjlpiaaklnkaa", sum := "f24983672cc6378bb67ada9571db4070dd4d7808e8d1f798c767995fc333f2e5", func := "lombard/lombardlaw13.AssetWorths", spec := "assetWorths", inPlace := ["slices.overlaps[lombard/api.Asset]", "slices.overlaps[int]"], unfollowed := true, recurses := true, apart := false, narrowed := true }
def AssetWorthsUptoSaid : Prop := assetWorthsUptoRow.holds Try.pinned (OpenSpec.upto assetWorthsSpec)

/-- 'lombardlaw13.AssetApart', WHERE WHAT IT READS IS OF BULK AT MOST 1048576: true; the input reads as it did. -/
def assetApartUptoRow : OpenClaim := { program := "ytkcjlpiaaklnkaa", sum := "f24983672cc6378bb67ada9571db4070dd4d7808e8d1f798c767995fc333f2e5", func := "lombard/lombardlaw13.AssetApart", spec := "assetApart", inPlace := ["slices.overlaps[lombard/api.Asset]", "slices.overlaps[int]"], unfollowed := true, recurses := true, apart := false, narrowed := true }
def AssetApartUptoSaid : Prop := assetApartUptoRow.holds Try.pinned (OpenSpec.upto assetApartSpec)

end Rows
end Go.Proofs.Ytkcjlpiaaklnkaa
