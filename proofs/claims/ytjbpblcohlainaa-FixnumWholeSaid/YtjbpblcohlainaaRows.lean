/-
  No cell of these rows narrows 'for every input' (looked for: loops, veiled, ifaces, maps, wideKeys, modest, calm, conditions, laid).
  DERIVED. THE GIVEN ROWS OF THIS SEAT. 8 by the template 'for every input the law returns true; each argument reads behind the call as it read before'; 0 by the template 'total and deterministic' (their statements: YtjbpblcohlainaaTotals.lean).
  GIVEN WITH THE SEED: the statements are not yours to turn. If you find one false, say at which input.
  Laid BY PROGRAM, IN A SANDBOX (cutbox-rows.mjs): the forced cells as the released guide's own fill.sh prints them over the translation a86b10a424309d2f… (all of the seat's roots in one cut). By AI agents, Wed Nov 11 2026. No macro, syntax, notation, axiom, sorry.
-/
import Derived.Test.YtjbpblcohlainaaChecked
import GoSem.Claim
import GoSem.ClaimJoined
import GoSem.ClaimMapViews
import Derived.JoinedTies
import Derived.KernelRfl
namespace Go.Proofs.Ytjbpblcohlainaa
/- THE CELL 'sum', in the pinned program and in every row, IS THE sha256 OF THE DUMP (.gsa) THAT YtjbpblcohlainaaProg.lean LOADS. Nothing in Lean hashes anything: it is a label: what it is worth is what the hold of that sum in a sandbox is worth. -/
noncomputable def Try.pinned : Pinned := { name := "ytjbpblcohlainaa", sum := "a86b10a424309d2fc2c713ff93a9f1eb17d489eb639455f7638302b65c9e1873", checked := Try.checked }
namespace Rows
def none {H : Type} : Left H := { results := [], args := [] }

/-- 'lombardlaw01.FixnumMul': WHATEVER THE INPUT: true; the input reads as it did. -/
def fixnumMulSpec : ChangeSpec := { name := "fixnumMul", fn := fun _ => fun
  | [d1, d2] => { results := [.lit (.bool true)], args := [d1, d2] }
  | _ => none }
def fixnumMulRow : OpenClaim := { program := "ytjbpblcohlainaa", sum := "a86b10a424309d2fc2c713ff93a9f1eb17d489eb639455f7638302b65c9e1873", func := "lombard/lombardlaw01.FixnumMul", spec := "fixnumMul", apart := false }
def FixnumMulSaid : Prop := fixnumMulRow.holds Try.pinned (OpenSpec.ofChange fixnumMulSpec)

/-- ITS FALSE NEIGHBOUR: 'it returns false'. Refute it at one input. -/
def fixnumMulWrong : ChangeSpec := { name := "fixnumMul", fn := fun _ => fun
  | [d1, d2] => { results := [.lit (.bool false)], args := [d1, d2] }
  | _ => none }
def FixnumMulWrongFalsely : Prop := fixnumMulRow.holds Try.pinned (OpenSpec.ofChange fixnumMulWrong)

/-- 'lombardlaw01.FixnumDiv': WHATEVER THE INPUT: true; the input reads as it did. -/
def fixnumDivSpec : ChangeSpec := { name := "fixnumDiv", fn := fun _ => fun
  | [d1, d2, d3] => { results := [.lit (.bool true)], args := [d1, d2, d3] }
  | _ => none }
def fixnumDivRow : OpenClaim := { program := "ytjbpblcohlainaa", sum := "a86b10a424309d2fc2c713ff93a9f1eb17d489eb639455f7638302b65c9e1873", func := "lombard/lombardlaw01.FixnumDiv", spec := "fixnumDiv", apart := false }
def FixnumDivSaid : Prop := fixnumDivRow.holds Try.pinned (OpenSpec.ofChange fixnumDivSpec)

/-- ITS FALSE NEIGHBOUR: 'it returns false'. Refute it at one input. -/
def fixnumDivWrong : ChangeSpec := { name := "fixnumDiv", fn := fun _ => fun
  | [d1, d2, d3] => { results := [.lit (.bool false)], args := [d1, d2, d3] }
  | _ => none }
def FixnumDivWrongFalsely : Prop := fixnumDivRow.holds Try.pinned (OpenSpec.ofChange fixnumDivWrong)

/-- 'lombardlaw01.FixnumMulDiv': WHATEVER THE INPUT: true; the input reads as it did. -/
def fixnumMulDivSpec : ChangeSpec := { name := "fixnumMulDiv", fn := fun _ => fun
  | [d1, d2, d3, d4] => { results := [.lit (.bool true)], args := [d1, d2, d3, d4] }
  | _ => none }
def fixnumMulDivRow : OpenClaim := { program := "ytjbpblcohlainaa", sum := "a86b10a424309d2fc2c713ff93a9f1eb17d489eb639455f7638302b65c9e1873", func := "lombard/lombardlaw01.FixnumMulDiv", spec := "fixnumMulDiv", apart := false }
def FixnumMulDivSaid : Prop := fixnumMulDivRow.holds Try.pinned (OpenSpec.ofChange fixnumMulDivSpec)

/-- ITS FALSE NEIGHBOUR: 'it returns false'. Refute it at one input. -/
def fixnumMulDivWrong : ChangeSpec := { name := "fixnumMulDiv", fn := fun _ => fun
  | [d1, d2, d3, d4] => { results := [.lit (.bool false)], args := [d1, d2, d3, d4] }
  | _ => none }
def FixnumMulDivWrongFalsely : Prop := fixnumMulDivRow.holds Try.pinned (OpenSpec.ofChange fixnumMulDivWrong)

/-- 'lombardlaw01.FixnumShares': WHATEVER THE INPUT: true; the input reads as it did. -/
def fixnumSharesSpec : ChangeSpec := { name := "fixnumShares", fn := fun _ => fun
  | [d1, d2] => { results := [.lit (.bool true)], args := [d1, d2] }
  | _ => none }
def fixnumSharesRow : OpenClaim := { program := "ytjbpblcohlainaa", sum := "a86b10a424309d2fc2c713ff93a9f1eb17d489eb639455f7638302b65c9e1873", func := "lombard/lombardlaw01.FixnumShares", spec := "fixnumShares", apart := false }
def FixnumSharesSaid : Prop := fixnumSharesRow.holds Try.pinned (OpenSpec.ofChange fixnumSharesSpec)

/-- ITS FALSE NEIGHBOUR: 'it returns false'. Refute it at one input. -/
def fixnumSharesWrong : ChangeSpec := { name := "fixnumShares", fn := fun _ => fun
  | [d1, d2] => { results := [.lit (.bool false)], args := [d1, d2] }
  | _ => none }
def FixnumSharesWrongFalsely : Prop := fixnumSharesRow.holds Try.pinned (OpenSpec.ofChange fixnumSharesWrong)

/-- 'lombardlaw01.FixnumWhole': WHATEVER THE INPUT: true; the input reads as it did. -/
def fixnumWholeSpec : ChangeSpec := { name := "fixnumWhole", fn := fun _ => fun
  | [d1, d2] => { results := [.lit (.bool true)], args := [d1, d2] }
  | _ => none }
def fixnumWholeRow : OpenClaim := { program := "ytjbpblcohlainaa", sum := "a86b10a424309d2fc2c713ff93a9f1eb17d489eb639455f7638302b65c9e1873", func := "lombard/lombardlaw01.FixnumWhole", spec := "fixnumWhole", apart := false }
def FixnumWholeSaid : Prop := fixnumWholeRow.holds Try.pinned (OpenSpec.ofChange fixnumWholeSpec)

/-- ITS FALSE NEIGHBOUR: 'it returns false'. Refute it at one input. -/
def fixnumWholeWrong : ChangeSpec := { name := "fixnumWhole", fn := fun _ => fun
  | [d1, d2] => { results := [.lit (.bool false)], args := [d1, d2] }
  | _ => none }
def FixnumWholeWrongFalsely : Prop := fixnumWholeRow.holds Try.pinned (OpenSpec.ofChange fixnumWholeWrong)

/-- 'lombardlaw01.FixnumRounds': WHATEVER THE INPUT: true; the input reads as it did. -/
def fixnumRoundsSpec : ChangeSpec := { name := "fixnumRounds", fn := fun _ => fun
  | [d1, d2, d3] => { results := [.lit (.bool true)], args := [d1, d2, d3] }
  | _ => none }
def fixnumRoundsRow : OpenClaim := { program := "ytjbpblcohlainaa", sum := "a86b10a424309d2fc2c713ff93a9f1eb17d489eb639455f7638302b65c9e1873", func := "lombard/lombardlaw01.FixnumRounds", spec := "fixnumRounds", apart := false }
def FixnumRoundsSaid : Prop := fixnumRoundsRow.holds Try.pinned (OpenSpec.ofChange fixnumRoundsSpec)

/-- ITS FALSE NEIGHBOUR: 'it returns false'. Refute it at one input. -/
def fixnumRoundsWrong : ChangeSpec := { name := "fixnumRounds", fn := fun _ => fun
  | [d1, d2, d3] => { results := [.lit (.bool false)], args := [d1, d2, d3] }
  | _ => none }
def FixnumRoundsWrongFalsely : Prop := fixnumRoundsRow.holds Try.pinned (OpenSpec.ofChange fixnumRoundsWrong)

/-- 'lombardlaw01.FixnumSums': WHATEVER THE INPUT: true; the input reads as it did. -/
def fixnumSumsSpec : ChangeSpec := { name := "fixnumSums", fn := fun _ => fun
  | [d1, d2, d3] => { results := [.lit (.bool true)], args := [d1, d2, d3] }
  | _ => none }
def fixnumSumsRow : OpenClaim := { program := "ytjbpblcohlainaa", sum := "a86b10a424309d2fc2c713ff93a9f1eb17d489eb639455f7638302b65c9e1873", func := "lombard/lombardlaw01.FixnumSums", spec := "fixnumSums", apart := false }
def FixnumSumsSaid : Prop := fixnumSumsRow.holds Try.pinned (OpenSpec.ofChange fixnumSumsSpec)

/-- ITS FALSE NEIGHBOUR: 'it returns false'. Refute it at one input. -/
def fixnumSumsWrong : ChangeSpec := { name := "fixnumSums", fn := fun _ => fun
  | [d1, d2, d3] => { results := [.lit (.bool false)], args := [d1, d2, d3] }
  | _ => none }
def FixnumSumsWrongFalsely : Prop := fixnumSumsRow.holds Try.pinned (OpenSpec.ofChange fixnumSumsWrong)

/-- 'lombardlaw01.FixnumAdds': WHATEVER THE INPUT: true; the input reads as it did. -/
def fixnumAddsSpec : ChangeSpec := { name := "fixnumAdds", fn := fun _ => fun
  | [d1, d2, d3, d4] => { results := [.lit (.bool true)], args := [d1, d2, d3, d4] }
  | _ => none }
def fixnumAddsRow : OpenClaim := { program := "ytjbpblcohlainaa", sum := "a86b10a424309d2fc2c713ff93a9f1eb17d489eb639455f7638302b65c9e1873", func := "lombard/lombardlaw01.FixnumAdds", spec := "fixnumAdds", apart := false }
def FixnumAddsSaid : Prop := fixnumAddsRow.holds Try.pinned (OpenSpec.ofChange fixnumAddsSpec)

/-- ITS FALSE NEIGHBOUR: 'it returns false'. Refute it at one input. -/
def fixnumAddsWrong : ChangeSpec := { name := "fixnumAdds", fn := fun _ => fun
  | [d1, d2, d3, d4] => { results := [.lit (.bool false)], args := [d1, d2, d3, d4] }
  | _ => none }
def FixnumAddsWrongFalsely : Prop := fixnumAddsRow.holds Try.pinned (OpenSpec.ofChange fixnumAddsWrong)

/- THE SECOND FORM. 'bulk': how many values and letters a reading holds, each counted each time it is reached (what is shared counts as often as it is met; a slice's spare places count too). A statement '..UptoSaid' is the law's where the arguments, and the package variables that the reading takes, are together of bulk at most 1048576: NARROWER than '..Said'. Prove '..Said' where nothing that the law and all that it calls make is longer than what came in: it says more and counts as full. Else prove '..UptoSaid'. A law counts once. -/
mutual
def uptoBulk {H : Type} : DataW H → Nat
  | .lit (.string bytes) => bytes.length + 1
  | .lit _ => 1
  | .nil => 1
  | .ptr d => uptoBulk d + 1
  | .slice elems spare => uptoBulkAll elems + uptoBulkAll spare + 1
  | .agg parts => uptoBulkAll parts + 1
  | .iface _ d => uptoBulk d + 1
  | .map entries => uptoBulkEntries entries + 1
  | .held _ => 1
def uptoBulkAll {H : Type} : List (DataW H) → Nat
  | [] => 0
  | d :: r => uptoBulk d + uptoBulkAll r
def uptoBulkEntries {H : Type} : List (Lit × DataW H) → Nat
  | [] => 0
  | x :: r => uptoBulkEntry x + uptoBulkEntries r
def uptoBulkEntry {H : Type} : Lit × DataW H → Nat
  | (.string bytes, d) => bytes.length + uptoBulk d + 1
  | (_, d) => uptoBulk d + 1
 end
def uptoSmall : (H : Type) → List (DataW H) → Bool := fun _ ds => decide (uptoBulkAll ds ≤ 1048576)
def OpenSpec.upto (s : _root_.Go.ChangeSpec) : _root_.Go.OpenSpec := { _root_.Go.OpenSpec.ofChange s with cond := some uptoSmall }

/-- 'lombardlaw01.FixnumMul', WHERE WHAT IT READS IS OF BULK AT MOST 1048576: true; the input reads as it did. -/
def fixnumMulUptoRow : OpenClaim := { program := "ytjbpblcohlainaa", sum := "a86b10a424309d2fc2c713ff93a9f1eb17d489eb639455f7638302b65c9e1873", func := "lombard/lombardlaw01.FixnumMul", spec := "fixnumMul", apart := false, narrowed := true }
def FixnumMulUptoSaid : Prop := fixnumMulUptoRow.holds Try.pinned (OpenSpec.upto fixnumMulSpec)

/-- 'lombardlaw01.FixnumDiv', WHERE WHAT IT READS IS OF BULK AT MOST 1048576: true; the input reads as it did. -/
def fixnumDivUptoRow : OpenClaim := { program := "ytjbpblcohlainaa", sum := "a86b10a424309d2fc2c713ff93a9f1eb17d489eb639455f7638302b65c9e1873", func := "lombard/lombardlaw01.FixnumDiv", spec := "fixnumDiv", apart := false, narrowed := true }
def FixnumDivUptoSaid : Prop := fixnumDivUptoRow.holds Try.pinned (OpenSpec.upto fixnumDivSpec)

/-- 'lombardlaw01.FixnumMulDiv', WHERE WHAT IT READS IS OF BULK AT MOST 1048576: true; the input reads as it did. -/
def fixnumMulDivUptoRow : OpenClaim := { program := "ytjbpblcohlainaa", sum := "a86b10a424309d2fc2c713ff93a9f1eb17d489eb639455f7638302b65c9e1873", func := "lombard/lombardlaw01.FixnumMulDiv", spec := "fixnumMulDiv", apart := false, narrowed := true }
def FixnumMulDivUptoSaid : Prop := fixnumMulDivUptoRow.holds Try.pinned (OpenSpec.upto fixnumMulDivSpec)

/-- 'lombardlaw01.FixnumShares', WHERE WHAT IT READS IS OF BULK AT MOST 1048576: true; the input reads as it did. -/
def fixnumSharesUptoRow : OpenClaim := { program := "ytjbpblcohlainaa", sum := "a86b10a424309d2fc2c713ff93a9f1eb17d489eb639455f7638302b65c9e1873", func := "lombard/lombardlaw01.FixnumShares", spec := "fixnumShares", apart := false, narrowed := true }
def FixnumSharesUptoSaid : Prop := fixnumSharesUptoRow.holds Try.pinned (OpenSpec.upto fixnumSharesSpec)

/-- 'lombardlaw01.FixnumWhole', WHERE WHAT IT READS IS OF BULK AT MOST 1048576: true; the input reads as it did. -/
def fixnumWholeUptoRow : OpenClaim := { program := "ytjbpblcohlainaa", sum := "a86b10a424309d2fc2c713ff93a9f1eb17d489eb639455f7638302b65c9e1873", func := "lombard/lombardlaw01.FixnumWhole", spec := "fixnumWhole", apart := false, narrowed := true }
def FixnumWholeUptoSaid : Prop := fixnumWholeUptoRow.holds Try.pinned (OpenSpec.upto fixnumWholeSpec)

/-- 'lombardlaw01.FixnumRounds', WHERE WHAT IT READS IS OF BULK AT MOST 1048576: true; the input reads as it did. -/
def fixnumRoundsUptoRow : OpenClaim := { program := "ytjbpblcohlainaa", sum := "a86b10a424309d2fc2c713ff93a9f1eb17d489eb639455f7638302b65c9e1873", func := "lombard/lombardlaw01.FixnumRounds", spec := "fixnumRounds", apart := false, narrowed := true }
def FixnumRoundsUptoSaid : Prop := fixnumRoundsUptoRow.holds Try.pinned (OpenSpec.upto fixnumRoundsSpec)

/-- 'lombardlaw01.FixnumSums', WHERE WHAT IT READS IS OF BULK AT MOST 1048576: true; the input reads as it did. -/
def fixnumSumsUptoRow : OpenClaim := { program := "ytjbpblcohlainaa", sum := "a86b10a424309d2fc2c713ff93a9f1eb17d489eb639455f7638302b65c9e1873", func := "lombard/lombardlaw01.FixnumSums", spec := "fixnumSums", apart := false, narrowed := true }
def FixnumSumsUptoSaid : Prop := fixnumSumsUptoRow.holds Try.pinned (OpenSpec.upto fixnumSumsSpec)

/-- 'lombardlaw01.FixnumAdds', WHERE WHAT IT READS IS OF BULK AT MOST 1048576: true; the input reads as it did. -/
def fixnumAddsUptoRow : OpenClaim := { program := "ytjbpblcohlainaa", sum := "a86b10a424309d2fc2c713ff93a9f1eb17d489eb639455f7638302b65c9e1873", func := "lombard/lombardlaw01.FixnumAdds", spec := "fixnumAdds", apart := false, narrowed := true }
def FixnumAddsUptoSaid : Prop := fixnumAddsUptoRow.holds Try.pinned (OpenSpec.upto fixnumAddsSpec)

end Rows
end Go.Proofs.Ytjbpblcohlainaa
