/-
  No cell of these rows narrows 'for every input' (looked for: loops, veiled, ifaces, maps, wideKeys, modest, calm, conditions, laid).
  DERIVED. THE GIVEN ROWS OF THIS SEAT. 7 by the template 'for every input the law returns true; each argument reads behind the call as it read before'; 0 by the template 'total and deterministic' (their statements: YtipgpnagfmlahaaTotals.lean).
  GIVEN WITH THE SEED: the statements are not yours to turn. If you find one false, say at which input.
  Laid BY PROGRAM, IN A SANDBOX (cutbox-rows.mjs): the forced cells as the released guide's own fill.sh prints them over the translation eb1b0be54a150cd9… (all of the seat's roots in one cut). By AI agents, Wed Nov 11 2026. No macro, syntax, notation, axiom, sorry.
-/
import Derived.Test.YtipgpnagfmlahaaChecked
import GoSem.Claim
import GoSem.ClaimJoined
import GoSem.ClaimMapViews
import Derived.JoinedTies
import Derived.KernelRfl
namespace Go.Proofs.Ytipgpnagfmlahaa
/- THE CELL 'sum', in the pinned program and in every row, IS THE sha256 OF THE DUMP (.gsa) THAT YtipgpnagfmlahaaProg.lean LOADS. Nothing in Lean hashes anything: it is a label: what it is worth is what the hold of that sum in a sandbox is worth. -/
noncomputable def Try.pinned : Pinned := { name := "ytipgpnagfmlahaa", sum := "eb1b0be54a150cd96b9b4bc3d4957106686cba2135aea71922069aa5f79c74d0", checked := Try.checked }
namespace Rows
def none {H : Type} : Left H := { results := [], args := [] }

/-- 'lombardlaw03.AccrueSimple': WHATEVER THE INPUT: true; the input reads as it did. -/
def accrueSimpleSpec : ChangeSpec := { name := "accrueSimple", fn := fun _ => fun
  | [d1, d2, d3] => { results := [.lit (.bool true)], args := [d1, d2, d3] }
  | _ => none }
def accrueSimpleRow : OpenClaim := { program := "ytipgpnagfmlahaa", sum := "eb1b0be54a150cd96b9b4bc3d4957106686cba2135aea71922069aa5f79c74d0", func := "lombard/lombardlaw03.AccrueSimple", spec := "accrueSimple", apart := false }
def AccrueSimpleSaid : Prop := accrueSimpleRow.holds Try.pinned (OpenSpec.ofChange accrueSimpleSpec)

/-- ITS FALSE NEIGHBOUR: 'it returns false'. Refute it at one input. -/
def accrueSimpleWrong : ChangeSpec := { name := "accrueSimple", fn := fun _ => fun
  | [d1, d2, d3] => { results := [.lit (.bool false)], args := [d1, d2, d3] }
  | _ => none }
def AccrueSimpleWrongFalsely : Prop := accrueSimpleRow.holds Try.pinned (OpenSpec.ofChange accrueSimpleWrong)

/-- 'lombardlaw03.AccrueDays': WHATEVER THE INPUT: true; the input reads as it did. -/
def accrueDaysSpec : ChangeSpec := { name := "accrueDays", fn := fun _ => fun
  | [d1, d2, d3, d4] => { results := [.lit (.bool true)], args := [d1, d2, d3, d4] }
  | _ => none }
def accrueDaysRow : OpenClaim := { program := "ytipgpnagfmlahaa", sum := "eb1b0be54a150cd96b9b4bc3d4957106686cba2135aea71922069aa5f79c74d0", func := "lombard/lombardlaw03.AccrueDays", spec := "accrueDays", apart := false }
def AccrueDaysSaid : Prop := accrueDaysRow.holds Try.pinned (OpenSpec.ofChange accrueDaysSpec)

/-- ITS FALSE NEIGHBOUR: 'it returns false'. Refute it at one input. -/
def accrueDaysWrong : ChangeSpec := { name := "accrueDays", fn := fun _ => fun
  | [d1, d2, d3, d4] => { results := [.lit (.bool false)], args := [d1, d2, d3, d4] }
  | _ => none }
def AccrueDaysWrongFalsely : Prop := accrueDaysRow.holds Try.pinned (OpenSpec.ofChange accrueDaysWrong)

/-- 'lombardlaw03.AccrueExact': WHATEVER THE INPUT: true; the input reads as it did. -/
def accrueExactSpec : ChangeSpec := { name := "accrueExact", fn := fun _ => fun
  | [d1, d2, d3] => { results := [.lit (.bool true)], args := [d1, d2, d3] }
  | _ => none }
def accrueExactRow : OpenClaim := { program := "ytipgpnagfmlahaa", sum := "eb1b0be54a150cd96b9b4bc3d4957106686cba2135aea71922069aa5f79c74d0", func := "lombard/lombardlaw03.AccrueExact", spec := "accrueExact", apart := false }
def AccrueExactSaid : Prop := accrueExactRow.holds Try.pinned (OpenSpec.ofChange accrueExactSpec)

/-- ITS FALSE NEIGHBOUR: 'it returns false'. Refute it at one input. -/
def accrueExactWrong : ChangeSpec := { name := "accrueExact", fn := fun _ => fun
  | [d1, d2, d3] => { results := [.lit (.bool false)], args := [d1, d2, d3] }
  | _ => none }
def AccrueExactWrongFalsely : Prop := accrueExactRow.holds Try.pinned (OpenSpec.ofChange accrueExactWrong)

/-- 'lombardlaw03.AccrueRates': WHATEVER THE INPUT: true; the input reads as it did. -/
def accrueRatesSpec : ChangeSpec := { name := "accrueRates", fn := fun _ => fun
  | [d1, d2] => { results := [.lit (.bool true)], args := [d1, d2] }
  | _ => none }
def accrueRatesRow : OpenClaim := { program := "ytipgpnagfmlahaa", sum := "eb1b0be54a150cd96b9b4bc3d4957106686cba2135aea71922069aa5f79c74d0", func := "lombard/lombardlaw03.AccrueRates", spec := "accrueRates", unfollowed := true, recurses := true, apart := false }
def AccrueRatesSaid : Prop := accrueRatesRow.holds Try.pinned (OpenSpec.ofChange accrueRatesSpec)

/-- ITS FALSE NEIGHBOUR: 'it returns false'. Refute it at one input. -/
def accrueRatesWrong : ChangeSpec := { name := "accrueRates", fn := fun _ => fun
  | [d1, d2] => { results := [.lit (.bool false)], args := [d1, d2] }
  | _ => none }
def AccrueRatesWrongFalsely : Prop := accrueRatesRow.holds Try.pinned (OpenSpec.ofChange accrueRatesWrong)

/-- 'lombardlaw03.AccrueJoins': WHATEVER THE INPUT: true; the input reads as it did. -/
def accrueJoinsSpec : ChangeSpec := { name := "accrueJoins", fn := fun _ => fun
  | [d1, d2, d3, d4, d5] => { results := [.lit (.bool true)], args := [d1, d2, d3, d4, d5] }
  | _ => none }
def accrueJoinsRow : OpenClaim := { program := "ytipgpnagfmlahaa", sum := "eb1b0be54a150cd96b9b4bc3d4957106686cba2135aea71922069aa5f79c74d0", func := "lombard/lombardlaw03.AccrueJoins", spec := "accrueJoins", unfollowed := true, recurses := true, apart := false }
def AccrueJoinsSaid : Prop := accrueJoinsRow.holds Try.pinned (OpenSpec.ofChange accrueJoinsSpec)

/-- ITS FALSE NEIGHBOUR: 'it returns false'. Refute it at one input. -/
def accrueJoinsWrong : ChangeSpec := { name := "accrueJoins", fn := fun _ => fun
  | [d1, d2, d3, d4, d5] => { results := [.lit (.bool false)], args := [d1, d2, d3, d4, d5] }
  | _ => none }
def AccrueJoinsWrongFalsely : Prop := accrueJoinsRow.holds Try.pinned (OpenSpec.ofChange accrueJoinsWrong)

/-- 'lombardlaw03.AccrueOne': WHATEVER THE INPUT: true; the input reads as it did. -/
def accrueOneSpec : ChangeSpec := { name := "accrueOne", fn := fun _ => fun
  | [d1, d2, d3, d4] => { results := [.lit (.bool true)], args := [d1, d2, d3, d4] }
  | _ => none }
def accrueOneRow : OpenClaim := { program := "ytipgpnagfmlahaa", sum := "eb1b0be54a150cd96b9b4bc3d4957106686cba2135aea71922069aa5f79c74d0", func := "lombard/lombardlaw03.AccrueOne", spec := "accrueOne", unfollowed := true, recurses := true, apart := false }
def AccrueOneSaid : Prop := accrueOneRow.holds Try.pinned (OpenSpec.ofChange accrueOneSpec)

/-- ITS FALSE NEIGHBOUR: 'it returns false'. Refute it at one input. -/
def accrueOneWrong : ChangeSpec := { name := "accrueOne", fn := fun _ => fun
  | [d1, d2, d3, d4] => { results := [.lit (.bool false)], args := [d1, d2, d3, d4] }
  | _ => none }
def AccrueOneWrongFalsely : Prop := accrueOneRow.holds Try.pinned (OpenSpec.ofChange accrueOneWrong)

/-- 'lombardlaw03.AccrueBetween': WHATEVER THE INPUT: true; the input reads as it did. -/
def accrueBetweenSpec : ChangeSpec := { name := "accrueBetween", fn := fun _ => fun
  | [d1, d2, d3, d4] => { results := [.lit (.bool true)], args := [d1, d2, d3, d4] }
  | _ => none }
def accrueBetweenRow : OpenClaim := { program := "ytipgpnagfmlahaa", sum := "eb1b0be54a150cd96b9b4bc3d4957106686cba2135aea71922069aa5f79c74d0", func := "lombard/lombardlaw03.AccrueBetween", spec := "accrueBetween", unfollowed := true, recurses := true, apart := false }
def AccrueBetweenSaid : Prop := accrueBetweenRow.holds Try.pinned (OpenSpec.ofChange accrueBetweenSpec)

/-- ITS FALSE NEIGHBOUR: 'it returns false'. Refute it at one input. -/
def accrueBetweenWrong : ChangeSpec := { name := "accrueBetween", fn := fun _ => fun
  | [d1, d2, d3, d4] => { results := [.lit (.bool false)], args := [d1, d2, d3, d4] }
  | _ => none }
def AccrueBetweenWrongFalsely : Prop := accrueBetweenRow.holds Try.pinned (OpenSpec.ofChange accrueBetweenWrong)

/- THE SECOND FORM. 'bulk': how many values and letters a reading holds, each counted each time it is reached (what is shared counts as often as it is met; a slice's spare places count too). A statement '..UptoSaid' is the law's where the arguments, and the package variables that the reading takes, are together of bulk at most 1048576: NARROWER than '..Said'. Prove '..Said' where nothing that the law and all that it calls make is longer than what came in: it says more and counts as full. Else prove '..UptoSaid'. A law counts once. -/
mutual
def uptoBulk {H : Type} : DataW H → Nat
  | .lit (.string bytes) => bytes.length + 1
  | .lit _ => 1
  | .nil => 1
  | .ptr d => uptoBulk d + 1
  | .slice elems spare => uptoBulkAll elems + uptoBulkAll spare + 1
  | .agg parts => uptoBulkAll parts + 1
  | .iface _ d => uptoBulk d + 1
  | .map entries => uptoBulkEntries entries + 1
  | .held _ => 1
def uptoBulkAll {H : Type} : List (DataW H) → Nat
  | [] => 0
  | d :: r => uptoBulk d + uptoBulkAll r
def uptoBulkEntries {H : Type} : List (Lit × DataW H) → Nat
  | [] => 0
  | x :: r => uptoBulkEntry x + uptoBulkEntries r
def uptoBulkEntry {H : Type} : Lit × DataW H → Nat
  | (.string bytes, d) => bytes.length + uptoBulk d + 1
  | (_, d) => uptoBulk d + 1
 end
def uptoSmall : (H : Type) → List (DataW H) → Bool := fun _ ds => decide (uptoBulkAll ds ≤ 1048576)
def OpenSpec.upto (s : _root_.Go.ChangeSpec) : _root_.Go.OpenSpec := { _root_.Go.OpenSpec.ofChange s with cond := some uptoSmall }

/-- 'lombardlaw03.AccrueSimple', WHERE WHAT IT READS IS OF BULK AT MOST 1048576: true; the input reads as it did. -/
def accrueSimpleUptoRow : OpenClaim := { program := "ytipgpnagfmlahaa", sum := "eb1b0be54a150cd96b9b4bc3d4957106686cba2135aea71922069aa5f79c74d0", func := "lombard/lombardlaw03.AccrueSimple", spec := "accrueSimple", apart := false, narrowed := true }
def AccrueSimpleUptoSaid : Prop := accrueSimpleUptoRow.holds Try.pinned (OpenSpec.upto accrueSimpleSpec)

/-- 'lombardlaw03.AccrueDays', WHERE WHAT IT READS IS OF BULK AT MOST 1048576: true; the input reads as it did. -/
def accrueDaysUptoRow : OpenClaim := { program := "ytipgpnagfmlahaa", sum := "eb1b0be54a150cd96b9b4bc3d4957106686cba2135aea71922069aa5f79c74d0", func := "lombard/lombardlaw03.AccrueDays", spec := "accrueDays", apart := false, narrowed := true }
def AccrueDaysUptoSaid : Prop := accrueDaysUptoRow.holds Try.pinned (OpenSpec.upto accrueDaysSpec)

/-- 'lombardlaw03.AccrueExact', WHERE WHAT IT READS IS OF BULK AT MOST 1048576: true; the input reads as it did. -/
def accrueExactUptoRow : OpenClaim := { program := "ytipgpnagfmlahaa", sum := "eb1b0be54a150cd96b9b4bc3d4957106686cba2135aea71922069aa5f79c74d0", func := "lombard/lombardlaw03.AccrueExact", spec := "accrueExact", apart := false, narrowed := true }
def AccrueExactUptoSaid : Prop := accrueExactUptoRow.holds Try.pinned (OpenSpec.upto accrueExactSpec)

/-- 'lombardlaw03.AccrueRates', WHERE WHAT IT READS IS OF BULK AT MOST 1048576: true; the input reads as it did. -/
def accrueRatesUptoRow : OpenClaim := { program := "ytipgpnagfmlahaa", sum := "eb1b0be54a150cd96b9b4bc3d4957106686cba2135aea71922069aa5f79c74d0", func := "lombard/lombardlaw03.AccrueRates", spec := "accrueRates", unfollowed := true, recurses := true, apart := false, narrowed := true }
def AccrueRatesUptoSaid : Prop := accrueRatesUptoRow.holds Try.pinned (OpenSpec.upto accrueRatesSpec)

/-- 'lombardlaw03.AccrueJoins', WHERE WHAT IT READS IS OF BULK AT MOST 1048576: true; the input reads as it did. -/
def accrueJoinsUptoRow : OpenClaim := { program := "ytipgpnagfmlahaa", sum := "eb1b0be54a150cd96b9b4bc3d4957106686cba2135aea71922069aa5f79c74d0", func := "lombard/lombardlaw03.AccrueJoins", spec := "accrueJoins", unfollowed := true, recurses := true, apart := false, narrowed := true }
def AccrueJoinsUptoSaid : Prop := accrueJoinsUptoRow.holds Try.pinned (OpenSpec.upto accrueJoinsSpec)

/-- 'lombardlaw03.AccrueOne', WHERE WHAT IT READS IS OF BULK AT MOST 1048576: true; the input reads as it did. -/
def accrueOneUptoRow : OpenClaim := { program := "ytipgpnagfmlahaa", sum := "eb1b0be54a150cd96b9b4bc3d4957106686cba2135aea71922069aa5f79c74d0", func := "lombard/lombardlaw03.AccrueOne", spec := "accrueOne", unfollowed := true, recurses := true, apart := false, narrowed := true }
def AccrueOneUptoSaid : Prop := accrueOneUptoRow.holds Try.pinned (OpenSpec.upto accrueOneSpec)

/-- 'lombardlaw03.AccrueBetween', WHERE WHAT IT READS IS OF BULK AT MOST 1048576: true; the input reads as it did. -/
def accrueBetweenUptoRow : OpenClaim := { program := "ytipgpnagfmlahaa", sum := "eb1b0be54a150cd96b9b4bc3d4957106686cba2135aea71922069aa5f79c74d0", func := "lombard/lombardlaw03.AccrueBetween", spec := "accrueBetween", unfollowed := true, recurses := true, apart := false, narrowed := true }
def AccrueBetweenUptoSaid : Prop := accrueBetweenUptoRow.holds Try.pinned (OpenSpec.upto accrueBetweenSpec)

end Rows
end Go.Proofs.Ytipgpnagfmlahaa
