/-
  No cell of these rows narrows 'for every input' (looked for: loops, veiled, ifaces, maps, wideKeys, modest, calm, conditions, laid).
  DERIVED. THE GIVEN ROWS OF THIS SEAT. 6 by the template 'for every input the law returns true; each argument reads behind the call as it read before'; 0 by the template 'total and deterministic' (their statements: YtknfdnlhadjbaaaTotals.lean).
  GIVEN WITH THE SEED: the statements are not yours to turn. If you find one false, say at which input.
  Laid BY PROGRAM, IN A SANDBOX (cutbox-rows.mjs): the forced cells as the released guide's own fill.sh prints them over the translation 2081083e5cd0f53d… (all of the seat's roots in one cut). By AI agents, Wed Nov 11 2026. No macro, syntax, notation, axiom, sorry.
-/
import Derived.Test.YtknfdnlhadjbaaaChecked
import GoSem.Claim
import GoSem.ClaimJoined
import GoSem.ClaimMapViews
import Derived.JoinedTies
import Derived.KernelRfl
namespace Go.Proofs.Ytknfdnlhadjbaaa
/- THE CELL 'sum', in the pinned program and in every row, IS THE sha256 OF THE DUMP (.gsa) THAT YtknfdnlhadjbaaaProg.lean LOADS. Nothing in Lean hashes anything: it is a label: what it is worth is what the hold of that sum in a sandbox is worth. -/
noncomputable def Try.pinned : Pinned := { name := "ytknfdnlhadjbaaa", sum := "2081083e5cd0f53d410d9f77531918f2cfeed5f8ee5f3ee3c7b3242f14f33459", checked := Try.checked }
namespace Rows
def none {H : Type} : Left H := { results := [], args := [] }

/-- 'lombardlaw24.LifeGrows': WHATEVER THE INPUT: true; the input reads as it did. -/
def lifeGrowsSpec : ChangeSpec := { name := "lifeGrows", fn := fun _ => fun
  | [d1, d2, d3] => { results := [.lit (.bool true)], args := [d1, d2, d3] }
  | _ => none }
def lifeGrowsRow : OpenClaim := { program := "ytknfdnlhadjbaaa", sum := "2081083e5cd0f53d410d9f77531918f2cfeed5f8ee5f3ee3c7b3242f14f33459", func := "lombard/lombardlaw24.LifeGrows", spec := "lifeGrows", unfollowed := true, recurses := true, apart := false }
def LifeGrowsSaid : Prop := lifeGrowsRow.holds Try.pinned (OpenSpec.ofChange lifeGrowsSpec)

/-- ITS FALSE NEIGHBOUR: 'it returns false'. Refute it at one input. -/
def lifeGrowsWrong : ChangeSpec := { name := "lifeGrows", fn := fun _ => fun
  | [d1, d2, d3] => { results := [.lit (.bool false)], args := [d1, d2, d3] }
  | _ => none }
def LifeGrowsWrongFalsely : Prop := lifeGrowsRow.holds Try.pinned (OpenSpec.ofChange lifeGrowsWrong)

/-- 'lombardlaw24.LifeInterest': WHATEVER THE INPUT: true; the input reads as it did. -/
def lifeInterestSpec : ChangeSpec := { name := "lifeInterest", fn := fun _ => fun
  | [d1, d2] => { results := [.lit (.bool true)], args := [d1, d2] }
  | _ => none }
def lifeInterestRow : OpenClaim := { program := "ytknfdnlhadjbaaa", sum := "2081083e5cd0f53d410d9f77531918f2cfeed5f8ee5f3ee3c7b3242f14f33459", func := "lombard/lombardlaw24.LifeInterest", spec := "lifeInterest", unfollowed := true, recurses := true, apart := false }
def LifeInterestSaid : Prop := lifeInterestRow.holds Try.pinned (OpenSpec.ofChange lifeInterestSpec)

/-- ITS FALSE NEIGHBOUR: 'it returns false'. Refute it at one input. -/
def lifeInterestWrong : ChangeSpec := { name := "lifeInterest", fn := fun _ => fun
  | [d1, d2] => { results := [.lit (.bool false)], args := [d1, d2] }
  | _ => none }
def LifeInterestWrongFalsely : Prop := lifeInterestRow.holds Try.pinned (OpenSpec.ofChange lifeInterestWrong)

/-- 'lombardlaw24.LifeRolls': WHATEVER THE INPUT: true; the input reads as it did. -/
def lifeRollsSpec : ChangeSpec := { name := "lifeRolls", fn := fun _ => fun
  | [d1, d2, d3, d4, d5] => { results := [.lit (.bool true)], args := [d1, d2, d3, d4, d5] }
  | _ => none }
def lifeRollsRow : OpenClaim := { program := "ytknfdnlhadjbaaa", sum := "2081083e5cd0f53d410d9f77531918f2cfeed5f8ee5f3ee3c7b3242f14f33459", func := "lombard/lombardlaw24.LifeRolls", spec := "lifeRolls", unfollowed := true, recurses := true, apart := false }
def LifeRollsSaid : Prop := lifeRollsRow.holds Try.pinned (OpenSpec.ofChange lifeRollsSpec)

/-- ITS FALSE NEIGHBOUR: 'it returns false'. Refute it at one input. -/
def lifeRollsWrong : ChangeSpec := { name := "lifeRolls", fn := fun _ => fun
  | [d1, d2, d3, d4, d5] => { results := [.lit (.bool false)], args := [d1, d2, d3, d4, d5] }
  | _ => none }
def LifeRollsWrongFalsely : Prop := lifeRollsRow.holds Try.pinned (OpenSpec.ofChange lifeRollsWrong)

/-- 'lombardlaw24.LifeSteps': WHATEVER THE INPUT: true; the input reads as it did. -/
def lifeStepsSpec : ChangeSpec := { name := "lifeSteps", fn := fun _ => fun
  | [d1, d2, d3, d4] => { results := [.lit (.bool true)], args := [d1, d2, d3, d4] }
  | _ => none }
def lifeStepsRow : OpenClaim := { program := "ytknfdnlhadjbaaa", sum := "2081083e5cd0f53d410d9f77531918f2cfeed5f8ee5f3ee3c7b3242f14f33459", func := "lombard/lombardlaw24.LifeSteps", spec := "lifeSteps", unfollowed := true, recurses := true, apart := false }
def LifeStepsSaid : Prop := lifeStepsRow.holds Try.pinned (OpenSpec.ofChange lifeStepsSpec)

/-- ITS FALSE NEIGHBOUR: 'it returns false'. Refute it at one input. -/
def lifeStepsWrong : ChangeSpec := { name := "lifeSteps", fn := fun _ => fun
  | [d1, d2, d3, d4] => { results := [.lit (.bool false)], args := [d1, d2, d3, d4] }
  | _ => none }
def LifeStepsWrongFalsely : Prop := lifeStepsRow.holds Try.pinned (OpenSpec.ofChange lifeStepsWrong)

/-- 'lombardlaw24.LifeOver': WHATEVER THE INPUT: true; the input reads as it did. -/
def lifeOverSpec : ChangeSpec := { name := "lifeOver", fn := fun _ => fun
  | [d1, d2, d3, d4] => { results := [.lit (.bool true)], args := [d1, d2, d3, d4] }
  | _ => none }
def lifeOverRow : OpenClaim := { program := "ytknfdnlhadjbaaa", sum := "2081083e5cd0f53d410d9f77531918f2cfeed5f8ee5f3ee3c7b3242f14f33459", func := "lombard/lombardlaw24.LifeOver", spec := "lifeOver", unfollowed := true, recurses := true, apart := false }
def LifeOverSaid : Prop := lifeOverRow.holds Try.pinned (OpenSpec.ofChange lifeOverSpec)

/-- ITS FALSE NEIGHBOUR: 'it returns false'. Refute it at one input. -/
def lifeOverWrong : ChangeSpec := { name := "lifeOver", fn := fun _ => fun
  | [d1, d2, d3, d4] => { results := [.lit (.bool false)], args := [d1, d2, d3, d4] }
  | _ => none }
def LifeOverWrongFalsely : Prop := lifeOverRow.holds Try.pinned (OpenSpec.ofChange lifeOverWrong)

/-- 'lombardlaw24.LifeWay': WHATEVER THE INPUT: true; the input reads as it did. -/
def lifeWaySpec : ChangeSpec := { name := "lifeWay", fn := fun _ => fun
  | [d1, d2, d3, d4] => { results := [.lit (.bool true)], args := [d1, d2, d3, d4] }
  | _ => none }
def lifeWayRow : OpenClaim := { program := "ytknfdnlhadjbaaa", sum := "2081083e5cd0f53d410d9f77531918f2cfeed5f8ee5f3ee3c7b3242f14f33459", func := "lombard/lombardlaw24.LifeWay", spec := "lifeWay", unfollowed := true, recurses := true, apart := false }
def LifeWaySaid : Prop := lifeWayRow.holds Try.pinned (OpenSpec.ofChange lifeWaySpec)

/-- ITS FALSE NEIGHBOUR: 'it returns false'. Refute it at one input. -/
def lifeWayWrong : ChangeSpec := { name := "lifeWay", fn := fun _ => fun
  | [d1, d2, d3, d4] => { results := [.lit (.bool false)], args := [d1, d2, d3, d4] }
  | _ => none }
def LifeWayWrongFalsely : Prop := lifeWayRow.holds Try.pinned (OpenSpec.ofChange lifeWayWrong)

/- THE SECOND FORM. 'bulk': how many values and letters a reading holds, each counted each time it is reached (what is shared counts as often as it is met; a slice's spare places count too). A statement '..UptoSaid' is the law's where the arguments, and the package variables that the reading takes, are together of bulk at most 1048576: NARROWER than '..Said'. Prove '..Said' where nothing that the law and all that it calls make is longer than what came in: it says more and counts as full. Else prove '..UptoSaid'. A law counts once. -/
mutual
def uptoBulk {H : Type} : DataW H → Nat
  | .lit (.string bytes) => bytes.length + 1
  | .lit _ => 1
  | .nil => 1
  | .ptr d => uptoBulk d + 1
  | .slice elems spare => uptoBulkAll elems + uptoBulkAll spare + 1
  | .agg parts => uptoBulkAll parts + 1
  | .iface _ d => uptoBulk d + 1
  | .map entries => uptoBulkEntries entries + 1
  | .held _ => 1
def uptoBulkAll {H : Type} : List (DataW H) → Nat
  | [] => 0
  | d :: r => uptoBulk d + uptoBulkAll r
def uptoBulkEntries {H : Type} : List (Lit × DataW H) → Nat
  | [] => 0
  | x :: r => uptoBulkEntry x + uptoBulkEntries r
def uptoBulkEntry {H : Type} : Lit × DataW H → Nat
  | (.string bytes, d) => bytes.length + uptoBulk d + 1
  | (_, d) => uptoBulk d + 1
 end
def uptoSmall : (H : Type) → List (DataW H) → Bool := fun _ ds => decide (uptoBulkAll ds ≤ 1048576)
def OpenSpec.upto (s : _root_.Go.ChangeSpec) : _root_.Go.OpenSpec := { _root_.Go.OpenSpec.ofChange s with cond := some uptoSmall }

/-- 'lombardlaw24.LifeGrows', WHERE WHAT IT READS IS OF BULK AT MOST 1048576: true; the input reads as it did. -/
def lifeGrowsUptoRow : OpenClaim := { program := "ytknfdnlhadjbaaa", sum := "2081083e5cd0f53d410d9f77531918f2cfeed5f8ee5f3ee3c7b3242f14f33459", func := "lombard/lombardlaw24.LifeGrows", spec := "lifeGrows", unfollowed := true, recurses := true, apart := false, narrowed := true }
def LifeGrowsUptoSaid : Prop := lifeGrowsUptoRow.holds Try.pinned (OpenSpec.upto lifeGrowsSpec)

/-- 'lombardlaw24.LifeInterest', WHERE WHAT IT READS IS OF BULK AT MOST 1048576: true; the input reads as it did. -/
def lifeInterestUptoRow : OpenClaim := { program := "ytknfdnlhadjbaaa", sum := "2081083e5cd0f53d410d9f77531918f2cfeed5f8ee5f3ee3c7b3242f14f33459", func := "lombard/lombardlaw24.LifeInterest", spec := "lifeInterest", unfollowed := true, recurses := true, apart := false, narrowed := true }
def LifeInterestUptoSaid : Prop := lifeInterestUptoRow.holds Try.pinned (OpenSpec.upto lifeInterestSpec)

/-- 'lombardlaw24.LifeRolls', WHERE WHAT IT READS IS OF BULK AT MOST 1048576: true; the input reads as it did. -/
def lifeRollsUptoRow : OpenClaim := { program := "ytknfdnlhadjbaaa", sum := "2081083e5cd0f53d410d9f77531918f2cfeed5f8ee5f3ee3c7b3242f14f33459", func := "lombard/lombardlaw24.LifeRolls", spec := "lifeRolls", unfollowed := true, recurses := true, apart := false, narrowed := true }
def LifeRollsUptoSaid : Prop := lifeRollsUptoRow.holds Try.pinned (OpenSpec.upto lifeRollsSpec)

/-- 'lombardlaw24.LifeSteps', WHERE WHAT IT READS IS OF BULK AT MOST 1048576: true; the input reads as it did. -/
def lifeStepsUptoRow : OpenClaim := { program := "ytknfdnlhadjbaaa", sum := "2081083e5cd0f53d410d9f77531918f2cfeed5f8ee5f3ee3c7b3242f14f33459", func := "lombard/lombardlaw24.LifeSteps", spec := "lifeSteps", unfollowed := true, recurses := true, apart := false, narrowed := true }
def LifeStepsUptoSaid : Prop := lifeStepsUptoRow.holds Try.pinned (OpenSpec.upto lifeStepsSpec)

/-- 'lombardlaw24.LifeOver', WHERE WHAT IT READS IS OF BULK AT MOST 1048576: true; the input reads as it did. -/
def lifeOverUptoRow : OpenClaim := { program := "ytknfdnlhadjbaaa", sum := "2081083e5cd0f53d410d9f77531918f2cfeed5f8ee5f3ee3c7b3242f14f33459", func := "lombard/lombardlaw24.LifeOver", spec := "lifeOver", unfollowed := true, recurses := true, apart := false, narrowed := true }
def LifeOverUptoSaid : Prop := lifeOverUptoRow.holds Try.pinned (OpenSpec.upto lifeOverSpec)

/-- 'lombardlaw24.LifeWay', WHERE WHAT IT READS IS OF BULK AT MOST 1048576: true; the input reads as it did. -/
def lifeWayUptoRow : OpenClaim := { program := "ytknfdnlhadjbaaa", sum := "2081083e5cd0f53d410d9f77531918f2cfeed5f8ee5f3ee3c7b3242f14f33459", func := "lombard/lombardlaw24.LifeWay", spec := "lifeWay", unfollowed := true, recurses := true, apart := false, narrowed := true }
def LifeWayUptoSaid : Prop := lifeWayUptoRow.holds Try.pinned (OpenSpec.upto lifeWaySpec)

end Rows
end Go.Proofs.Ytknfdnlhadjbaaa
