/-
  No cell of these rows narrows 'for every input' (looked for: loops, veiled, ifaces, maps, wideKeys, modest, calm, conditions, laid).
  DERIVED. THE GIVEN ROWS OF THIS SEAT. 5 by the template 'for every input the law returns true; each argument reads behind the call as it read before'; 0 by the template 'total and deterministic' (their statements: YtjdkibnhlmgppaaGreatTotals.lean).
  GIVEN WITH THE SEED: the statements are not yours to turn. If you find one false, say at which input.
  Laid BY PROGRAM, IN A SANDBOX (cutbox-rows.mjs): the forced cells as the released guide's own fill.sh prints them over the translation 5e6d95f1b16aa991… (all of the seat's roots in one cut). By AI agents, Wed Nov 11 2026. No macro, syntax, notation, axiom, sorry.
-/
import Derived.Test.YtjdkibnhlmgppaaGreatChecked
import GoSem.Claim
import GoSem.ClaimJoined
import GoSem.ClaimMapViews
import Derived.JoinedTies
import Derived.KernelRfl
namespace Go.Proofs.YtjdkibnhlmgppaaGreat
/- THE CELL 'sum', in the pinned program and in every row, IS THE sha256 OF THE DUMP (.gsa) THAT YtjdkibnhlmgppaaGreatProg.lean LOADS. Nothing in Lean hashes anything: it is a label: what it is worth is what the hold of that sum in a sandbox is worth. -/
noncomputable def Tryz.pinned : Pinned := { name := "ytjdkibnhlmgppaagreat", sum := "5e6d95f1b16aa991f09bf32f50fca54b28c2b391dd7e6ef2e823644b0b3f24ba", checked := Tryz.checked }
namespace Rows
def none {H : Type} : Left H := { results := [], args := [] }

/-- 'lombardlaw30.AuthPlays': WHATEVER THE INPUT: true; the input reads as it did. -/
def authPlaysSpec : ChangeSpec := { name := "authPlays", fn := fun _ => fun
  | [d] => { results := [.lit (.bool true)], args := [d] }
  | _ => none }
def authPlaysRow : OpenClaim := { program := "ytjdkibnhlmgppaagreat", sum := "5e6d95f1b16aa991f09bf32f50fca54b28c2b391dd7e6ef2e823644b0b3f24ba", func := "lombard/lombardlaw30.AuthPlays", spec := "authPlays", inPlace := ["internal/abi.NoEscape", "slices.overlaps[lombard/auth.Member]"], unfollowed := true, recurses := true, apart := false }
def AuthPlaysSaid : Prop := authPlaysRow.holds Tryz.pinned (OpenSpec.ofChange authPlaysSpec)

/-- ITS FALSE NEIGHBOUR: 'it returns false'. Refute it at one input. -/
def authPlaysWrong : ChangeSpec := { name := "authPlays", fn := fun _ => fun
  | [d] => { results := [.lit (.bool false)], args := [d] }
  | _ => none }
def AuthPlaysWrongFalsely : Prop := authPlaysRow.holds Tryz.pinned (OpenSpec.ofChange authPlaysWrong)

/-- 'lombardlaw30.AuthLoads': WHATEVER THE INPUT: true; the input reads as it did. -/
def authLoadsSpec : ChangeSpec := { name := "authLoads", fn := fun _ => fun
  | [d] => { results := [.lit (.bool true)], args := [d] }
  | _ => none }
def authLoadsRow : OpenClaim := { program := "ytjdkibnhlmgppaagreat", sum := "5e6d95f1b16aa991f09bf32f50fca54b28c2b391dd7e6ef2e823644b0b3f24ba", func := "lombard/lombardlaw30.AuthLoads", spec := "authLoads", inPlace := ["internal/abi.NoEscape", "slices.overlaps[lombard/auth.Member]"], unfollowed := true, recurses := true, apart := false }
def AuthLoadsSaid : Prop := authLoadsRow.holds Tryz.pinned (OpenSpec.ofChange authLoadsSpec)

/-- ITS FALSE NEIGHBOUR: 'it returns false'. Refute it at one input. -/
def authLoadsWrong : ChangeSpec := { name := "authLoads", fn := fun _ => fun
  | [d] => { results := [.lit (.bool false)], args := [d] }
  | _ => none }
def AuthLoadsWrongFalsely : Prop := authLoadsRow.holds Tryz.pinned (OpenSpec.ofChange authLoadsWrong)

/-- 'lombardlaw30.AuthTells': WHATEVER THE INPUT: true; the input reads as it did. -/
def authTellsSpec : ChangeSpec := { name := "authTells", fn := fun _ => fun
  | [d1, d2, d3] => { results := [.lit (.bool true)], args := [d1, d2, d3] }
  | _ => none }
def authTellsRow : OpenClaim := { program := "ytjdkibnhlmgppaagreat", sum := "5e6d95f1b16aa991f09bf32f50fca54b28c2b391dd7e6ef2e823644b0b3f24ba", func := "lombard/lombardlaw30.AuthTells", spec := "authTells", inPlace := ["internal/abi.NoEscape", "slices.overlaps[lombard/auth.Member]"], unfollowed := true, recurses := true, apart := false }
def AuthTellsSaid : Prop := authTellsRow.holds Tryz.pinned (OpenSpec.ofChange authTellsSpec)

/-- ITS FALSE NEIGHBOUR: 'it returns false'. Refute it at one input. -/
def authTellsWrong : ChangeSpec := { name := "authTells", fn := fun _ => fun
  | [d1, d2, d3] => { results := [.lit (.bool false)], args := [d1, d2, d3] }
  | _ => none }
def AuthTellsWrongFalsely : Prop := authTellsRow.holds Tryz.pinned (OpenSpec.ofChange authTellsWrong)

/-- 'lombardlaw30.AuthMay': WHATEVER THE INPUT: true; the input reads as it did. -/
def authMaySpec : ChangeSpec := { name := "authMay", fn := fun _ => fun
  | [d1, d2] => { results := [.lit (.bool true)], args := [d1, d2] }
  | _ => none }
def authMayRow : OpenClaim := { program := "ytjdkibnhlmgppaagreat", sum := "5e6d95f1b16aa991f09bf32f50fca54b28c2b391dd7e6ef2e823644b0b3f24ba", func := "lombard/lombardlaw30.AuthMay", spec := "authMay", inPlace := ["internal/abi.NoEscape", "slices.overlaps[lombard/auth.Member]"], unfollowed := true, recurses := true, apart := false }
def AuthMaySaid : Prop := authMayRow.holds Tryz.pinned (OpenSpec.ofChange authMaySpec)

/-- ITS FALSE NEIGHBOUR: 'it returns false'. Refute it at one input. -/
def authMayWrong : ChangeSpec := { name := "authMay", fn := fun _ => fun
  | [d1, d2] => { results := [.lit (.bool false)], args := [d1, d2] }
  | _ => none }
def AuthMayWrongFalsely : Prop := authMayRow.holds Tryz.pinned (OpenSpec.ofChange authMayWrong)

/-- 'lombardlaw30.AuthStays': WHATEVER THE INPUT: true; the input reads as it did. -/
def authStaysSpec : ChangeSpec := { name := "authStays", fn := fun _ => fun
  | [d1, d2] => { results := [.lit (.bool true)], args := [d1, d2] }
  | _ => none }
def authStaysRow : OpenClaim := { program := "ytjdkibnhlmgppaagreat", sum := "5e6d95f1b16aa991f09bf32f50fca54b28c2b391dd7e6ef2e823644b0b3f24ba", func := "lombard/lombardlaw30.AuthStays", spec := "authStays", inPlace := ["internal/abi.NoEscape", "slices.overlaps[lombard/auth.Member]"], unfollowed := true, recurses := true, apart := false }
def AuthStaysSaid : Prop := authStaysRow.holds Tryz.pinned (OpenSpec.ofChange authStaysSpec)

/-- ITS FALSE NEIGHBOUR: 'it returns false'. Refute it at one input. -/
def authStaysWrong : ChangeSpec := { name := "authStays", fn := fun _ => fun
  | [d1, d2] => { results := [.lit (.bool false)], args := [d1, d2] }
  | _ => none }
def AuthStaysWrongFalsely : Prop := authStaysRow.holds Tryz.pinned (OpenSpec.ofChange authStaysWrong)

/- THE SECOND FORM. 'bulk': how many values and letters a reading holds, each counted each time it is reached (what is shared counts as often as it is met; a slice's spare places count too). A statement '..UptoSaid' is the law's where the arguments, and the package variables that the reading takes, are together of bulk at most 1048576: NARROWER than '..Said'. Prove '..Said' where nothing that the law and all that it calls make is longer than what came in: it says more and counts as full. Else prove '..UptoSaid'. A law counts once. -/
mutual
def uptoBulk {H : Type} : DataW H → Nat
  | .lit (.string bytes) => bytes.length + 1
  | .lit _ => 1
  | .nil => 1
  | .ptr d => uptoBulk d + 1
  | .slice elems spare => uptoBulkAll elems + uptoBulkAll spare + 1
  | .agg parts => uptoBulkAll parts + 1
  | .iface _ d => uptoBulk d + 1
  | .map entries => uptoBulkEntries entries + 1
  | .held _ => 1
def uptoBulkAll {H : Type} : List (DataW H) → Nat
  | [] => 0
  | d :: r => uptoBulk d + uptoBulkAll r
def uptoBulkEntries {H : Type} : List (Lit × DataW H) → Nat
  | [] => 0
  | x :: r => uptoBulkEntry x + uptoBulkEntries r
def uptoBulkEntry {H : Type} : Lit × DataW H → Nat
  | (.string bytes, d) => bytes.length + uptoBulk d + 1
  | (_, d) => uptoBulk d + 1
 end
def uptoSmall : (H : Type) → List (DataW H) → Bool := fun _ ds => decide (uptoBulkAll ds ≤ 1048576)
def OpenSpec.upto (s : _root_.Go.ChangeSpec) : _root_.Go.OpenSpec := { _root_.Go.OpenSpec.ofChange s with cond := some uptoSmall }

/-- 'lombardlaw30.AuthPlays', WHERE WHAT IT READS IS OF BULK AT MOST 1048576: true; the input reads as it did. -/
def authPlaysUptoRow : OpenClaim := { program := "ytjdkibnhlmgppaagreat", sum := "5e6d95f1b16aa991f09bf32f50fca54b28c2b391dd7e6ef2e823644b0b3f24ba", func := "lombard/lombardlaw30.AuthPlays", spec := "authPlays", inPlace := ["internal/abi.NoEscape", "slices.overlaps[lombard/auth.Member]"], unfollowed := true, recurses := true, apart := false, narrowed := true }
def AuthPlaysUptoSaid : Prop := authPlaysUptoRow.holds Tryz.pinned (OpenSpec.upto authPlaysSpec)

/-- 'lombardlaw30.AuthLoads', WHERE WHAT IT READS IS OF BULK AT MOST 1048576: true; the input reads as it did. -/
def authLoadsUptoRow : OpenClaim := { program := "ytjdkibnhlmgppaagreat", sum := "5e6d95f1b16aa991f09bf32f50fca54b28c2b391dd7e6ef2e823644b0b3f24ba", func := "lombard/lombardlaw30.AuthLoads", spec := "authLoads", inPlace := ["internal/abi.NoEscape", "slices.overlaps[lombard/auth.Member]"], unfollowed := true, recurses := true, apart := false, narrowed := true }
def AuthLoadsUptoSaid : Prop := authLoadsUptoRow.holds Tryz.pinned (OpenSpec.upto authLoadsSpec)

/-- 'lombardlaw30.AuthTells', WHERE WHAT IT READS IS OF BULK AT MOST 1048576: true; the input reads as it did. -/
def authTellsUptoRow : OpenClaim := { program := "ytjdkibnhlmgppaagreat", sum := "5e6d95f1b16aa991f09bf32f50fca54b28c2b391dd7e6ef2e823644b0b3f24ba", func := "lombard/lombardlaw30.AuthTells", spec := "authTells", inPlace := ["internal/abi.NoEscape", "slices.overlaps[lombard/auth.Member]"], unfollowed := true, recurses := true, apart := false, narrowed := true }
def AuthTellsUptoSaid : Prop := authTellsUptoRow.holds Tryz.pinned (OpenSpec.upto authTellsSpec)

/-- 'lombardlaw30.AuthMay', WHERE WHAT IT READS IS OF BULK AT MOST 1048576: true; the input reads as it did. -/
def authMayUptoRow : OpenClaim := { program := "ytjdkibnhlmgppaagreat", sum := "5e6d95f1b16aa991f09bf32f50fca54b28c2b391dd7e6ef2e823644b0b3f24ba", func := "lombard/lombardlaw30.AuthMay", spec := "authMay", inPlace := ["internal/abi.NoEscape", "slices.overlaps[lombard/auth.Member]"], unfollowed := true, recurses := true, apart := false, narrowed := true }
def AuthMayUptoSaid : Prop := authMayUptoRow.holds Tryz.pinned (OpenSpec.upto authMaySpec)

/-- 'lombardlaw30.AuthStays', WHERE WHAT IT READS IS OF BULK AT MOST 1048576: true; the input reads as it did. -/
def authStaysUptoRow : OpenClaim := { program := "ytjdkibnhlmgppaagreat", sum := "5e6d95f1b16aa991f09bf32f50fca54b28c2b391dd7e6ef2e823644b0b3f24ba", func := "lombard/lombardlaw30.AuthStays", spec := "authStays", inPlace := ["internal/abi.NoEscape", "slices.overlaps[lombard/auth.Member]"], unfollowed := true, recurses := true, apart := false, narrowed := true }
def AuthStaysUptoSaid : Prop := authStaysUptoRow.holds Tryz.pinned (OpenSpec.upto authStaysSpec)

end Rows
end Go.Proofs.YtjdkibnhlmgppaaGreat
