/-
  No cell of these rows narrows 'for every input' (looked for: loops, veiled, ifaces, maps, wideKeys, modest, calm, conditions, laid).
  DERIVED. THE GIVEN ROWS OF THIS SEAT. 5 by the template 'for every input the law returns true; each argument reads behind the call as it read before'; 0 by the template 'total and deterministic' (their statements: YtidinbjehfodoaaTotals.lean).
  GIVEN WITH THE SEED: the statements are not yours to turn. If you find one false, say at which input.
  Laid BY PROGRAM, IN A SANDBOX (cutbox-rows.mjs): the forced cells as the released guide's own fill.sh prints them over the translation 8af60dba0d9009e4… (all of the seat's roots in one cut). By AI agents, Wed Nov 11 2026. No macro, syntax, notation, axiom, sorry.
-/
import Derived.Test.YtidinbjehfodoaaChecked
import GoSem.Claim
import GoSem.ClaimJoined
import GoSem.ClaimMapViews
import Derived.JoinedTies
import Derived.KernelRfl
namespace Go.Proofs.Ytidinbjehfodoaa
/- THE CELL 'sum', in the pinned program and in every row, IS THE sha256 OF THE DUMP (.gsa) THAT YtidinbjehfodoaaProg.lean LOADS. Nothing in Lean hashes anything: it is a label: what it is worth is what the hold of that sum in a sandbox is worth. -/
noncomputable def Try.pinned : Pinned := { name := "ytidinbjehfodoaa", sum := "8af60dba0d9009e4ddf23cab9facf471979e40ff97f92131701a9a88897a3fb8", checked := Try.checked }
namespace Rows
def none {H : Type} : Left H := { results := [], args := [] }

/-- 'lombardlaw23.TradeChecks': WHATEVER THE INPUT: true; the input reads as it did. -/
def tradeChecksSpec : ChangeSpec := { name := "tradeChecks", fn := fun _ => fun
  | [d1, d2, d3] => { results := [.lit (.bool true)], args := [d1, d2, d3] }
  | _ => none }
def tradeChecksRow : OpenClaim := { program := "ytidinbjehfodoaa", sum := "8af60dba0d9009e4ddf23cab9facf471979e40ff97f92131701a9a88897a3fb8", func := "lombard/lombardlaw23.TradeChecks", spec := "tradeChecks", unfollowed := true, recurses := true, apart := false }
def TradeChecksSaid : Prop := tradeChecksRow.holds Try.pinned (OpenSpec.ofChange tradeChecksSpec)

/-- ITS FALSE NEIGHBOUR: 'it returns false'. Refute it at one input. -/
def tradeChecksWrong : ChangeSpec := { name := "tradeChecks", fn := fun _ => fun
  | [d1, d2, d3] => { results := [.lit (.bool false)], args := [d1, d2, d3] }
  | _ => none }
def TradeChecksWrongFalsely : Prop := tradeChecksRow.holds Try.pinned (OpenSpec.ofChange tradeChecksWrong)

/-- 'lombardlaw23.TradeLoads': WHATEVER THE INPUT: true; the input reads as it did. -/
def tradeLoadsSpec : ChangeSpec := { name := "tradeLoads", fn := fun _ => fun
  | [d1, d2] => { results := [.lit (.bool true)], args := [d1, d2] }
  | _ => none }
def tradeLoadsRow : OpenClaim := { program := "ytidinbjehfodoaa", sum := "8af60dba0d9009e4ddf23cab9facf471979e40ff97f92131701a9a88897a3fb8", func := "lombard/lombardlaw23.TradeLoads", spec := "tradeLoads", unfollowed := true, recurses := true, apart := false }
def TradeLoadsSaid : Prop := tradeLoadsRow.holds Try.pinned (OpenSpec.ofChange tradeLoadsSpec)

/-- ITS FALSE NEIGHBOUR: 'it returns false'. Refute it at one input. -/
def tradeLoadsWrong : ChangeSpec := { name := "tradeLoads", fn := fun _ => fun
  | [d1, d2] => { results := [.lit (.bool false)], args := [d1, d2] }
  | _ => none }
def TradeLoadsWrongFalsely : Prop := tradeLoadsRow.holds Try.pinned (OpenSpec.ofChange tradeLoadsWrong)

/-- 'lombardlaw23.TradePlays': WHATEVER THE INPUT: true; the input reads as it did. -/
def tradePlaysSpec : ChangeSpec := { name := "tradePlays", fn := fun _ => fun
  | [d] => { results := [.lit (.bool true)], args := [d] }
  | _ => none }
def tradePlaysRow : OpenClaim := { program := "ytidinbjehfodoaa", sum := "8af60dba0d9009e4ddf23cab9facf471979e40ff97f92131701a9a88897a3fb8", func := "lombard/lombardlaw23.TradePlays", spec := "tradePlays", unfollowed := true, recurses := true, apart := false }
def TradePlaysSaid : Prop := tradePlaysRow.holds Try.pinned (OpenSpec.ofChange tradePlaysSpec)

/-- ITS FALSE NEIGHBOUR: 'it returns false'. Refute it at one input. -/
def tradePlaysWrong : ChangeSpec := { name := "tradePlays", fn := fun _ => fun
  | [d] => { results := [.lit (.bool false)], args := [d] }
  | _ => none }
def TradePlaysWrongFalsely : Prop := tradePlaysRow.holds Try.pinned (OpenSpec.ofChange tradePlaysWrong)

/-- 'lombardlaw23.TradeTells': WHATEVER THE INPUT: true; the input reads as it did. -/
def tradeTellsSpec : ChangeSpec := { name := "tradeTells", fn := fun _ => fun
  | [d1, d2, d3, d4] => { results := [.lit (.bool true)], args := [d1, d2, d3, d4] }
  | _ => none }
def tradeTellsRow : OpenClaim := { program := "ytidinbjehfodoaa", sum := "8af60dba0d9009e4ddf23cab9facf471979e40ff97f92131701a9a88897a3fb8", func := "lombard/lombardlaw23.TradeTells", spec := "tradeTells", unfollowed := true, recurses := true, apart := false }
def TradeTellsSaid : Prop := tradeTellsRow.holds Try.pinned (OpenSpec.ofChange tradeTellsSpec)

/-- ITS FALSE NEIGHBOUR: 'it returns false'. Refute it at one input. -/
def tradeTellsWrong : ChangeSpec := { name := "tradeTells", fn := fun _ => fun
  | [d1, d2, d3, d4] => { results := [.lit (.bool false)], args := [d1, d2, d3, d4] }
  | _ => none }
def TradeTellsWrongFalsely : Prop := tradeTellsRow.holds Try.pinned (OpenSpec.ofChange tradeTellsWrong)

/-- 'lombardlaw23.TradeApart': WHATEVER THE INPUT: true; the input reads as it did. -/
def tradeApartSpec : ChangeSpec := { name := "tradeApart", fn := fun _ => fun
  | [d1, d2] => { results := [.lit (.bool true)], args := [d1, d2] }
  | _ => none }
def tradeApartRow : OpenClaim := { program := "ytidinbjehfodoaa", sum := "8af60dba0d9009e4ddf23cab9facf471979e40ff97f92131701a9a88897a3fb8", func := "lombard/lombardlaw23.TradeApart", spec := "tradeApart", unfollowed := true, recurses := true, apart := false }
def TradeApartSaid : Prop := tradeApartRow.holds Try.pinned (OpenSpec.ofChange tradeApartSpec)

/-- ITS FALSE NEIGHBOUR: 'it returns false'. Refute it at one input. -/
def tradeApartWrong : ChangeSpec := { name := "tradeApart", fn := fun _ => fun
  | [d1, d2] => { results := [.lit (.bool false)], args := [d1, d2] }
  | _ => none }
def TradeApartWrongFalsely : Prop := tradeApartRow.holds Try.pinned (OpenSpec.ofChange tradeApartWrong)

/- THE SECOND FORM. 'bulk': how many values and letters a reading holds, each counted each time it is reached (what is shared counts as often as it is met; a slice's spare places count too). A statement '..UptoSaid' is the law's where the arguments, and the package variables that the reading takes, are together of bulk at most 1048576: NARROWER than '..Said'. Prove '..Said' where nothing that the law and all that it calls make is longer than what came in: it says more and counts as full. Else prove '..UptoSaid'. A law counts once. -/
mutual
def uptoBulk {H : Type} : DataW H → Nat
  | .lit (.string bytes) => bytes.length + 1
  | .lit _ => 1
  | .nil => 1
  | .ptr d => uptoBulk d + 1
  | .slice elems spare => uptoBulkAll elems + uptoBulkAll spare + 1
  | .agg parts => uptoBulkAll parts + 1
  | .iface _ d => uptoBulk d + 1
  | .map entries => uptoBulkEntries entries + 1
  | .held _ => 1
def uptoBulkAll {H : Type} : List (DataW H) → Nat
  | [] => 0
  | d :: r => uptoBulk d + uptoBulkAll r
def uptoBulkEntries {H : Type} : List (Lit × DataW H) → Nat
  | [] => 0
  | x :: r => uptoBulkEntry x + uptoBulkEntries r
def uptoBulkEntry {H : Type} : Lit × DataW H → Nat
  | (.string bytes, d) => bytes.length + uptoBulk d + 1
  | (_, d) => uptoBulk d + 1
 end
def uptoSmall : (H : Type) → List (DataW H) → Bool := fun _ ds => decide (uptoBulkAll ds ≤ 1048576)
def OpenSpec.upto (s : _root_.Go.ChangeSpec) : _root_.Go.OpenSpec := { _root_.Go.OpenSpec.ofChange s with cond := some uptoSmall }

/-- 'lombardlaw23.TradeChecks', WHERE WHAT IT READS IS OF BULK AT MOST 1048576: true; the input reads as it did. -/
def tradeChecksUptoRow : OpenClaim := { program := "ytidinbjehfodoaa", sum := "8af60dba0d9009e4ddf23cab9facf471979e40ff97f92131701a9a88897a3fb8", func := "lombard/lombardlaw23.TradeChecks", spec := "tradeChecks", unfollowed := true, recurses := true, apart := false, narrowed := true }
def TradeChecksUptoSaid : Prop := tradeChecksUptoRow.holds Try.pinned (OpenSpec.upto tradeChecksSpec)

/-- 'lombardlaw23.TradeLoads', WHERE WHAT IT READS IS OF BULK AT MOST 1048576: true; the input reads as it did. -/
def tradeLoadsUptoRow : OpenClaim := { program := "ytidinbjehfodoaa", sum := "8af60dba0d9009e4ddf23cab9facf471979e40ff97f92131701a9a88897a3fb8", func := "lombard/lombardlaw23.TradeLoads", spec := "tradeLoads", unfollowed := true, recurses := true, apart := false, narrowed := true }
def TradeLoadsUptoSaid : Prop := tradeLoadsUptoRow.holds Try.pinned (OpenSpec.upto tradeLoadsSpec)

/-- 'lombardlaw23.TradePlays', WHERE WHAT IT READS IS OF BULK AT MOST 1048576: true; the input reads as it did. -/
def tradePlaysUptoRow : OpenClaim := { program := "ytidinbjehfodoaa", sum := "8af60dba0d9009e4ddf23cab9facf471979e40ff97f92131701a9a88897a3fb8", func := "lombard/lombardlaw23.TradePlays", spec := "tradePlays", unfollowed := true, recurses := true, apart := false, narrowed := true }
def TradePlaysUptoSaid : Prop := tradePlaysUptoRow.holds Try.pinned (OpenSpec.upto tradePlaysSpec)

/-- 'lombardlaw23.TradeTells', WHERE WHAT IT READS IS OF BULK AT MOST 1048576: true; the input reads as it did. -/
def tradeTellsUptoRow : OpenClaim := { program := "ytidinbjehfodoaa", sum := "8af60dba0d9009e4ddf23cab9facf471979e40ff97f92131701a9a88897a3fb8", func := "lombard/lombardlaw23.TradeTells", spec := "tradeTells", unfollowed := true, recurses := true, apart := false, narrowed := true }
def TradeTellsUptoSaid : Prop := tradeTellsUptoRow.holds Try.pinned (OpenSpec.upto tradeTellsSpec)

/-- 'lombardlaw23.TradeApart', WHERE WHAT IT READS IS OF BULK AT MOST 1048576: true; the input reads as it did. -/
def tradeApartUptoRow : OpenClaim := { program := "ytidinbjehfodoaa", sum := "8af60dba0d9009e4ddf23cab9facf471979e40ff97f92131701a9a88897a3fb8", func := "lombard/lombardlaw23.TradeApart", spec := "tradeApart", unfollowed := true, recurses := true, apart := false, narrowed := true }
def TradeApartUptoSaid : Prop := tradeApartUptoRow.holds Try.pinned (OpenSpec.upto tradeApartSpec)

end Rows
end Go.Proofs.Ytidinbjehfodoaa
