/- Shows what the program's writer writes for whole numbers, texts and truths, as plain lists of bytes. -/
import Derived.Test.YtbmokbkgielmmaaGreatPuCur
import Derived.Test.YtbmokbkgielmmaaGreatGx1
import Derived.Test.YtbmokbkgielmmaaGreatGx1
namespace Go.Proofs.YtbmokbkgielmmaaGreat
open Go Go.Pm Go.Pm.Arith
set_option linter.unusedVariables false
set_option linter.unusedSimpArgs false
theorem i64_wrap (n : Int) : IntKind.i64.wrap n = (n + 9223372036854775808) % 18446744073709551616 - 9223372036854775808 := by
 simp only [IntKind.wrap, IntKind.bits, IntKind.signed]; simp; omega
theorem i64_id (n : Int) (h₀ : -9223372036854775808 ≤ n) (h₁ : n < 9223372036854775808) : IntKind.i64.wrap n = n := by rw [i64_wrap]; omega
theorem u8_wrap (n : Int) : IntKind.u8.wrap n = n % 256 := by simp [IntKind.wrap, IntKind.bits, IntKind.signed]
theorem or128 : ∀ n : Fin 256, bits .or .u8 (bits .and .u8 (n : Int) 127) 128 = 128 + (n : Int) % 128 ∧ bits .and .u8 (n : Int) 127 = (n : Int) % 128 := by decide +kernel
theorem or_128 (y : Int) (h : 0 ≤ y) : bits .or .u8 (bits .and .u8 (IntKind.wrap .u8 y) 127) 128 = 128 + y % 128 ∧ bits .and .u8 (IntKind.wrap .u8 y) 127 = y % 128 := by
 rw [u8_wrap]
 have k := or128 ⟨(y % 256).toNat, by omega⟩
 have e : ((⟨(y % 256).toNat, by omega⟩ : Fin 256) : Nat) = (y % 256).toNat := rfl
 have e2 : (((y % 256).toNat : Nat) : Int) = y % 256 := by omega
 simp only [e2] at k
 rw [k.1, k.2]
 omega
def digits : Nat → Int → List Int
 | 0, x => [x % 128]
 | k + 1, x => (128 + x / 128 ^ (k + 1) % 128) :: digits k x
theorem digits_len : ∀ (k : Nat) (x : Int), (digits k x).length = k + 1
 | 0, x => rfl
 | k + 1, x => by rw [digits, List.length_cons, digits_len k x]
def Needs (x : Int) (m : Nat) : Prop := m ≤ 9 ∧ x / 128 ^ (m + 1) = 0 ∧ (m = 0 ∨ x / 128 ^ m ≠ 0)
theorem toB_append (a b : List Int) : toB (a ++ b) = toB a ++ toB b := by unfold toB; exact List.map_append
theorem toB_len (a : List Int) : (toB a).length = a.length := by unfold toB; exact List.length_map _
theorem toB_bts (s : Bs) : toB (bts s) = s := by
 unfold toB bts
 rw [List.map_map]
 conv => rhs; rw [← List.map_id s]
 refine List.map_congr_left fun x _ => ?_
 show UInt8.ofNat ((x.toNat : Int)).toNat = x
 rw [Int.toNat_natCast, UInt8.ofNat_toNat]
theorem needs_uniq {x : Int} {m k : Nat} (h : Needs x m) (h' : Needs x k) : m = k := by
 have mono : ∀ (a d : Nat), x / 128 ^ (a + 1) = 0 → x / 128 ^ (a + 1 + d) = 0 := fun a d e => by
  rw [Int.pow_add, ← Int.ediv_ediv_of_nonneg (Int.pow_nonneg (by decide)), e, Int.zero_ediv]
 rcases Nat.lt_trichotomy m k with c | c | c
 ·rcases h'.2.2 with z | z
  ·omega
  ·have := mono m (k - m - 1) h.2.1
   rw [show m + 1 + (k - m - 1) = k by omega] at this
   exact absurd this z
 ·exact c
 ·rcases h.2.2 with z | z
  ·omega
  ·have := mono k (m - k - 1) h'.2.1
   rw [show k + 1 + (m - k - 1) = m by omega] at this
   exact absurd this z
open Classical in
noncomputable def eU (x : Int) : List Int := if h : ∃ m, Needs x m then digits (Classical.choose h) x else []
theorem eU_is {x : Int} {m : Nat} (h : Needs x m) : eU x = digits m x := by
 have hx : ∃ m, Needs x m := ⟨m, h⟩
 unfold eU
 rw [dif_pos hx, needs_uniq h (Classical.choose_spec hx)]
theorem eU_len (x : Int) : (eU x).length ≤ 10 := by
 by_cases hx : ∃ m, Needs x m
 ·obtain ⟨m, hm⟩ := hx
  rw [eU_is hm, digits_len]
  have := hm.1; omega
 ·unfold eU; rw [dif_neg hx]; simp
def fold (n : Int) : Int := if n < 0 then (2 * (-1 - n) + 1) % 18446744073709551616 else (2 * n) % 18446744073709551616
noncomputable def eI (n : Int) : List Int := eU (fold n)
noncomputable def eT (s : Bs) : List Int := eU (s.length : Int) ++ bts s
def eB (t : Bool) : List Int := [if t = true then 1 else 0]
class Sh {α : Type} (l : List α) (k : outParam Nat) : Prop where
 le : l.length ≤ k
instance shNil {α : Type} : Sh ([] : List α) 0 := ⟨Nat.le_refl _⟩
instance shCons {α : Type} {a : α} {l : List α} {k : Nat} [h : Sh l k] : Sh (a :: l) (k + 1) := ⟨Nat.succ_le_succ h.le⟩
instance shApp {α : Type} {a b : List α} {m n : Nat} [h : Sh a m] [h' : Sh b n] : Sh (a ++ b) (m + n) := ⟨by rw [List.length_append]; have := h.le; have := h'.le; omega⟩
instance shB {l : List Int} {k : Nat} [h : Sh l k] : Sh (toB l) k := ⟨by rw [toB_len]; exact h.le⟩
instance shU (x : Int) : Sh (eU x) 10 := ⟨eU_len x⟩
instance shI (n : Int) : Sh (eI n) 10 := ⟨eU_len _⟩
instance shT {s : Bs} {k : Nat} [h : Sh s k] : Sh (eT s) (10 + k) := ⟨by
 have := h.le; have := eU_len (s.length : Int); unfold eT bts; rw [List.length_append, List.length_map]; omega⟩
instance shBo (t : Bool) : Sh (eB t) 1 := ⟨Nat.le_refl _⟩
theorem flat_len {α : Type} (E : α → List Int) (K : Nat) : ∀ (l : List α), (∀ y ∈ l, (E y).length ≤ K) → (l.flatMap E).length ≤ K * l.length
 | [], _ => by simp
 | a :: l, h => by
  have h1 := h a (by simp)
  have h2 := flat_len E K l (fun y hy => h y (by simp [hy]))
  rw [List.flatMap_cons, List.length_append, List.length_cons, Nat.mul_succ]
  omega
instance shF {l : List Int} {k : Nat} [h : Sh l k] : Sh (l.flatMap eI) (10 * k) := ⟨by
 have := flat_len eI 10 l (fun y _ => eU_len _)
 have := h.le; omega⟩
theorem xor_neg (n : Int) : bits .xor .i64 (-1) n = IntKind.i64.wrap (-1 - n) := by
 show IntKind.i64.wrap ((BitVec.ofInt 64 (-1) ^^^ BitVec.ofInt 64 n).toNat : Int) = _
 have e : BitVec.ofInt 64 (-1) = BitVec.allOnes 64 := by decide
 rw [e, BitVec.allOnes_xor, BitVec.toNat_not, BitVec.toNat_ofInt, i64_wrap, i64_wrap]
 omega
theorem nth_at {α : Type} [Inhabited α] (l : List α) (i : Nat) (h : i < l.length) : nth l (i : Int) = l[i] := by
 show l.getD i default = _
 rw [List.getD_eq_getElem?_getD, List.getElem?_eq_getElem h]; rfl
end Go.Proofs.YtbmokbkgielmmaaGreat
