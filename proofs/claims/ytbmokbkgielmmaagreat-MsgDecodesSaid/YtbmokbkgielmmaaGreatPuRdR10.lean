/- Shows that the document's reader and the program's read the same, and come as far. -/
import Derived.Test.YtbmokbkgielmmaaGreatPuRead10
import Derived.Test.YtbmokbkgielmmaaGreatGx3
import Derived.Test.YtbmokbkgielmmaaGreatGx3
import Derived.Test.YtbmokbkgielmmaaGreatGx3
import Derived.Test.YtbmokbkgielmmaaGreatGx3
import Derived.Test.YtbmokbkgielmmaaGreatGx4
namespace Go.Proofs.YtbmokbkgielmmaaGreat
open Go Go.Pm Go.Pm.Arith
set_option linter.unusedVariables false
set_option linter.unusedSimpArgs false
def val (t : Bs) : Nat → Int
 | 0 => 0
 | i + 1 => val t i * 128 + byte t (i : Int) % 128
theorem byte_in (t : Bs) (i : Nat) : 0 ≤ byte t (i : Int) ∧ byte t (i : Int) < 256 := by
 have := (t.getD i default).toNat_lt
 show 0 ≤ (((t.getD i default).toNat : Nat) : Int) ∧ (((t.getD i default).toNat : Nat) : Int) < 256
 omega
theorem val_nonneg (t : Bs) : ∀ i, 0 ≤ val t i
 | 0 => Int.le_refl _
 | i + 1 => by have := val_nonneg t i; have := byte_in t i; simp only [val]; omega
theorem val_mono (t : Bs) (i : Nat) : ∀ d, val t i ≤ val t (i + d)
 | 0 => Int.le_refl _
 | d + 1 => by
  have h1 := val_mono t i d
  have h2 := val_nonneg t (i + d)
  have h3 := byte_in t (i + d)
  show val t i ≤ val t (i + d) * 128 + _
  omega
theorem dfail0 (s : Bs) (p : Int) (k : Int) : lombardref09_Reader_fail.f ⟨s, p, 0⟩ k = some ⟨s, p, k⟩ := by
 unfold lombardref09_Reader_fail.f; rw [if_pos (by rfl)]
theorem sum_loop (s : Bs) (hs : s.length < 1000000000) (p : Nat) (k : Nat) (hk : k ≤ 20) (hp : p + k ≤ s.length) (hv : val (s.drop p) k < 18446744073709551616) : ∀ (j i : Nat), k = i + j →
 loop (lombardref09_Reader_Uint.r1 ⟨s, (p : Int), 0⟩ (k : Int)) (val (s.drop p) i, (i : Int)) = some (val (s.drop p) k)
 | 0, i, h => by
  obtain rfl : k = i := by omega
  exact loop_end (by unfold lombardref09_Reader_Uint.r1 lombardref09_Reader_Uint.b1; rw [if_neg (by simp)])
 | j + 1, i, h => by
  have w0 : IntKind.i64.wrap ((p : Int) + (i : Int)) = ((p + i : Nat) : Int) := by rw [i64_id _ (by omega) (by omega)]; omega
  have w1 : IntKind.i64.wrap ((i : Int) + 1) = ((i + 1 : Nat) : Int) := by rw [i64_id _ (by omega) (by omega)]; omega
  have v0 := val_nonneg (s.drop p) i
  have v1 := byte_in (s.drop p) i
  have v2 : val (s.drop p) (i + 1) ≤ val (s.drop p) k := by rw [show k = i + 1 + j by omega]; exact val_mono _ _ _
  have v3 : val (s.drop p) (i + 1) = val (s.drop p) i * 128 + byte (s.drop p) (i : Int) % 128 := rfl
  have key : lombardref09_Reader_Uint.r1 ⟨s, (p : Int), 0⟩ (k : Int) (val (s.drop p) i, (i : Int)) = some (.inl (val (s.drop p) (i + 1), ((i + 1 : Nat) : Int))) := by
   unfold lombardref09_Reader_Uint.r1 lombardref09_Reader_Uint.b1
   simp only
   rw [if_pos (decide_eq_true (by omega)), w0, if_pos (by omega), byte_drop, w1, Int.tmod_eq_emod_of_nonneg v1.1, u64_id (val (s.drop p) i * 128) (by omega) (by omega), u64_id (byte (s.drop p) (i : Int) % 128) (by omega) (by omega), u64_id _ (by omega) (by omega), v3]
  rw [loop_next key, sum_loop s hs p k hk hp hv j (i + 1) (by omega)]
structure Both (t : Bs) (i : Nat) (v : Int) : Prop where
 is : v = val t i
 nonneg : 0 ≤ v
 most : v < 128 ^ i
 fits : v < 18446744073709551616
 lead : i ≠ 0 → v / 128 ^ (i - 1) = byte t 0 - 128 ∧ 128 < byte t 0
theorem form_iff {t : Bs} {i : Nat} {v : Int} (h : Both t i v) (hi : i ≤ 10) : v / 144115188075855872 ≠ 0 ↔ (i = 10 ∨ (i = 9 ∧ byte t 0 > 129)) := by
 have h0 := h.nonneg
 have hm := h.most
 by_cases c : i ≤ 8
 ·have : (128 : Int) ^ i ≤ 128 ^ 8 := by
   have t : (128 : Nat) ^ i ≤ 128 ^ 8 := Nat.pow_le_pow_right (by decide) c
   exact_mod_cast t
  have e : (128 : Int) ^ 8 = 72057594037927936 := by decide
  constructor
  ·intro h; exfalso; omega
  ·rintro (h | ⟨h, _⟩) <;> omega
 ·by_cases c9 : i = 9
  ·subst c9
   have l := h.lead (by decide)
   have e : (128 : Int) ^ (9 - 1) = 72057594037927936 := by decide
   rw [e] at l
   constructor
   ·intro h; right; refine ⟨rfl, ?_⟩; omega
   ·rintro (h | ⟨_, h⟩)
    ·omega
    ·omega
  ·obtain rfl : i = 10 := by omega
   have l := h.lead (by decide)
   have e : (128 : Int) ^ (10 - 1) = 9223372036854775808 := by decide
   rw [e] at l
   constructor
   ·intro _; exact Or.inl rfl
   ·intro _; omega
theorem uint_loop (s : Bs) (hs : s.length < 1000000000) (p : Nat) (hp : p ≤ s.length) : ∀ (n i : Nat) (v : Int), i + n = 10 → p + i ≤ s.length → Both (s.drop p) i v →
 ∃ (x : Int) (q : Nat) (e' : Int) (o : (Int × wire_Reader) ⊕ (Bs × Int × Int)), loop (wire_Reader_Uint.r0 ⟨s, (p : Int), 0⟩) (v, (i : Int)) = some o ∧ loop (lombardref09_Reader_Uint.r0 ⟨s, (p : Int), 0⟩) ((i + 1 : Nat) : Int) = some (.inl (⟨s, (q : Int), e'⟩, x)) ∧
  (match o with | .inl r => r = (x, ⟨s, (q : Int), e'⟩) | .inr r => x = 0 ∧ r = (s, (q : Int), e')) ∧ q ≤ s.length
 | n, i, v, hn, hi, hb => by
  have w0 : IntKind.i64.wrap ((p : Int) + (i : Int)) = ((p + i : Nat) : Int) := by rw [i64_id _ (by omega) (by omega)]; omega
  have w1 : IntKind.i64.wrap ((i : Int) + 1) = ((i + 1 : Nat) : Int) := by rw [i64_id _ (by omega) (by omega)]; omega
  have w2 : IntKind.i64.wrap ((p : Int) + ((i + 1 : Nat) : Int)) = ((p + (i + 1) : Nat) : Int) := by rw [i64_id _ (by omega) (by omega)]; omega
  have w3 : IntKind.i64.wrap (((p + (i + 1) : Nat) : Int) - 1) = ((p + i : Nat) : Int) := by rw [i64_id _ (by omega) (by omega)]; omega
  have w4 : IntKind.i64.wrap (((i + 1 : Nat) : Int) + 1) = ((i + 1 + 1 : Nat) : Int) := by rw [i64_id _ (by omega) (by omega)]; omega
  have sh : shrI .u64 v 57 = v / 144115188075855872 := by
   show v.fdiv 144115188075855872 = _; exact Int.fdiv_eq_ediv_of_nonneg _ (by decide)
  by_cases c : p + i ≥ s.length
  ·refine ⟨0, p, 14, .inr (s, (p : Int), 14), loop_end ?_, loop_end ?_, ⟨rfl, rfl⟩, hp⟩
   ·unfold wire_Reader_Uint.r0 wire_Reader_Uint.b0
    simp only
    rw [if_pos (by rfl), w0, if_pos (decide_eq_true (by omega)), fail0]; rfl
   ·unfold lombardref09_Reader_Uint.r0 lombardref09_Reader_Uint.b0
    simp only
    rw [if_pos (decide_eq_true (by omega)), w2, if_pos (decide_eq_true (by omega)), dfail0]; rfl
  ·obtain ⟨q0, q1⟩ := byte_in (s.drop p) i
   have p0 : byte s (p : Int) = byte (s.drop p) 0 := by have := byte_drop s p 0; rw [Nat.add_zero] at this; exact this
   have b0 := (byte_in (s.drop p) 0)
   have ff := form_iff hb (by omega)
   have fl : ((((((i + 1 : Nat) : Int) == 1) && (byte (s.drop p) (i : Int) == 128)) || (((i + 1 : Nat) : Int) == 11)) || ((((i + 1 : Nat) : Int) == 10) && decide (byte s (p : Int) > 129))) = ((((i : Int) == 0) && (byte (s.drop p) (i : Int) == 128)) || (v / 144115188075855872 != 0)) := by
    rw [p0, Bool.eq_iff_iff]
    simp only [Bool.or_eq_true, Bool.and_eq_true, beq_iff_eq, decide_eq_true_eq, bne_iff_ne]
    constructor
    ·rintro ((⟨h1, h2⟩ | h) | ⟨h1, h2⟩)
     ·exact .inl ⟨by omega, h2⟩
     ·exact .inr (ff.2 (.inl (by omega)))
     ·exact .inr (ff.2 (.inr ⟨by omega, h2⟩))
    ·rintro (⟨h1, h2⟩ | h)
     ·exact .inl (.inl ⟨by omega, h2⟩)
     ·rcases ff.1 h with h | ⟨h1, h2⟩
      ·exact .inl (.inr (by omega))
      ·exact .inr ⟨by omega, h2⟩
   by_cases k1 : ((((i : Int) == 0) && (byte (s.drop p) (i : Int) == 128)) || (v / 144115188075855872 != 0)) = true
   ·refine ⟨0, p, 15, .inr (s, (p : Int), 15), loop_end ?_, loop_end ?_, ⟨rfl, rfl⟩, hp⟩
    ·unfold wire_Reader_Uint.r0 wire_Reader_Uint.b0
     simp only
     rw [if_pos (by rfl), w0, if_neg (by simp; omega), if_pos (by omega), fail0, Option.bind_some, byte_drop, sh, if_pos k1]
    ·unfold lombardref09_Reader_Uint.r0 lombardref09_Reader_Uint.b0
     simp only
     rw [if_pos (decide_eq_true (by omega)), w2, if_neg (by simp; omega), w3, if_pos (by omega), if_pos (fun _ => by omega), byte_drop, fl, if_pos k1, dfail0]; rfl
   ·have v0 := hb.nonneg
    have vz : v / 144115188075855872 = 0 := by
     by_cases z : v / 144115188075855872 = 0
     ·exact z
     ·exact absurd (by rw [Bool.or_eq_true]; exact .inr (by simpa using z)) k1
    have v1 : v < 144115188075855872 := by omega
    have jn := join7 v (byte (s.drop p) (i : Int) % 128) v0 v1 (by omega) (by omega)
    have vs : val (s.drop p) (i + 1) = v * 128 + byte (s.drop p) (i : Int) % 128 := by rw [val, ← hb.is]
    by_cases k2 : byte (s.drop p) (i : Int) < 128
    ·refine ⟨v * 128 + byte (s.drop p) (i : Int) % 128, p + (i + 1), 0, .inl (v * 128 + byte (s.drop p) (i : Int) % 128, ⟨s, ((p + (i + 1) : Nat) : Int), 0⟩), loop_end ?_, loop_end ?_, rfl, by omega⟩
     ·unfold wire_Reader_Uint.r0 wire_Reader_Uint.b0
      simp only
      rw [if_pos (by rfl), w0, if_neg (by simp; omega), if_pos (by omega), byte_drop, sh, if_neg k1, if_pos (decide_eq_true k2), and127 _ q0 q1, w1, w2, jn]
     ·have sl := sum_loop s hs p (i + 1) (by omega) (by omega) (by rw [vs]; omega) (i + 1) 0 (by omega)
      have sl' : loop (lombardref09_Reader_Uint.r1 ⟨s, (p : Int), 0⟩ ((i + 1 : Nat) : Int)) (0, 0) = _ := sl
      unfold lombardref09_Reader_Uint.r0 lombardref09_Reader_Uint.b0
      simp only
      rw [if_pos (decide_eq_true (by omega)), w2, if_neg (by simp; omega), w3, if_pos (by omega), if_pos (fun _ => by omega), byte_drop, fl, if_neg k1, if_pos (decide_eq_true k2), sl', vs]; rfl
    ·have lt9 : i < 10 := by
      by_cases z : i = 10
      ·exact absurd (ff.2 (.inl z)) (by omega)
      ·omega
     obtain ⟨n, rfl⟩ : ∃ m, n = m + 1 := ⟨n - 1, by omega⟩
     have pe : (128 : Int) ^ (i + 1) = 128 ^ i * 128 := Int.pow_succ _ _
     have hm := hb.most
     have nxt : Both (s.drop p) (i + 1) (v * 128 + byte (s.drop p) (i : Int) % 128) := by
      refine ⟨vs.symm, by omega, by rw [pe]; omega, by omega, fun _ => ?_⟩
      rw [Nat.add_sub_cancel]
      by_cases z : i = 0
      ·subst z
       have ne : byte (s.drop p) ((0 : Nat) : Int) ≠ 128 := fun h => k1 (by rw [h]; rfl)
       have e0 : byte (s.drop p) ((0 : Nat) : Int) = byte (s.drop p) 0 := rfl
       have vv : v = 0 := by rw [hb.is]; rfl
       rw [Int.pow_zero, Int.ediv_one, vv]
       rw [e0] at ne k2 q1 ⊢
       omega
      ·obtain ⟨l1, l2⟩ := hb.lead z
       refine ⟨?_, l2⟩
       obtain ⟨k, rfl⟩ : ∃ k, i = k + 1 := ⟨i - 1, by omega⟩
       rw [Nat.add_sub_cancel] at l1
       have e : (128 : Int) ^ (k + 1) = 128 * 128 ^ k := by rw [Int.pow_succ, Int.mul_comm]
       rw [e, ← Int.ediv_ediv_of_nonneg (by decide), ← l1]
       congr 1
       omega
     obtain ⟨x, q, e', o, h1, h2, h3, h4⟩ := uint_loop s hs p hp n (i + 1) _ (by omega) (by omega) nxt
     refine ⟨x, q, e', o, ?_, ?_, h3, h4⟩
     ·rw [← h1]
      refine loop_next ?_
      unfold wire_Reader_Uint.r0 wire_Reader_Uint.b0
      simp only
      rw [if_pos (by rfl), w0, if_neg (by simp; omega), if_pos (by omega), byte_drop, sh, if_neg k1, if_neg (by simpa using k2), and127 _ q0 q1, w1, jn]
     ·rw [← h2]
      refine loop_next ?_
      unfold lombardref09_Reader_Uint.r0 lombardref09_Reader_Uint.b0
      simp only
      rw [if_pos (decide_eq_true (by omega)), w2, if_neg (by simp; omega), w3, if_pos (by omega), if_pos (fun _ => by omega), byte_drop, fl, if_neg k1, if_neg (by simpa using k2), w4]
termination_by n => n
def Bd {α β : Type} (s : Bs) (p : Nat) (e : Int) (P : Option (α × wire_Reader)) (D : Option (lombardref09_Reader × β)) (U R : α → β → Prop) : Prop :=
 ∃ (v : α) (w : β) (q : Nat) (e' : Int), P = some (v, ⟨s, (q : Int), e'⟩) ∧ D = some (⟨s, (q : Int), e'⟩, w) ∧ q ≤ s.length ∧ U v w ∧ (e' = 0 → e = 0 ∧ R v w) ∧ (e ≠ 0 → q = p ∧ e' = e)
theorem Bd.bind {α β γ δ : Type} {s : Bs} {p : Nat} {e : Int} {P : Option (α × wire_Reader)} {D : Option (lombardref09_Reader × β)} {U R : α → β → Prop} {f : α × wire_Reader → Option (γ × wire_Reader)} {g : lombardref09_Reader × β → Option (lombardref09_Reader × δ)} {U' R' : γ → δ → Prop}
 (h : Bd s p e P D U R) (k : ∀ (v : α) (w : β) (q : Nat) (e' : Int), q ≤ s.length → U v w → (e' = 0 → e = 0 ∧ R v w) → Bd s q e' (f (v, ⟨s, (q : Int), e'⟩)) (g (⟨s, (q : Int), e'⟩, w)) U' R') : Bd s p e (P.bind f) (D.bind g) U' R' := by
 obtain ⟨v, w, q, e1, h1, h2, h3, h4, h5, h6⟩ := h
 obtain ⟨v', w', q', e2, k1, k2, k3, k4, k5, k6⟩ := k v w q e1 h3 h4 h5
 refine ⟨v', w', q', e2, by rw [h1]; exact k1, by rw [h2]; exact k2, k3, k4, fun z => ⟨(h5 (k5 z).1).1, (k5 z).2⟩, fun z => ?_⟩
 obtain ⟨rfl, rfl⟩ := h6 z
 exact k6 z
theorem Bd.fin {α β : Type} {s : Bs} {p : Nat} {e : Int} {U R : α → β → Prop} (v : α) (w : β) (hp : p ≤ s.length) (hU : U v w) (hR : e = 0 → R v w) : Bd s p e (some (v, ⟨s, (p : Int), e⟩)) (some (⟨s, (p : Int), e⟩, w)) U R :=
 ⟨v, w, p, e, rfl, rfl, hp, hU, fun z => ⟨z, hR z⟩, fun _ => ⟨rfl, rfl⟩⟩
section
variable {s : Bs} (hs : s.length < 1000000000) {p : Nat} (hp : p ≤ s.length) (e : Int)
include hs hp
theorem bd_uint : Bd s p e (wire_Reader_Uint.f ⟨s, (p : Int), e⟩) (lombardref09_Reader_Uint.f ⟨s, (p : Int), e⟩) (fun x y => x = y ∧ 0 ≤ x ∧ x < 18446744073709551616) (fun _ _ => True) := by
 obtain ⟨x0, q0, e0, r1, r2, r3, r4, r5, r6⟩ := rd_uint s hs p hp e
 by_cases c : e = 0
 ·subst c
  obtain ⟨x, q, e', o, h1, h2, h3, h4⟩ := uint_loop s hs p hp 10 0 0 (by omega) (by omega) ⟨rfl, by decide, by decide, by decide, fun h => absurd rfl h⟩
  have h1' : loop (wire_Reader_Uint.r0 ⟨s, (p : Int), 0⟩) (0, 0) = some o := h1
  have h2' : loop (lombardref09_Reader_Uint.r0 ⟨s, (p : Int), 0⟩) 1 = _ := h2
  have pr : wire_Reader_Uint.f ⟨s, (p : Int), 0⟩ = some (x, ⟨s, (q : Int), e'⟩) := by
   unfold wire_Reader_Uint.f
   rw [h1', Option.bind_some]
   cases o with
   | inl r => simp only at h3; rw [h3]
   | inr r => simp only at h3; rw [h3.1, h3.2]
  have dr : lombardref09_Reader_Uint.f ⟨s, (p : Int), 0⟩ = some (⟨s, (q : Int), e'⟩, x) := by
   unfold lombardref09_Reader_Uint.f
   rw [if_neg (by simp), h2']; rfl
  rw [pr] at r1
  obtain ⟨rfl, rfl⟩ : x = x0 ∧ e' = e0 := by
   injection r1 with r1
   injection r1 with a b
   injection b with b1 b2 b3
   exact ⟨a, b3⟩
  exact ⟨x, x, q, e', pr, dr, h4, ⟨rfl, r3, r4⟩, fun z => ⟨rfl, trivial⟩, fun z => absurd rfl z⟩
 ·have hz : e0 ≠ 0 := fun z => c (r5 z).1
  obtain ⟨rfl, rfl⟩ := r6 hz
  have h1 : loop (wire_Reader_Uint.r0 ⟨s, (q0 : Int), e⟩) (0, 0) = some (.inr (s, (q0 : Int), e)) := loop_end (by
   unfold wire_Reader_Uint.r0 wire_Reader_Uint.b0
   rw [if_neg (by simpa using c)])
  have pr : wire_Reader_Uint.f ⟨s, (q0 : Int), e⟩ = some (0, ⟨s, (q0 : Int), e⟩) := by
   unfold wire_Reader_Uint.f
   rw [h1]; rfl
  refine ⟨0, 0, q0, e, pr, ?_, hp, ⟨rfl, by decide, by decide⟩, fun z => absurd z c, fun _ => ⟨rfl, rfl⟩⟩
  unfold lombardref09_Reader_Uint.f
  rw [if_pos (by simpa using c)]
theorem bd_int : Bd s p e (wire_Reader_Int.f ⟨s, (p : Int), e⟩) (lombardref09_Reader_Int.f ⟨s, (p : Int), e⟩) (fun x y => x = y) (fun _ _ => True) := by
 obtain ⟨x, y, q, e', h1, h2, h3, ⟨rfl, h4, h5⟩, h6, h7⟩ := bd_uint hs hp e
 refine ⟨unfold' x, unfold' x, q, e', int_of _ _ _ h1 h4 h5, ?_, h3, rfl, h6, h7⟩
 unfold lombardref09_Reader_Int.f unfold'
 rw [h2, Option.bind_some]
 simp only
 rw [Int.tmod_eq_emod_of_nonneg h4, Int.tdiv_eq_ediv_of_nonneg h4, u64_id (x / 2) (by omega) (by omega), i64_id (x / 2) (by omega) (by omega)]
 by_cases c : x % 2 = 1
 ·rw [if_pos (by simpa using c), if_pos c, i64_id _ (by omega) (by omega)]
 ·rw [if_neg (by simpa using c), if_neg c]
theorem bd_text (m : Nat) (hm : m ≤ 1000) : Bd s p e (wire_Reader_Text.f ⟨s, (p : Int), e⟩ (m : Int)) (lombardref09_Reader_Text.f ⟨s, (p : Int), e⟩ (m : Int)) (fun x y => x = y) (fun _ _ => True) := by
 obtain ⟨x, y, q, e', h1, h2, h3, ⟨rfl, h4, h5⟩, h6, h7⟩ := bd_uint hs hp e
 unfold wire_Reader_Text.f lombardref09_Reader_Text.f
 rw [h1, h2, Option.bind_some, Option.bind_some]
 simp only
 by_cases z : e' = 0
 ·obtain ⟨ez, _⟩ := h6 z
  subst z
  subst ez
  rw [if_neg (show ¬ ((0 : Int) != 0) = true by decide), if_neg (show ¬ ((0 : Int) != 0) = true by decide), fail0, fail0, dfail0, dfail0]
  by_cases c1 : (decide ((m : Int) < 0) || decide (x > IntKind.wrap .u64 (m : Int))) = true
  ·rw [if_pos c1, if_pos c1]
   exact ⟨[], [], p, 2, rfl, rfl, hp, rfl, (fun h => by cases h), fun h => absurd rfl h⟩
  ·rw [if_neg c1, if_neg c1]
   by_cases c2 : decide (x > IntKind.wrap .u64 (IntKind.wrap .i64 ((s.length : Int) - (q : Int)))) = true
   ·rw [if_pos c2, if_pos c2]
    exact ⟨[], [], p, 14, rfl, rfl, hp, rfl, (fun h => by cases h), fun h => absurd rfl h⟩
   ·rw [if_neg c2, if_neg c2]
    have w2 : IntKind.u64.wrap (IntKind.wrap .i64 ((s.length : Int) - (q : Int))) = ((s.length - q : Nat) : Int) := by
     rw [i64_id _ (by omega) (by omega), u64_id _ (by omega) (by omega)]; omega
    rw [w2, decide_eq_true_eq] at c2
    obtain ⟨n, rfl⟩ : ∃ n : Nat, x = n := ⟨x.toNat, by omega⟩
    have w3 : IntKind.i64.wrap ((q : Int) + IntKind.wrap .i64 (n : Int)) = ((q + n : Nat) : Int) := by
     rw [i64_id (n : Int) (by omega) (by omega), i64_id _ (by omega) (by omega)]; omega
    rw [w3, if_pos (by omega), if_pos (by omega)]
    exact ⟨_, _, q + n, 0, rfl, rfl, by omega, rfl, fun _ => ⟨rfl, trivial⟩, fun h => absurd rfl h⟩
 ·rw [if_pos (by simpa using z), if_pos (by simpa using z)]
  exact ⟨[], [], q, e', rfl, rfl, h3, rfl, fun h => absurd h z, h7⟩
theorem bd_text12 : Bd s p e (wire_Reader_Text.f ⟨s, (p : Int), e⟩ 12) (lombardref09_Reader_Text.f ⟨s, (p : Int), e⟩ 12) (fun x y => x = y) (fun _ _ => True) := bd_text hs hp e 12 (by decide)
theorem bd_text160 : Bd s p e (wire_Reader_Text.f ⟨s, (p : Int), e⟩ 160) (lombardref09_Reader_Text.f ⟨s, (p : Int), e⟩ 160) (fun x y => x = y) (fun _ _ => True) := bd_text hs hp e 160 (by decide)
theorem bd_count : Bd s p e (wire_Reader_Count.f ⟨s, (p : Int), e⟩ 64) (lombardref09_Reader_Count.f ⟨s, (p : Int), e⟩ 64) (fun x y => x = y ∧ 0 ≤ x ∧ x ≤ 64) (fun _ _ => True) := by
 obtain ⟨x, y, q, e', h1, h2, h3, ⟨rfl, h4, h5⟩, h6, h7⟩ := bd_uint hs hp e
 have w1 : IntKind.u64.wrap 64 = 64 := by decide
 unfold wire_Reader_Count.f lombardref09_Reader_Count.f
 rw [h1, h2, Option.bind_some, Option.bind_some]
 simp only
 rw [w1]
 by_cases z : e' = 0
 ·obtain ⟨ez, _⟩ := h6 z
  subst z
  subst ez
  rw [fail0, dfail0, if_neg (show ¬ ((0 : Int) != 0) = true by decide)]
  by_cases c1 : x > 64
  ·rw [if_pos (show ((0 : Int) == 0 && (decide ((64 : Int) < 0) || decide (x > 64))) = true by simp [c1]), Option.bind_some, if_pos (show (decide ((64 : Int) < 0) || decide (x > 64)) = true by simp [c1])]
   exact ⟨0, 0, p, 2, rfl, rfl, hp, ⟨rfl, by decide, by decide⟩, (fun h => by cases h), fun h => absurd rfl h⟩
  ·rw [if_neg (show ¬ ((0 : Int) == 0 && (decide ((64 : Int) < 0) || decide (x > 64))) = true by simp; omega), Option.bind_some, if_neg (show ¬ (decide ((64 : Int) < 0) || decide (x > 64)) = true by simp; omega)]
   simp only
   rw [if_neg (show ¬ ((0 : Int) != 0) = true by decide), i64_id x (by omega) (by omega)]
   exact ⟨x, x, q, 0, rfl, rfl, h3, ⟨rfl, h4, by omega⟩, fun _ => ⟨rfl, trivial⟩, fun h => absurd rfl h⟩
 ·rw [if_neg (by simp [z]), Option.bind_some, if_pos (show (e' != 0) = true by simpa using z)]
  simp only
  rw [if_pos (show (e' != 0) = true by simpa using z)]
  exact ⟨0, 0, q, e', rfl, rfl, h3, ⟨rfl, by decide, by decide⟩, fun h => absurd h z, h7⟩
theorem bd_bool : Bd s p e (wire_Reader_Bool.f ⟨s, (p : Int), e⟩) (lombardref09_Reader_Bool.f ⟨s, (p : Int), e⟩) (fun x y => x = y) (fun _ _ => True) := by
 unfold wire_Reader_Bool.f lombardref09_Reader_Bool.f
 simp only
 by_cases z : e = 0
 ·subst z
  rw [if_neg (show ¬ ((0 : Int) != 0) = true by decide), if_neg (show ¬ ((0 : Int) != 0) = true by decide), fail0, fail0, dfail0, dfail0]
  by_cases c : p < s.length
  ·have w1 : IntKind.i64.wrap ((p : Int) + 1) = ((p + 1 : Nat) : Int) := by rw [i64_id _ (by omega) (by omega)]; omega
   have w2 : IntKind.i64.wrap (((p + 1 : Nat) : Int) - 1) = (p : Int) := by rw [i64_id _ (by omega) (by omega)]; omega
   have n1 : ¬ decide ((p : Int) ≥ (s.length : Int)) = true := by simp; omega
   have g : (0 : Int) ≤ (p : Int) ∧ (p : Int) < (s.length : Int) := by omega
   rw [w1, w2, if_neg n1, if_neg n1]
   simp only [if_pos g]
   by_cases c1 : decide (byte s (p : Int) > 1) = true
   ·rw [if_pos c1, if_pos c1]
    exact ⟨false, false, p, 15, rfl, rfl, hp, rfl, (fun h => by cases h), fun h => absurd rfl h⟩
   ·rw [if_neg c1, if_neg c1]
    exact ⟨_, _, p + 1, 0, rfl, rfl, by omega, rfl, fun _ => ⟨rfl, trivial⟩, fun h => absurd rfl h⟩
  ·have n1 : decide ((p : Int) ≥ (s.length : Int)) = true := decide_eq_true (by omega)
   rw [if_pos n1, if_pos n1]
   exact ⟨false, false, p, 14, rfl, rfl, hp, rfl, (fun h => by cases h), fun h => absurd rfl h⟩
 ·rw [if_pos (by simpa using z), if_pos (by simpa using z)]
  exact ⟨false, false, p, e, rfl, rfl, hp, rfl, fun h => absurd h z, fun _ => ⟨rfl, rfl⟩⟩
end
end Go.Proofs.YtbmokbkgielmmaaGreat
