/- Shows what the program's reader reads: what was written, and nothing else. -/
import Derived.Test.YtbmokbkgielmmaaGreatPuEnc10
import Derived.Test.YtbmokbkgielmmaaGreatGx2
import Derived.Test.YtbmokbkgielmmaaGreatGx2
import Derived.Test.YtbmokbkgielmmaaGreatGx1
namespace Go.Proofs.YtbmokbkgielmmaaGreat
open Go Go.Pm Go.Pm.Arith
set_option linter.unusedVariables false
set_option linter.unusedSimpArgs false
def high : Nat → Int → List Int
 | 0, _ => []
 | i + 1, v => high i (v / 128) ++ [128 + v % 128]
theorem high_len : ∀ (i : Nat) (v : Int), (high i v).length = i
 | 0, _ => rfl
 | i + 1, v => by rw [high, List.length_append, high_len i]; rfl
theorem high_front : ∀ (i : Nat) (v : Int), high (i + 1) v = (128 + v / 128 ^ i % 128) :: high i v
 | 0, v => by show [128 + v % 128] = [128 + v / 1 % 128]; rw [Int.ediv_one]
 | i + 1, v => by
  have e : v / 128 / 128 ^ i = v / 128 ^ (i + 1) := by
   rw [Int.ediv_ediv_of_nonneg (by decide), Int.mul_comm, ← Int.pow_succ]
  show high (i + 1) (v / 128) ++ [128 + v % 128] = _
  rw [high_front i (v / 128), e]; rfl
theorem digits_high : ∀ (k : Nat) (x : Int), digits k x = high k (x / 128) ++ [x % 128]
 | 0, x => rfl
 | k + 1, x => by
  have e : x / 128 / 128 ^ k = x / 128 ^ (k + 1) := by
   rw [Int.ediv_ediv_of_nonneg (by decide), Int.mul_comm, ← Int.pow_succ]
  show (128 + x / 128 ^ (k + 1) % 128) :: digits k x = _
  rw [digits_high k x, high_front k (x / 128), e]; rfl
theorem pow_lt_of {i : Nat} {v : Int} (h : (128 : Int) ^ i ≤ v) (hv : v < 18446744073709551616) : i ≤ 9 := by
 by_cases c : i ≤ 9
 ·exact c
 ·have t : (128 : Nat) ^ 10 ≤ 128 ^ i := Nat.pow_le_pow_right (by decide) (by omega)
  have : (128 : Int) ^ 10 ≤ 128 ^ i := by exact_mod_cast t
  have e : (128 : Int) ^ 10 = 1180591620717411303424 := by decide
  omega
theorem and127 (y : Int) (h0 : 0 ≤ y) (h1 : y < 256) : bits .and .u8 y 127 = y % 128 := by
 have k := (or_128 y h0).2
 rwa [u8_wrap, Int.emod_eq_of_lt h0 (by omega)] at k
theorem join7 (v d : Int) (h0 : 0 ≤ v) (h1 : v < 144115188075855872) (d0 : 0 ≤ d) (d1 : d < 128) : bits .or .u64 (shlI .u64 v 7) (IntKind.wrap .u64 d) = v * 128 + d := by
 have e : shlI .u64 v 7 = v * 128 := by
  show IntKind.u64.wrap (v * 128) = _
  rw [u64_id _ (by omega) (by omega)]
 rw [e, u64_id d d0 (by omega)]
 exact or_low 7 (by decide) _ _ (by omega) (by omega) (by omega) d0 (by omega)
def Lies (s : Bs) (p : Nat) (d : List Int) : Prop := ∃ rest, s.drop p = toB d ++ rest
theorem Lies.left {s : Bs} {p : Nat} {a b : List Int} (h : Lies s p (a ++ b)) : Lies s p a := by
 obtain ⟨r, e⟩ := h
 exact ⟨toB b ++ r, by rw [e, toB_append, List.append_assoc]⟩
theorem Lies.right {s : Bs} {p : Nat} {a b : List Int} (h : Lies s p (a ++ b)) : Lies s (p + a.length) b := by
 obtain ⟨r, e⟩ := h
 refine ⟨r, ?_⟩
 rw [← List.drop_drop, e, toB_append, List.append_assoc, ← toB_len a, List.drop_left]
theorem Lies.head {s : Bs} {p : Nat} {a : Int} {b : List Int} (h : Lies s p (a :: b)) (h0 : 0 ≤ a) (h1 : a < 256) : p < s.length ∧ byte s (p : Int) = a := by
 obtain ⟨r, e⟩ := h
 have lt : p < s.length := by
  by_cases c : p < s.length
  ·exact c
  ·rw [List.drop_of_length_le (by omega)] at e
   have := congrArg List.length e
   simp [toB] at this
 refine ⟨lt, ?_⟩
 show (((s.getD p default).toNat : Nat) : Int) = a
 have e2 : s[p] = UInt8.ofNat a.toNat := by
  have := congrArg (·[0]?) e
  simp [toB, List.getElem?_drop] at this
  rw [List.getElem?_eq_getElem lt] at this
  exact Option.some.inj this
 rw [List.getD_eq_getElem?_getD, List.getElem?_eq_getElem lt]
 show (((s[p]).toNat : Nat) : Int) = a
 rw [e2, UInt8.toNat_ofNat']
 omega
theorem Lies.tail {s : Bs} {p : Nat} {a : Int} {b : List Int} (h : Lies s p (a :: b)) : Lies s (p + 1) b := Lies.right (a := [a]) h
theorem Lies.len {s : Bs} {p : Nat} {d : List Int} (h : Lies s p d) (hd : d ≠ []) : p + d.length ≤ s.length := by
 obtain ⟨r, e⟩ := h
 have := congrArg List.length e
 rw [List.length_drop, List.length_append, toB_len] at this
 have : 0 < d.length := List.length_pos_iff.mpr hd
 omega
structure Behind (t : Bs) (i : Nat) (v : Int) : Prop where
 len : i ≤ t.length
 nonneg : 0 ≤ v
 least : i ≠ 0 → (128 : Int) ^ (i - 1) ≤ v
 most : v < 128 ^ i
 fits : v < 18446744073709551616
 took : t.take i = toB (high i v)
theorem byte_is (s : Bs) (i : Nat) (h : i < s.length) : 0 ≤ byte s (i : Int) ∧ byte s (i : Int) < 256 ∧ s.take (i + 1) = s.take i ++ toB [byte s (i : Int)] := by
 have e : byte s (i : Int) = ((s[i].toNat : Nat) : Int) := by
  show (((s.getD i default).toNat : Nat) : Int) = _
  rw [List.getD_eq_getElem?_getD, List.getElem?_eq_getElem h]; rfl
 have lt := s[i].toNat_lt
 refine ⟨by omega, by omega, ?_⟩
 rw [e, List.take_add_one, List.getElem?_eq_getElem h]
 show _ = s.take i ++ [UInt8.ofNat ((s[i].toNat : Nat) : Int).toNat]
 rw [Int.toNat_natCast, UInt8.ofNat_toNat]; rfl
theorem byte_drop (s : Bs) (p i : Nat) : byte s ((p + i : Nat) : Int) = byte (s.drop p) (i : Int) := by
 show (((s.getD (p + i) default).toNat : Nat) : Int) = ((((s.drop p).getD i default).toNat : Nat) : Int)
 rw [List.getD_eq_getElem?_getD, List.getD_eq_getElem?_getD, List.getElem?_drop]
theorem read_loop (s : Bs) (hs : s.length < 1000000000) (p : Nat) (hp : p ≤ s.length) : ∀ (n i : Nat) (v : Int), (s.drop p).length = i + n → Behind (s.drop p) i v →
 ∃ o, loop (wire_Reader_Uint.r0 ⟨s, (p : Int), 0⟩) (v, (i : Int)) = some o ∧
  (match o with | .inr r => r = (s, (p : Int), 14) ∨ r = (s, (p : Int), 15) | .inl r => ∃ m : Nat, r.2 = ⟨s, ((p + (m + 1) : Nat) : Int), 0⟩ ∧ m + 1 ≤ (s.drop p).length ∧ 0 ≤ r.1 ∧ r.1 < 18446744073709551616 ∧ Needs r.1 m ∧ (s.drop p).take (m + 1) = toB (digits m r.1))
 | n, i, v, hn, hb => by
  have dl : (s.drop p).length = s.length - p := List.length_drop
  have w0 : IntKind.i64.wrap ((p : Int) + (i : Int)) = ((p + i : Nat) : Int) := by rw [i64_id _ (by omega) (by omega)]; omega
  have w1 : IntKind.i64.wrap ((i : Int) + 1) = ((i + 1 : Nat) : Int) := by rw [i64_id _ (by omega) (by omega)]; omega
  have w2 : IntKind.i64.wrap ((p : Int) + ((i + 1 : Nat) : Int)) = ((p + (i + 1) : Nat) : Int) := by rw [i64_id _ (by omega) (by omega)]; omega
  have F : ∀ k : Int, wire_Reader_Fail.f ⟨s, (p : Int), 0⟩ k = some ⟨s, (p : Int), k⟩ := fun k => by unfold wire_Reader_Fail.f; rw [if_pos (by rfl)]
  by_cases c : i ≥ (s.drop p).length
  ·refine ⟨.inr (s, (p : Int), 14), loop_end ?_, Or.inl rfl⟩
   unfold wire_Reader_Uint.r0 wire_Reader_Uint.b0
   simp only
   rw [if_pos (by rfl), w0, if_pos (decide_eq_true (by omega)), F]; rfl
  ·obtain ⟨q0, q1, q2⟩ := byte_is (s.drop p) i (by omega)
   obtain ⟨n, rfl⟩ : ∃ k, n = k + 1 := ⟨n - 1, by omega⟩
   have sh : shrI .u64 v 57 = v / 144115188075855872 := by
    show v.fdiv 144115188075855872 = _; exact Int.fdiv_eq_ediv_of_nonneg _ (by decide)
   have key : wire_Reader_Uint.r0 ⟨s, (p : Int), 0⟩ (v, (i : Int)) = if (((i : Int) == 0) && (byte (s.drop p) (i : Int) == 128)) = true ∨ v / 144115188075855872 ≠ 0 then some (.inr (.inr (s, (p : Int), 15)))
    else if byte (s.drop p) (i : Int) < 128 then some (.inr (.inl (bits .or .u64 (shlI .u64 v 7) (IntKind.wrap .u64 (byte (s.drop p) (i : Int) % 128)), ⟨s, ((p + (i + 1) : Nat) : Int), 0⟩)))
    else some (.inl (bits .or .u64 (shlI .u64 v 7) (IntKind.wrap .u64 (byte (s.drop p) (i : Int) % 128)), ((i + 1 : Nat) : Int))) := by
    unfold wire_Reader_Uint.r0 wire_Reader_Uint.b0
    simp only
    rw [if_pos (by rfl), w0, if_neg (by simp; omega), if_pos (by omega), F, Option.bind_some, byte_drop, sh, and127 _ q0 q1, w1, w2]
    by_cases k1 : (((i : Int) == 0) && (byte (s.drop p) (i : Int) == 128)) = true ∨ v / 144115188075855872 ≠ 0
    ·rw [if_pos k1, if_pos (by rcases k1 with k | k; · rw [k]; rfl
                               ·simp [k])]
    ·rw [if_neg k1, if_neg (by intro h; rw [Bool.or_eq_true] at h; exact k1 (h.imp id (fun h => by simpa using h)))]
     by_cases k2 : byte (s.drop p) (i : Int) < 128
     ·rw [if_pos k2, if_pos (decide_eq_true k2)]
     ·rw [if_neg k2, if_neg (by simpa using k2)]
   by_cases k1 : (((i : Int) == 0) && (byte (s.drop p) (i : Int) == 128)) = true ∨ v / 144115188075855872 ≠ 0
   ·rw [if_pos k1] at key
    exact ⟨_, loop_end key, Or.inr rfl⟩
   ·rw [if_neg k1] at key
    have v0 := hb.nonneg
    have v1 : v < 144115188075855872 := by
     by_cases z : v / 144115188075855872 = 0
     ·omega
     ·exact absurd (Or.inr z) k1
    have p0 : (0 : Int) < 128 ^ i := Int.pow_pos (by decide)
    have pe : (128 : Int) ^ (i + 1) = 128 ^ i * 128 := Int.pow_succ _ _
    have lo : i ≠ 0 → (128 : Int) ^ i ≤ v * 128 := fun h => by
     have := hb.least h
     obtain ⟨k, rfl⟩ : ∃ k, i = k + 1 := ⟨i - 1, by omega⟩
     rw [Nat.add_sub_cancel] at this
     rw [Int.pow_succ]; omega
    have hm := hb.most
    rw [join7 v _ v0 v1 (by omega) (by omega)] at key
    by_cases k2 : byte (s.drop p) (i : Int) < 128
    ·rw [if_pos k2] at key
     have e1 : (v * 128 + byte (s.drop p) (i : Int) % 128) / 128 = v := by omega
     have e2 : (v * 128 + byte (s.drop p) (i : Int) % 128) % 128 = byte (s.drop p) (i : Int) := by omega
     have nd : i = 0 ∨ (v * 128 + byte (s.drop p) (i : Int) % 128) / 128 ^ i ≠ 0 := by
      by_cases z : i = 0
      ·exact Or.inl z
      ·right
       have := lo z
       have t : 1 ≤ (v * 128 + byte (s.drop p) (i : Int) % 128) / 128 ^ i := (Int.le_ediv_iff_mul_le p0).2 (by omega)
       omega
     refine ⟨_, loop_end key, i, rfl, by omega, by simp only; omega, by simp only; omega, ⟨?_, ?_, nd⟩, ?_⟩
     ·by_cases z : i = 0
      ·omega
      ·exact pow_lt_of (v := v * 128 + byte (s.drop p) (i : Int) % 128) (by have := lo z; omega) (by omega)
     ·exact Int.ediv_eq_zero_of_lt (by simp only; omega) (by simp only; rw [pe]; omega)
     ·simp only
      rw [digits_high, e1, e2, toB_append, q2, hb.took]
    ·rw [if_neg k2] at key
     have e1 : (v * 128 + byte (s.drop p) (i : Int) % 128) / 128 = v := by omega
     have e2 : 128 + (v * 128 + byte (s.drop p) (i : Int) % 128) % 128 = byte (s.drop p) (i : Int) := by omega
     obtain ⟨o, h1, h2⟩ := read_loop s hs p hp n (i + 1) (v * 128 + byte (s.drop p) (i : Int) % 128) (by omega) ⟨by omega, by omega, fun _ => by
      rw [Nat.add_sub_cancel]
      by_cases z : i = 0
      ·subst z
       have n128 : byte (s.drop p) ((0 : Nat) : Int) ≠ 128 := fun h => k1 (Or.inl (by rw [h]; rfl))
       show (1 : Int) ≤ _
       omega
      ·have := lo z; omega, by rw [pe]; omega, by omega, by
      show _ = toB (high i ((v * 128 + byte (s.drop p) (i : Int) % 128) / 128) ++ [128 + (v * 128 + byte (s.drop p) (i : Int) % 128) % 128])
      rw [e1, e2, toB_append, q2, hb.took]⟩
     exact ⟨o, by rw [loop_next key, h1], h2⟩
theorem rd_uint (s : Bs) (hs : s.length < 1000000000) (p : Nat) (hp : p ≤ s.length) (e : Int) :
 ∃ (x : Int) (q : Nat) (e' : Int), wire_Reader_Uint.f ⟨s, (p : Int), e⟩ = some (x, ⟨s, (q : Int), e'⟩) ∧ q ≤ s.length ∧ 0 ≤ x ∧ x < 18446744073709551616 ∧
  (e' = 0 → e = 0 ∧ Lies s p (eU x) ∧ q = p + (eU x).length) ∧ (e' ≠ 0 → x = 0 ∧ q = p) := by
 by_cases c : e = 0
 ·subst c
  obtain ⟨o, h1, h2⟩ := read_loop s hs p hp (s.drop p).length 0 0 (by omega) ⟨by omega, by decide, fun h => absurd rfl h, by decide, by decide, rfl⟩
  have h1' : loop (wire_Reader_Uint.r0 ⟨s, (p : Int), 0⟩) (0, 0) = some o := h1
  unfold wire_Reader_Uint.f
  rw [h1', Option.bind_some]
  cases o with
  | inr r =>
   rcases h2 with rfl | rfl
   ·exact ⟨0, p, 14, rfl, hp, by decide, by decide, fun h => (by cases h), fun _ => ⟨rfl, rfl⟩⟩
   ·exact ⟨0, p, 15, rfl, hp, by decide, by decide, fun h => (by cases h), fun _ => ⟨rfl, rfl⟩⟩
  | inl r =>
   obtain ⟨x, y⟩ := r
   obtain ⟨m, e1, e2, e3, e4, e5, e6⟩ := h2
   simp only at e1 e3 e4 e5 e6
   subst e1
   have dl : (s.drop p).length = s.length - p := List.length_drop
   refine ⟨x, p + (m + 1), 0, rfl, by omega, e3, e4, fun _ => ⟨rfl, ?_, ?_⟩, fun h => absurd rfl h⟩
   ·rw [eU_is e5]
    refine ⟨(s.drop p).drop (m + 1), ?_⟩
    rw [← e6, List.take_append_drop]
   ·rw [eU_is e5, digits_len]
 ·refine ⟨0, p, e, ?_, hp, by decide, by decide, fun h => absurd h c, fun _ => ⟨rfl, rfl⟩⟩
  have h1 : loop (wire_Reader_Uint.r0 ⟨s, (p : Int), e⟩) (0, 0) = some (.inr (s, (p : Int), e)) := loop_end (by
   unfold wire_Reader_Uint.r0 wire_Reader_Uint.b0
   rw [if_neg (by simpa using c)])
  unfold wire_Reader_Uint.f
  rw [h1]; rfl
def unfold' (x : Int) : Int := if x % 2 = 1 then -1 - x / 2 else x / 2
theorem fold_unfold (x : Int) (h0 : 0 ≤ x) (h1 : x < 18446744073709551616) : fold (unfold' x) = x := by
 unfold fold unfold'
 split <;> split <;> omega
theorem and1 (u : Int) (h0 : 0 ≤ u) (h1 : u < 18446744073709551616) : bits .and .u64 u 1 = u % 2 := and_one u h0 h1
theorem shr1 (u : Int) : shrI .u64 u 1 = u / 2 := by
 show u.fdiv 2 = _; exact Int.fdiv_eq_ediv_of_nonneg _ (by decide)
theorem int_of (r : wire_Reader) (x : Int) (r' : wire_Reader) (h : wire_Reader_Uint.f r = some (x, r')) (h0 : 0 ≤ x) (h1 : x < 18446744073709551616) : wire_Reader_Int.f r = some (unfold' x, r') := by
 unfold wire_Reader_Int.f unfold'
 rw [h, Option.bind_some]
 simp only
 rw [and1 x h0 h1, shr1]
 have w : IntKind.i64.wrap (x / 2) = x / 2 := i64_id _ (by omega) (by omega)
 by_cases c : x % 2 = 1
 ·rw [if_pos (by rw [c]; rfl), if_pos c, w, xor_neg, i64_id _ (by omega) (by omega)]
 ·rw [if_neg (by simpa using c), if_neg c, w]
def Rd {α : Type} (s : Bs) (p : Nat) (e : Int) (r : Option (α × wire_Reader)) (V : α → Prop) (Φ : α → List Int → Prop) : Prop :=
 ∃ (v : α) (q : Nat) (e' : Int), r = some (v, ⟨s, (q : Int), e'⟩) ∧ q ≤ s.length ∧ V v ∧ (e' = 0 → e = 0 ∧ ∃ d, Φ v d ∧ Lies s p d ∧ q = p + d.length)
theorem Lies.app {s : Bs} {p : Nat} {a b : List Int} (h : Lies s p a) (h' : Lies s (p + a.length) b) : Lies s p (a ++ b) := by
 obtain ⟨r, e⟩ := h
 obtain ⟨r', e'⟩ := h'
 refine ⟨r', ?_⟩
 have : s.drop (p + a.length) = r := by rw [← List.drop_drop, e, ← toB_len a, List.drop_left]
 rw [this] at e'
 rw [e, e', toB_append, List.append_assoc]
theorem Rd.bind {α β : Type} {s : Bs} {p : Nat} {e : Int} {r : Option (α × wire_Reader)} {f : α × wire_Reader → Option (β × wire_Reader)} {V : α → Prop} {Φ : α → List Int → Prop} {W : β → Prop} {Ψ : α → β → List Int → Prop}
 (h : Rd s p e r V Φ) (k : ∀ (v : α) (q : Nat) (e' : Int), q ≤ s.length → V v → Rd s q e' (f (v, ⟨s, (q : Int), e'⟩)) W (Ψ v)) : Rd s p e (r.bind f) W (fun b d => ∃ v d1 d2, Φ v d1 ∧ Ψ v b d2 ∧ d = d1 ++ d2) := by
 obtain ⟨v, q, e', h1, h2, h3, h4⟩ := h
 obtain ⟨b, q2, e2, k1, k2, k3, k4⟩ := k v q e' h2 h3
 refine ⟨b, q2, e2, by rw [h1]; exact k1, k2, k3, fun z => ?_⟩
 obtain ⟨z1, d2, z2, z3, z4⟩ := k4 z
 obtain ⟨y1, d1, y2, y3, y4⟩ := h4 z1
 subst y4
 exact ⟨y1, d1 ++ d2, ⟨v, d1, d2, y2, z2, rfl⟩, y3.app z3, by rw [z4, List.length_append]; omega⟩
theorem Rd.done {α : Type} {s : Bs} {p : Nat} {e : Int} (v : α) (hp : p ≤ s.length) : Rd s p e (some (v, ⟨s, (p : Int), e⟩)) (fun b => b = v) (fun b d => b = v ∧ d = []) :=
 ⟨v, p, e, rfl, hp, rfl, fun z => ⟨z, [], ⟨rfl, rfl⟩, ⟨s.drop p, rfl⟩, rfl⟩⟩
theorem Rd.mono {α : Type} {s : Bs} {p : Nat} {e : Int} {r : Option (α × wire_Reader)} {V V' : α → Prop} {Φ Φ' : α → List Int → Prop} (h : Rd s p e r V Φ) (hV : ∀ v, V v → V' v) (hΦ : ∀ v d, V v → Φ v d → Φ' v d) : Rd s p e r V' Φ' := by
 obtain ⟨v, q, e', h1, h2, h3, h4⟩ := h
 exact ⟨v, q, e', h1, h2, hV v h3, fun z => by obtain ⟨a, d, b, c⟩ := h4 z; exact ⟨a, d, hΦ v d h3 b, c⟩⟩
theorem rd_int {s : Bs} (hs : s.length < 1000000000) {p : Nat} (hp : p ≤ s.length) (e : Int) : Rd s p e (wire_Reader_Int.f ⟨s, (p : Int), e⟩) (fun _ => True) (fun n d => d = eI n) := by
 obtain ⟨x, q, e', h1, h2, h3, h4, h5, h6⟩ := rd_uint s hs p hp e
 refine ⟨unfold' x, q, e', int_of _ _ _ h1 h3 h4, h2, trivial, fun z => ⟨(h5 z).1, eU x, ?_, (h5 z).2⟩⟩
 show eU x = eU (fold (unfold' x))
 rw [fold_unfold x h3 h4]
theorem fail0 (s : Bs) (p : Int) (k : Int) : wire_Reader_Fail.f ⟨s, p, 0⟩ k = some ⟨s, p, k⟩ := by
 unfold wire_Reader_Fail.f; rw [if_pos (by rfl)]
theorem rd_text {s : Bs} (hs : s.length < 1000000000) {p : Nat} (hp : p ≤ s.length) (e : Int) (m : Nat) (hm : m ≤ 1000) : Rd s p e (wire_Reader_Text.f ⟨s, (p : Int), e⟩ (m : Int)) (fun t => t.length ≤ m) (fun t d => d = eT t) := by
 obtain ⟨x, q, e', h1, h2, h3, h4, h5, h6⟩ := rd_uint s hs p hp e
 unfold wire_Reader_Text.f
 rw [h1, Option.bind_some]
 simp only
 by_cases z : e' = 0
 ·subst z
  rw [if_neg (by decide)]
  have w1 : IntKind.u64.wrap (m : Int) = (m : Int) := u64_id _ (by omega) (by omega)
  have w2 : IntKind.u64.wrap (IntKind.wrap .i64 ((s.length : Int) - (q : Int))) = ((s.length - q : Nat) : Int) := by
   rw [i64_id _ (by omega) (by omega), u64_id _ (by omega) (by omega)]; omega
  rw [w1, w2, fail0, fail0]
  by_cases c1 : x > (m : Int)
  ·rw [if_pos (by simp [c1])]
   exact ⟨[], p, 2, rfl, hp, Nat.zero_le _, fun h => by cases h⟩
  ·rw [if_neg (by simp; omega)]
   by_cases c2 : x > ((s.length - q : Nat) : Int)
   ·rw [if_pos (decide_eq_true c2)]
    exact ⟨[], p, 14, rfl, hp, Nat.zero_le _, fun h => by cases h⟩
   ·obtain ⟨n, rfl⟩ : ∃ n : Nat, x = n := ⟨x.toNat, by omega⟩
    have w3 : IntKind.i64.wrap ((q : Int) + IntKind.wrap .i64 (n : Int)) = ((q + n : Nat) : Int) := by
     rw [i64_id (n : Int) (by omega) (by omega), i64_id _ (by omega) (by omega)]; omega
    rw [if_neg (by simp; omega), w3, if_pos (by omega)]
    obtain ⟨a1, a2, a3⟩ := h5 rfl
    have tl : ((s.drop q).take n).length = n := by rw [List.length_take, List.length_drop]; omega
    refine ⟨(s.drop q).take n, q + n, 0, ?_, by omega, (show ((s.drop q).take n).length ≤ m by rw [tl]; omega), fun _ => ⟨a1, eU (n : Int) ++ bts ((s.drop q).take n), ?_, a2.app ⟨(s.drop q).drop n, ?_⟩, ?_⟩⟩
    ·rw [Int.toNat_natCast, Int.toNat_natCast, show q + n - q = n by omega]
    ·show _ = eU (((s.drop q).take n).length : Int) ++ _
     rw [tl]
    ·rw [← a3, toB_bts, List.take_append_drop]
    ·rw [List.length_append]; unfold bts; rw [List.length_map, tl, a3]; omega
 ·rw [if_pos (by simpa using z)]
  exact ⟨[], q, e', rfl, h2, Nat.zero_le _, fun h => absurd h z⟩
theorem rd_count {s : Bs} (hs : s.length < 1000000000) {p : Nat} (hp : p ≤ s.length) (e : Int) : Rd s p e (wire_Reader_Count.f ⟨s, (p : Int), e⟩ 64) (fun n => 0 ≤ n ∧ n ≤ 64) (fun n d => d = eU n) := by
 obtain ⟨x, q, e', h1, h2, h3, h4, h5, h6⟩ := rd_uint s hs p hp e
 have w1 : IntKind.u64.wrap 64 = 64 := by decide
 unfold wire_Reader_Count.f
 rw [h1, Option.bind_some]
 simp only
 rw [w1]
 by_cases z : e' = 0
 ·subst z
  rw [fail0]
  by_cases c1 : x > 64
  ·rw [if_pos (by simp [c1]), Option.bind_some]
   exact ⟨0, p, 2, rfl, hp, by decide, fun h => by cases h⟩
  ·rw [if_neg (by simp; omega), Option.bind_some]
   simp only
   rw [if_neg (by decide), i64_id x (by omega) (by omega)]
   exact ⟨x, q, 0, rfl, h2, by omega, fun _ => ⟨(h5 rfl).1, _, rfl, (h5 rfl).2⟩⟩
 ·rw [if_neg (by simp [z]), Option.bind_some]
  simp only
  rw [if_pos (by simpa using z)]
  exact ⟨0, q, e', rfl, h2, by decide, fun h => absurd h z⟩
theorem rd_bool {s : Bs} (hs : s.length < 1000000000) {p : Nat} (hp : p ≤ s.length) (e : Int) : Rd s p e (wire_Reader_Bool.f ⟨s, (p : Int), e⟩) (fun _ => True) (fun t d => d = eB t) := by
 unfold wire_Reader_Bool.f
 simp only
 by_cases z : e = 0
 ·subst z
  rw [if_neg (by decide), fail0, fail0]
  by_cases c : p < s.length
  ·obtain ⟨q0, q1, q2⟩ := byte_is (s.drop p) 0 (by rw [List.length_drop]; omega)
   rw [← byte_drop, Nat.add_zero] at q0 q1 q2
   have w1 : IntKind.i64.wrap ((p : Int) + 1) = ((p + 1 : Nat) : Int) := by rw [i64_id _ (by omega) (by omega)]; omega
   have w2 : IntKind.i64.wrap (((p + 1 : Nat) : Int) - 1) = (p : Int) := by rw [i64_id _ (by omega) (by omega)]; omega
   rw [if_neg (by simp; omega), if_pos (by omega), w1, w2]
   generalize byte s (p : Int) = b at q0 q1 q2
   by_cases c1 : b > 1
   ·rw [if_pos (decide_eq_true c1)]
    exact ⟨false, p, 15, rfl, hp, trivial, fun h => by cases h⟩
   ·rw [if_neg (by simpa using c1), if_pos (by omega)]
    have eb : eB (b == 1) = [b] := by
     have : b = 0 ∨ b = 1 := by omega
     rcases this with rfl | rfl <;> rfl
    refine ⟨b == 1, p + 1, 0, rfl, by omega, trivial, fun _ => ⟨rfl, [b], eb.symm, ⟨(s.drop p).drop 1, ?_⟩, rfl⟩⟩
    simp only [Nat.zero_add, List.take_zero, List.nil_append] at q2
    rw [← q2, List.take_append_drop]
  ·rw [if_pos (decide_eq_true (by omega))]
   exact ⟨false, p, 14, rfl, hp, trivial, fun h => by cases h⟩
 ·rw [if_pos (by simpa using z)]
  exact ⟨false, p, e, rfl, hp, trivial, fun h => absurd h z⟩
theorem each_rd {α : Type} (s : Bs) (g : Int × Bs × Int × Int × List α → Option ((Int × Bs × Int × Int × List α) ⊕ (Bs × Int × Int × List α))) (n : Nat) (V : α → Prop) (E : α → List Int)
 (hend : ∀ (at' e : Int) (acc : List α), g ((n : Int), s, at', e, acc) = some (.inr (s, at', e, acc)))
 (step : ∀ (i p : Nat) (e : Int) (acc : List α), i < n → p ≤ s.length → acc.length = i → ∃ (v : α) (q : Nat) (e' : Int), g ((i : Int), s, (p : Int), e, acc) = some (.inl (((i + 1 : Nat) : Int), s, (q : Int), e', acc ++ [v])) ∧ q ≤ s.length ∧ V v ∧
  (e' = 0 → e = 0 ∧ Lies s p (E v) ∧ q = p + (E v).length)) :
 ∀ (j i p : Nat) (e : Int) (acc : List α), n = i + j → p ≤ s.length → acc.length = i → ∃ (l : List α) (q : Nat) (e' : Int), loop g ((i : Int), s, (p : Int), e, acc) = some (s, (q : Int), e', acc ++ l) ∧ l.length = j ∧ q ≤ s.length ∧ (∀ y ∈ l, V y) ∧
  (e' = 0 → e = 0 ∧ Lies s p (l.flatMap E) ∧ q = p + (l.flatMap E).length)
 | 0, i, p, e, acc, h, hp, ha => by
  obtain rfl : n = i := by omega
  exact ⟨[], p, e, by rw [List.append_nil]; exact loop_end (hend _ _ _), rfl, hp, (fun y hy => by cases hy), fun z => ⟨z, ⟨s.drop p, rfl⟩, rfl⟩⟩
 | j + 1, i, p, e, acc, h, hp, ha => by
  obtain ⟨v, q, e1, k1, k2, k3, k4⟩ := step i p e acc (by omega) hp ha
  obtain ⟨l, q2, e2, l1, l2, l3, l4, l5⟩ := each_rd s g n V E hend step j (i + 1) q e1 (acc ++ [v]) (by omega) k2 (by simp [ha])
  refine ⟨v :: l, q2, e2, by rw [loop_next k1, l1, List.append_assoc]; rfl, by simp [l2], l3, fun y hy => ?_, fun z => ?_⟩
  ·rcases List.mem_cons.1 hy with rfl | hy
   ·exact k3
   ·exact l4 y hy
  ·obtain ⟨z1, z2, z3⟩ := l5 z
   obtain ⟨y1, y2, y3⟩ := k4 z1
   subst y3
   exact ⟨y1, by rw [List.flatMap_cons]; exact y2.app z2, by rw [List.flatMap_cons, List.length_append]; omega⟩
theorem rd_ints {s : Bs} (hs : s.length < 1000000000) {p : Nat} (hp : p ≤ s.length) (e : Int) : Rd s p e (wire_Reader_Ints.f ⟨s, (p : Int), e⟩ 64) (fun l => l.length ≤ 64) (fun l d => d = eU (l.length : Int) ++ l.flatMap eI) := by
 obtain ⟨n, q, e1, h1, h2, h3, h4⟩ := rd_count hs hp e
 unfold wire_Reader_Ints.f
 rw [h1, Option.bind_some]
 simp only
 obtain ⟨k, rfl⟩ : ∃ k : Nat, n = k := ⟨n.toNat, by omega⟩
 have hk : k ≤ 64 := by omega
 obtain ⟨l, q2, e2, l1, l2, l3, l4, l5⟩ := each_rd s (wire_Reader_Ints.r0 ((k : Int), (⟨s, (q : Int), e1⟩ : wire_Reader))) k (fun _ => True) eI (fun a b c => by
  unfold wire_Reader_Ints.r0 wire_Reader_Ints.b0
  rw [if_neg (by simp)]) (fun i p e acc hi hp ha => by
  obtain ⟨v, q', e', g1, g2, _, g4⟩ := rd_int hs hp e
  refine ⟨v, q', e', ?_, g2, trivial, fun z => ?_⟩
  ·unfold wire_Reader_Ints.r0 wire_Reader_Ints.b0
   simp only
   rw [if_pos (decide_eq_true (by omega)), g1, Option.bind_some]
   simp only
   rw [if_pos (by simp; omega), i64_nx i (by omega)]
  ·obtain ⟨z1, d, rfl, z2⟩ := g4 z
   exact ⟨z1, z2⟩) k 0 q e1 [] (by omega) h2 rfl
 have l1' : loop (wire_Reader_Ints.r0 ((k : Int), (⟨s, (q : Int), e1⟩ : wire_Reader))) (0, s, (q : Int), e1, []) = _ := l1
 rw [l1', Option.bind_some]
 simp only [List.nil_append]
 by_cases z : e2 = 0
 ·subst z
  rw [if_neg (by decide)]
  refine ⟨l, q2, 0, rfl, l3, by omega, fun _ => ?_⟩
  obtain ⟨z1, z2, z3⟩ := l5 rfl
  obtain ⟨y1, d, rfl, y2, y3⟩ := h4 z1
  subst y3
  rw [← l2] at y2 z2 z3
  exact ⟨y1, _, rfl, y2.app z2, by rw [List.length_append]; omega⟩
 ·rw [if_pos (by simpa using z)]
  exact ⟨[], q2, e2, rfl, l3, by simp, fun h => absurd h z⟩
end Go.Proofs.YtbmokbkgielmmaaGreat
