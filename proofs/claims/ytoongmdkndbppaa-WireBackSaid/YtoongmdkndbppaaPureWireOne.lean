/- The plain statement of WireOne: a number that the reader takes is written as the bytes that it was read from. -/
import Derived.Test.YtoongmdkndbppaaPureWireWrites
import Derived.Test.YtoongmdkndbppaaGx2
namespace Go.Proofs.Ytoongmdkndbppaa
open Go Go.Pm Go.Pm.Arith
set_option linter.unusedVariables false
set_option linter.unusedSimpArgs false

/-- Digits to the base 128, all with the high bit. -/
def high : Nat → Int → List Int
  | 0, _ => []
  | i + 1, v => high i (v / 128) ++ [128 + v % 128]

theorem high_len : ∀ (i : Nat) (v : Int), (high i v).length = i
  | 0, _ => rfl
  | i + 1, v => by rw [high, List.length_append, high_len i]; rfl

theorem high_front : ∀ (i : Nat) (v : Int), high (i + 1) v = (128 + v / 128 ^ i % 128) :: high i v
  | 0, v => by show [128 + v % 128] = [128 + v / 1 % 128]; rw [Int.ediv_one]
  | i + 1, v => by
    have e : v / 128 / 128 ^ i = v / 128 ^ (i + 1) := by
      rw [Int.ediv_ediv_of_nonneg (by decide), Int.mul_comm, ← Int.pow_succ]
    show high (i + 1) (v / 128) ++ [128 + v % 128] = _
    rw [high_front i (v / 128), e]; rfl

theorem digits_high : ∀ (k : Nat) (x : Int), digits k x = high k (x / 128) ++ [x % 128]
  | 0, x => rfl
  | k + 1, x => by
    have e : x / 128 / 128 ^ k = x / 128 ^ (k + 1) := by
      rw [Int.ediv_ediv_of_nonneg (by decide), Int.mul_comm, ← Int.pow_succ]
    show (128 + x / 128 ^ (k + 1) % 128) :: digits k x = _
    rw [digits_high k x, high_front k (x / 128), e]; rfl

theorem pow_lt_of {i : Nat} {v : Int} (h : (128 : Int) ^ i ≤ v) (hv : v < 18446744073709551616) : i ≤ 9 := by
  by_cases c : i ≤ 9
  · exact c
  · have t : (128 : Nat) ^ 10 ≤ 128 ^ i := Nat.pow_le_pow_right (by decide) (by omega)
    have : (128 : Int) ^ 10 ≤ 128 ^ i := by exact_mod_cast t
    have e : (128 : Int) ^ 10 = 1180591620717411303424 := by decide
    omega


/-- What the reader has read when i bytes of a number are behind it. -/
structure Behind (s : Bs) (i : Nat) (v : Int) : Prop where
  len : i ≤ s.length
  nonneg : 0 ≤ v
  least : i ≠ 0 → (128 : Int) ^ (i - 1) ≤ v
  most : v < 128 ^ i
  fits : v < 18446744073709551616
  took : s.take i = toB (high i v)

theorem and127 (y : Int) (h0 : 0 ≤ y) (h1 : y < 256) : bits .and .u8 y 127 = y % 128 := by
  have k := (or_128 y h0).2
  rwa [u8_wrap, Int.emod_eq_of_lt h0 (by omega)] at k

theorem join7 (v d : Int) (h0 : 0 ≤ v) (h1 : v < 144115188075855872) (d0 : 0 ≤ d) (d1 : d < 128) : bits .or .u64 (shlI .u64 v 7) (IntKind.wrap .u64 d) = v * 128 + d := by
  have e : shlI .u64 v 7 = v * 128 := by
    show IntKind.u64.wrap (v * 128) = _
    rw [u64_id _ (by omega) (by omega)]
  rw [e, u64_id d d0 (by omega)]
  exact or_low 7 (by decide) _ _ (by omega) (by omega) (by omega) d0 (by omega)


theorem byte_is (s : Bs) (i : Nat) (h : i < s.length) : 0 ≤ byte s (i : Int) ∧ byte s (i : Int) < 256 ∧ s.take (i + 1) = s.take i ++ toB [byte s (i : Int)] := by
  have e : byte s (i : Int) = ((s[i].toNat : Nat) : Int) := by
    show (((s.getD i default).toNat : Nat) : Int) = _
    rw [List.getD_eq_getElem?_getD, List.getElem?_eq_getElem h]; rfl
  have lt := s[i].toNat_lt
  refine ⟨by omega, by omega, ?_⟩
  rw [e, List.take_add_one, List.getElem?_eq_getElem h]
  show _ = s.take i ++ [UInt8.ofNat ((s[i].toNat : Nat) : Int).toNat]
  rw [Int.toNat_natCast, UInt8.ofNat_toNat]; rfl

theorem read_loop (s : Bs) (hs : s.length < 1000000000000000) : ∀ (n i : Nat) (v : Int), s.length = i + n → Behind s i v →
    ∃ o, loop (wire_Reader_Uint.r0 ⟨s, 0, 0⟩) (v, (i : Int)) = some o ∧
      (match o with | .inr r => r = (s, 0, 14) ∨ r = (s, 0, 15) | .inl r => ∃ m : Nat, r.2 = ⟨s, ((m + 1 : Nat) : Int), 0⟩ ∧ m + 1 ≤ s.length ∧ 0 ≤ r.1 ∧ r.1 < 18446744073709551616 ∧ Needs r.1 m ∧ s.take (m + 1) = toB (digits m r.1))
  | n, i, v, hn, hb => by
    have w0 : IntKind.i64.wrap (0 + (i : Int)) = (i : Int) := by rw [i64_id _ (by omega) (by omega)]; omega
    have w1 : IntKind.i64.wrap ((i : Int) + 1) = ((i + 1 : Nat) : Int) := by rw [i64_id _ (by omega) (by omega)]; omega
    have w2 : IntKind.i64.wrap (0 + ((i + 1 : Nat) : Int)) = ((i + 1 : Nat) : Int) := by rw [i64_id _ (by omega) (by omega)]; omega
    have F : ∀ k : Int, wire_Reader_Fail.f ⟨s, 0, 0⟩ k = some ⟨s, 0, k⟩ := fun k => by unfold wire_Reader_Fail.f; rw [if_pos (by rfl)]
    by_cases c : i ≥ s.length
    · refine ⟨.inr (s, 0, 14), loop_end ?_, Or.inl rfl⟩
      unfold wire_Reader_Uint.r0 wire_Reader_Uint.b0
      simp only
      rw [if_pos (by rfl), w0, if_pos (decide_eq_true (by omega)), F]; rfl
    · obtain ⟨q0, q1, q2⟩ := byte_is s i (by omega)
      obtain ⟨n, rfl⟩ : ∃ k, n = k + 1 := ⟨n - 1, by omega⟩
      have sh : shrI .u64 v 57 = v / 144115188075855872 := by
        show v.fdiv 144115188075855872 = _; exact Int.fdiv_eq_ediv_of_nonneg _ (by decide)
      have key : wire_Reader_Uint.r0 ⟨s, 0, 0⟩ (v, (i : Int)) = if (((i : Int) == 0) && (byte s (i : Int) == 128)) = true ∨ v / 144115188075855872 ≠ 0 then some (.inr (.inr (s, 0, 15)))
          else if byte s (i : Int) < 128 then some (.inr (.inl (bits .or .u64 (shlI .u64 v 7) (IntKind.wrap .u64 (byte s (i : Int) % 128)), ⟨s, ((i + 1 : Nat) : Int), 0⟩)))
          else some (.inl (bits .or .u64 (shlI .u64 v 7) (IntKind.wrap .u64 (byte s (i : Int) % 128)), ((i + 1 : Nat) : Int))) := by
        unfold wire_Reader_Uint.r0 wire_Reader_Uint.b0
        simp only
        rw [if_pos (by rfl), w0, if_neg (by simp; omega), if_pos (by omega), F, Option.bind_some, sh, and127 _ q0 q1, w1, w2]
        by_cases k1 : (((i : Int) == 0) && (byte s (i : Int) == 128)) = true ∨ v / 144115188075855872 ≠ 0
        · rw [if_pos k1, if_pos (by rcases k1 with k | k; · rw [k]; rfl
                                    · simp [k])]
        · rw [if_neg k1, if_neg (by intro h; rw [Bool.or_eq_true] at h; exact k1 (h.imp id (fun h => by simpa using h)))]
          by_cases k2 : byte s (i : Int) < 128
          · rw [if_pos k2, if_pos (decide_eq_true k2)]
          · rw [if_neg k2, if_neg (by simpa using k2)]
      by_cases k1 : (((i : Int) == 0) && (byte s (i : Int) == 128)) = true ∨ v / 144115188075855872 ≠ 0
      · rw [if_pos k1] at key
        exact ⟨_, loop_end key, Or.inr rfl⟩
      · rw [if_neg k1] at key
        have v0 := hb.nonneg
        have v1 : v < 144115188075855872 := by
          by_cases z : v / 144115188075855872 = 0
          · omega
          · exact absurd (Or.inr z) k1
        have p0 : (0 : Int) < 128 ^ i := Int.pow_pos (by decide)
        have pe : (128 : Int) ^ (i + 1) = 128 ^ i * 128 := Int.pow_succ _ _
        have lo : i ≠ 0 → (128 : Int) ^ i ≤ v * 128 := fun h => by
          have := hb.least h
          obtain ⟨k, rfl⟩ : ∃ k, i = k + 1 := ⟨i - 1, by omega⟩
          rw [Nat.add_sub_cancel] at this
          rw [Int.pow_succ]; omega
        have hm := hb.most
        rw [join7 v _ v0 v1 (by omega) (by omega)] at key
        by_cases k2 : byte s (i : Int) < 128
        · rw [if_pos k2] at key
          have e1 : (v * 128 + byte s (i : Int) % 128) / 128 = v := by omega
          have e2 : (v * 128 + byte s (i : Int) % 128) % 128 = byte s (i : Int) := by omega
          have nd : i = 0 ∨ (v * 128 + byte s (i : Int) % 128) / 128 ^ i ≠ 0 := by
            by_cases z : i = 0
            · exact Or.inl z
            · right
              have := lo z
              have t : 1 ≤ (v * 128 + byte s (i : Int) % 128) / 128 ^ i := (Int.le_ediv_iff_mul_le p0).2 (by omega)
              omega
          refine ⟨_, loop_end key, i, rfl, by omega, by simp only; omega, by simp only; omega, ⟨?_, ?_, nd⟩, ?_⟩
          · by_cases z : i = 0
            · omega
            · exact pow_lt_of (v := v * 128 + byte s (i : Int) % 128) (by have := lo z; omega) (by omega)
          · exact Int.ediv_eq_zero_of_lt (by simp only; omega) (by simp only; rw [pe]; omega)
          · simp only
            rw [digits_high, e1, e2, toB_append, q2, hb.took]
        · rw [if_neg k2] at key
          have e1 : (v * 128 + byte s (i : Int) % 128) / 128 = v := by omega
          have e2 : 128 + (v * 128 + byte s (i : Int) % 128) % 128 = byte s (i : Int) := by omega
          obtain ⟨o, h1, h2⟩ := read_loop s hs n (i + 1) (v * 128 + byte s (i : Int) % 128) (by omega) ⟨by omega, by omega, fun _ => by
              rw [Nat.add_sub_cancel]
              by_cases z : i = 0
              · subst z
                have n128 : byte s ((0 : Nat) : Int) ≠ 128 := fun h => k1 (Or.inl (by rw [h]; rfl))
                show (1 : Int) ≤ _
                omega
              · have := lo z; omega, by rw [pe]; omega, by omega, by
              show _ = toB (high i ((v * 128 + byte s (i : Int) % 128) / 128) ++ [128 + (v * 128 + byte s (i : Int) % 128) % 128])
              rw [e1, e2, toB_append, q2, hb.took]⟩
          exact ⟨o, by rw [loop_next key, h1], h2⟩

theorem Pure.WireOne : ∀ (x0 : Bs), (x0.length ≤ reach) → lombardlaw09_WireOne.f x0 = some true := by
  intro s hs
  unfold reach at hs
  obtain ⟨o, h1, h2⟩ := read_loop s (by omega) s.length 0 0 (by omega) ⟨by omega, by decide, fun h => absurd rfl h, by decide, by decide, rfl⟩
  have h1' : loop (wire_Reader_Uint.r0 ⟨s, 0, 0⟩) (0, 0) = some o := h1
  unfold lombardlaw09_WireOne.f wire_NewReader.f wire_Reader_Uint.f wire_Reader_Err.f wire_Reader_At.f
  rw [Option.bind_some, h1', awake_is]
  cases o with
  | inr r =>
    rcases h2 with rfl | rfl <;> rfl
  | inl r =>
    obtain ⟨x, y⟩ := r
    obtain ⟨m, e1, e2, e3, e4, e5, e6⟩ := h2
    simp only at e1 e3 e4 e5 e6
    subst e1
    simp only [Option.bind_some]
    rw [uint_exact e3 e4 [] (by decide) e5]
    unfold wire_Writer_Bytes.f
    have le : decide (((m + 1 : Nat) : Int) ≤ (s.length : Int)) = true := decide_eq_true (by omega)
    rw [if_neg (by decide)]
    simp only [Option.bind_some, le, if_true, Bool.true_and]
    rw [if_pos (fun _ => by omega)]
    have e7 : (List.take (Int.toNat ((m + 1 : Nat) : Int) - Int.toNat 0) (List.drop (Int.toNat 0) s)) = toB ([] ++ digits m x) := by
      rw [Int.toNat_natCast, List.nil_append, ← e6]; rfl
    rw [e7]
    simp

end Go.Proofs.Ytoongmdkndbppaa

