/- Shows what the document's digit numbers tell: their sums, differences, products, quotients, rests, and how they compare; and the document's divided product, for every argument and every way to round. -/
import Derived.Test.YtlgfdldonoaahaaPuFix
namespace Go.Pm.Big
set_option linter.unusedVariables false

def V : List Int → Int
  | [] => 0
  | d :: l => d + 65536 * V l

def Dig (l : List Int) : Prop := ∀ d ∈ l, 0 ≤ d ∧ d < 65536

def P (n : Nat) : Int := 65536 ^ n

theorem P_zero : P 0 = 1 := rfl
theorem P_succ (n : Nat) : P (n + 1) = 65536 * P n := by unfold P; rw [Int.pow_succ, Int.mul_comm]
theorem P_pos (n : Nat) : 0 < P n := Int.pow_pos (by decide)
theorem P_add (m n : Nat) : P (m + n) = P m * P n := by unfold P; exact Int.pow_add _ _ _
theorem P_mono {m n : Nat} (h : m ≤ n) : P m ≤ P n := by
  induction n with
  | zero => obtain rfl : m = 0 := by omega
            exact Int.le_refl _
  | succ n ih =>
    by_cases e : m = n + 1
    · subst e; exact Int.le_refl _
    · have := ih (by omega); have := P_pos n; rw [P_succ]; omega

theorem Dig.nil : Dig [] := fun _ h => by simp at h
theorem Dig.tail {d : Int} {l : List Int} (h : Dig (d :: l)) : Dig l := fun x hx => h x (List.mem_cons_of_mem _ hx)
theorem Dig.head {d : Int} {l : List Int} (h : Dig (d :: l)) : 0 ≤ d ∧ d < 65536 := h d List.mem_cons_self
theorem Dig.cons {d : Int} {l : List Int} (h0 : 0 ≤ d) (h1 : d < 65536) (h : Dig l) : Dig (d :: l) := by
  intro x hx
  rcases List.mem_cons.mp hx with e | e
  · subst e; exact ⟨h0, h1⟩
  · exact h x e
theorem Dig.append {a b : List Int} (ha : Dig a) (hb : Dig b) : Dig (a ++ b) := by
  intro x hx
  rcases List.mem_append.mp hx with e | e
  · exact ha x e
  · exact hb x e
theorem Dig.one {d : Int} (h0 : 0 ≤ d) (h1 : d < 65536) : Dig [d] := Dig.cons h0 h1 Dig.nil
theorem Dig.take {l : List Int} (h : Dig l) (n : Nat) : Dig (l.take n) := fun x hx => h x (List.mem_of_mem_take hx)
theorem Dig.getD {l : List Int} (h : Dig l) (i : Nat) : 0 ≤ l.getD i 0 ∧ l.getD i 0 < 65536 := by
  by_cases hi : i < l.length
  · rw [List.getD_eq_getElem?_getD, List.getElem?_eq_getElem hi]
    exact h _ (List.getElem_mem hi)
  · rw [List.getD_eq_getElem?_getD, List.getElem?_eq_none (by omega)]
    exact ⟨by decide, by decide⟩
theorem Dig.set {l : List Int} (h : Dig l) (i : Nat) {x : Int} (h0 : 0 ≤ x) (h1 : x < 65536) : Dig (l.set i x) := by
  intro y hy
  rcases List.mem_or_eq_of_mem_set hy with e | e
  · exact h y e
  · subst e; exact ⟨h0, h1⟩
theorem Dig.zeros (n : Nat) : Dig (List.replicate n 0) := fun x hx => by
  have := List.eq_of_mem_replicate hx
  subst this; exact ⟨by decide, by decide⟩

theorem V_nonneg : ∀ {l : List Int}, Dig l → 0 ≤ V l
  | [], _ => Int.le_refl _
  | d :: l, h => by
    have h1 := h.head
    have h2 := V_nonneg h.tail
    show 0 ≤ d + 65536 * V l
    omega

theorem V_lt : ∀ {l : List Int}, Dig l → V l < P l.length
  | [], _ => by decide
  | d :: l, h => by
    have h1 := h.head
    have h2 := V_lt h.tail
    show d + 65536 * V l < P (l.length + 1)
    rw [P_succ]; omega

theorem V_append : ∀ (a b : List Int), V (a ++ b) = V a + P a.length * V b
  | [], b => by show V b = 0 + P 0 * V b; rw [P_zero]; omega
  | d :: a, b => by
    show d + 65536 * V (a ++ b) = d + 65536 * V a + P (a.length + 1) * V b
    rw [V_append a b, P_succ, Int.mul_add, Int.mul_assoc]; omega

theorem V_one (d : Int) : V [d] = d := by show d + 65536 * 0 = d; omega

theorem V_zeros : ∀ n : Nat, V (List.replicate n 0) = 0
  | 0 => rfl
  | n + 1 => by
    rw [List.replicate_succ]
    show 0 + 65536 * V (List.replicate n 0) = 0
    rw [V_zeros n]; decide

theorem V_set : ∀ (l : List Int) (i : Nat) (x : Int), i < l.length → V (l.set i x) = V l + (x - l.getD i 0) * P i
  | d :: l, 0, x, _ => by
    show x + 65536 * V l = d + 65536 * V l + (x - (d :: l).getD 0 0) * P 0
    rw [P_zero]
    show x + 65536 * V l = d + 65536 * V l + (x - d) * 1
    omega
  | d :: l, i + 1, x, h => by
    have ih := V_set l i x (by simpa using h)
    show d + 65536 * V (l.set i x) = d + 65536 * V l + (x - (d :: l).getD (i + 1) 0) * P (i + 1)
    rw [ih, P_succ]
    show d + 65536 * (V l + (x - l.getD i 0) * P i) = d + 65536 * V l + (x - l.getD i 0) * (65536 * P i)
    have : (x - l.getD i 0) * (65536 * P i) = 65536 * ((x - l.getD i 0) * P i) := by
      rw [← Int.mul_assoc, Int.mul_comm _ 65536, Int.mul_assoc]
    rw [this, Int.mul_add]; omega

/-- Digit i, and what lies above it. -/
theorem V_drop : ∀ (l : List Int) (i : Nat), i < l.length → V (l.drop i) = l.getD i 0 + 65536 * V (l.drop (i + 1))
  | d :: l, 0, _ => rfl
  | d :: l, i + 1, h => by
    have := V_drop l i (by simpa using h)
    simpa using this

theorem V_take_drop (l : List Int) (i : Nat) (h : i ≤ l.length) : V l = V (l.take i) + P i * V (l.drop i) := by
  have e := V_append (l.take i) (l.drop i)
  rw [List.take_append_drop, List.length_take, Nat.min_eq_left h] at e
  exact e

theorem V_drop_len (l : List Int) : V (l.drop l.length) = 0 := by rw [List.drop_length]; rfl

structure Norm (l : List Int) : Prop where
  dig : Dig l
  last : l.length ≠ 0 → l.getD (l.length - 1) 0 ≠ 0

theorem Norm.nil : Norm [] := ⟨Dig.nil, fun h => absurd rfl h⟩

structure Is (l : List Int) (n : Int) : Prop where
  norm : Norm l
  val : V l = n

theorem Is.nil : Is [] 0 := ⟨Norm.nil, rfl⟩
theorem Is.nonneg {l : List Int} {n : Int} (h : Is l n) : 0 ≤ n := h.val ▸ V_nonneg h.norm.dig
theorem Is.lt {l : List Int} {n : Int} (h : Is l n) : n < P l.length := h.val ▸ V_lt h.norm.dig
theorem Is.ge {l : List Int} {n : Int} (h : Is l n) (hl : l.length ≠ 0) : P (l.length - 1) ≤ n := by
  have e := V_take_drop l (l.length - 1) (by omega)
  have d := V_drop l (l.length - 1) (by omega)
  have hz : l.length - 1 + 1 = l.length := by omega
  rw [hz, V_drop_len] at d
  have h1 := h.norm.dig.getD (l.length - 1)
  have h2 := h.norm.last hl
  have h3 := V_nonneg (h.norm.dig.take (l.length - 1))
  have h4 := P_pos (l.length - 1)
  rw [d, h.val] at e
  have h5 : P (l.length - 1) * 1 ≤ P (l.length - 1) * (l.getD (l.length - 1) 0 + 65536 * 0) := Int.mul_le_mul_of_nonneg_left (by omega) (by omega)
  omega

theorem Is.shorter {a b : List Int} {m n : Int} (ha : Is a m) (hb : Is b n) (h : a.length < b.length) : m < n := by
  have h1 := ha.lt
  have h2 := hb.ge (by omega)
  have h3 := P_mono (m := a.length) (n := b.length - 1) (by omega)
  omega

theorem Is.len_le {l : List Int} {n : Int} {L : Nat} (h : Is l n) (hn : n < P L) : l.length ≤ L := by
  by_cases hl : l.length ≤ L
  · exact hl
  · have h2 := h.ge (by omega)
    have h3 := P_mono (m := L) (n := l.length - 1) (by omega)
    omega

theorem Is.uniq : ∀ {a b : List Int} {n : Int}, Dig a → Dig b → a.length = b.length → V a = V b → a = b
  | [], [], _, _, _, _, _ => rfl
  | [], _ :: _, _, _, _, h, _ => by simp at h
  | _ :: _, [], _, _, _, h, _ => by simp at h
  | d :: a, e :: b, n, ha, hb, hl, hv => by
    have hv' : d + 65536 * V a = e + 65536 * V b := hv
    have h1 := ha.head
    have h2 := hb.head
    have : d = e := by omega
    subst this
    rw [Is.uniq (n := n) ha.tail hb.tail (by simpa using hl) (by omega)]

theorem Is.eq {a b : List Int} {n : Int} (ha : Is a n) (hb : Is b n) : a = b := by
  have hl : a.length = b.length := by
    rcases Nat.lt_trichotomy a.length b.length with h | h | h
    · have := ha.shorter hb h; omega
    · exact h
    · have := hb.shorter ha h; omega
  exact Is.uniq (n := n) ha.norm.dig hb.norm.dig hl (ha.val.trans hb.val.symm)

theorem Is.zero {l : List Int} (h : Is l 0) : l = [] := h.eq Is.nil

theorem take_getD (l : List Int) (n i : Nat) (h : i < n) : (l.take n).getD i 0 = l.getD i 0 := by
  rw [List.getD_eq_getElem?_getD, List.getD_eq_getElem?_getD, List.getElem?_take, if_pos h]

/-- What lies above a place, if all of it is 0. -/
theorem V_cut (l : List Int) (n : Nat) (hn : n ≤ l.length) (h : V (l.drop n) = 0) : V (l.take n) = V l := by
  have := V_take_drop l n hn
  rw [h] at this; omega

theorem Is.cut {l : List Int} (hd : Dig l) (n : Nat) (hn : n ≤ l.length) (h : V (l.drop n) = 0) (hz : n ≠ 0 → l.getD (n - 1) 0 ≠ 0) : Is (l.take n) (V l) := by
  have hlen : (l.take n).length = n := by rw [List.length_take, Nat.min_eq_left hn]
  refine ⟨⟨hd.take n, fun h1 => ?_⟩, V_cut l n hn h⟩
  rw [hlen] at h1 ⊢
  rw [take_getD l n (n - 1) (by omega)]
  exact hz h1

end Go.Pm.Big
namespace Go.Pm.Big

theorem getD_none (l : List Int) (i : Nat) (h : l.length ≤ i) : l.getD i 0 = 0 := by
  rw [List.getD_eq_getElem?_getD, List.getElem?_eq_none h]; rfl

theorem V_take_succ (l : List Int) (i : Nat) : V (l.take (i + 1)) = V (l.take i) + P i * l.getD i 0 := by
  by_cases h : i < l.length
  · have e : l.take (i + 1) = l.take i ++ [l.getD i 0] := by
      rw [List.take_add_one, List.getD_eq_getElem?_getD, List.getElem?_eq_getElem h]; rfl
    rw [e, V_append, V_one, List.length_take, Nat.min_eq_left (by omega)]
  · rw [getD_none l i (by omega), List.take_of_length_le (by omega), List.take_of_length_le (by omega)]; omega

theorem Is.cons {r : List Int} {m d : Int} (h : Is r m) (h0 : 0 ≤ d) (h1 : d < 65536) (hz : m = 0 → d ≠ 0) : Is (d :: r) (d + 65536 * m) := by
  refine ⟨⟨Dig.cons h0 h1 h.norm.dig, fun _ => ?_⟩, by rw [← h.val]; rfl⟩
  by_cases hr : r = []
  · subst hr
    exact hz (h.val ▸ rfl)
  · have hl : r.length ≠ 0 := fun e => hr (List.length_eq_zero_iff.mp e)
    have := h.norm.last hl
    have e : (d :: r).length - 1 = (r.length - 1) + 1 := by simp; omega
    rw [e]
    simpa using this

/-- Two rows with the same digits above a place, and a lesser digit there. -/
theorem V_below {a b : List Int} (ha : Dig a) (hb : Dig b) (i : Nat) (hia : i < a.length) (hib : i < b.length) (hd : V (a.drop (i + 1)) = V (b.drop (i + 1))) (hlt : a.getD i 0 < b.getD i 0) : V a < V b := by
  have e1 := V_take_drop a i (by omega)
  have e2 := V_take_drop b i (by omega)
  rw [V_drop a i hia] at e1
  rw [V_drop b i hib, ← hd] at e2
  have h1 := V_lt (ha.take i)
  rw [List.length_take, Nat.min_eq_left (by omega)] at h1
  have h2 := V_nonneg (hb.take i)
  have h3 := P_pos i
  have h4 : P i * (a.getD i 0 + 65536 * V (a.drop (i + 1))) + P i * 1 ≤ P i * (b.getD i 0 + 65536 * V (a.drop (i + 1))) := by
    rw [← Int.mul_add]
    exact Int.mul_le_mul_of_nonneg_left (by omega) (by omega)
  omega

end Go.Pm.Big

namespace Go.Proofs.Ytlgfdldonoaahaa
open Go Go.Pm Go.Pm.Arith Go.Pm.Big
set_option linter.unusedVariables false
set_option linter.unusedSimpArgs false

theorem nth_nat (l : List Int) (n : Nat) : nth l (n : Int) = l.getD n 0 := rfl

theorem in_nat {n m : Nat} (h : n < m) : (0 : Int) ≤ (n : Int) ∧ (n : Int) < (m : Int) := by omega

theorem trim_loop (l : List Int) (hd : Dig l) (hl : l.length < 1000000) : ∀ n : Nat, n ≤ l.length → V (l.drop n) = 0 →
    ∃ m : Nat, m ≤ l.length ∧ Is (l.take m) (V l) ∧ loop (lombardref01_trim.r0 l) (n : Int) = some (m : Int)
  | 0, hn, hv => by
    refine ⟨0, hn, Is.cut hd 0 hn hv (fun h => absurd rfl h), loop_end ?_⟩
    unfold lombardref01_trim.r0 lombardref01_trim.b0
    rw [if_pos (fun h => by simp at h), if_neg (by simp)]
  | n + 1, hn, hv => by
    have e1 : IntKind.i64.wrap (((n + 1 : Nat) : Int) - 1) = (n : Int) := by rw [i64_id _ (by omega) (by omega)]; omega
    have gt : ((n + 1 : Nat) : Int) > 0 := by omega
    have dr := V_drop l n (by omega)
    have key : lombardref01_trim.r0 l ((n + 1 : Nat) : Int) = if l.getD n 0 = 0 then some (.inl (n : Int)) else some (.inr ((n + 1 : Nat) : Int)) := by
      unfold lombardref01_trim.r0 lombardref01_trim.b0
      rw [e1, if_pos (fun _ => in_nat (by omega)), nth_nat]
      simp only [Bool.and_eq_true, beq_iff_eq, decide_eq_true_eq, gt, true_and]
    by_cases hz : l.getD n 0 = 0
    · obtain ⟨m, h1, h2, h3⟩ := trim_loop l hd hl n (by omega) (by rw [dr, hv, hz]; rfl)
      rw [if_pos hz] at key
      exact ⟨m, h1, h2, by rw [loop_next key, h3]⟩
    · rw [if_neg hz] at key
      exact ⟨n + 1, hn, Is.cut hd (n + 1) hn hv (fun _ => hz), loop_end key⟩

theorem trim_is (l : List Int) (hd : Dig l) (hl : l.length < 1000000) : ∃ r, Is r (V l) ∧ r.length ≤ l.length ∧ lombardref01_trim.f l = some r := by
  obtain ⟨m, h1, h2, h3⟩ := trim_loop l hd hl l.length (Nat.le_refl _) (V_drop_len l)
  refine ⟨l.take m, h2, by rw [List.length_take]; omega, ?_⟩
  unfold lombardref01_trim.f
  rw [h3, Option.bind_some, if_pos (by omega)]
  simp

theorem of_loop : ∀ (j : Nat) (n : Int) (acc : List Int), 0 ≤ n → n < 18446744073709551616 → n < P j → acc.length + j ≤ 1000 →
    ∃ r, Is r n ∧ r.length ≤ j ∧ loop lombardref01_Of.r0 (n, acc) = some (acc ++ r)
  | j, n, acc, h0, h1, h2, h3 => by
    by_cases hn : n > 0
    · obtain ⟨j, rfl⟩ : ∃ i, j = i + 1 := ⟨j - 1, by cases j with | zero => rw [P_zero] at h2; omega | succ i => rfl⟩
      rw [P_succ] at h2
      have e1 : Int.tdiv n 65536 = n / 65536 := Int.tdiv_eq_ediv_of_nonneg h0
      have e2 : Int.tmod n 65536 = n % 65536 := Int.tmod_eq_emod_of_nonneg h0
      have e3 : IntKind.u64.wrap (n / 65536) = n / 65536 := u64_id _ (by omega) (by omega)
      obtain ⟨r, hr, hl, hE⟩ := of_loop j (n / 65536) (acc ++ [n % 65536]) (by omega) (by omega) (by omega) (by simp; omega)
      have key : lombardref01_Of.r0 (n, acc) = some (.inl (n / 65536, acc ++ [n % 65536])) := by
        unfold lombardref01_Of.r0 lombardref01_Of.b0
        rw [if_pos (decide_eq_true hn), if_pos (by simp; omega), e1, e2, e3]
      refine ⟨n % 65536 :: r, ?_, by simp; omega, by rw [loop_next key, hE]; simp⟩
      have := hr.cons (d := n % 65536) (by omega) (by omega) (fun e => by omega)
      rwa [show n % 65536 + 65536 * (n / 65536) = n by omega] at this
    · obtain rfl : n = 0 := by omega
      refine ⟨[], Is.nil, by simp, ?_⟩
      rw [loop_end (b := acc) (by unfold lombardref01_Of.r0 lombardref01_Of.b0; rw [if_neg (by simp)])]
      simp

theorem of_is (n : Int) (h0 : 0 ≤ n) (h1 : n < 18446744073709551616) : ∃ r, Is r n ∧ r.length ≤ 4 ∧ lombardref01_Of.f n = some r := by
  obtain ⟨r, hr, hl, hE⟩ := of_loop 4 n [] h0 h1 (by unfold P; omega) (by decide)
  rw [List.nil_append] at hE
  exact ⟨r, hr, hl, by unfold lombardref01_Of.f; rw [hE]; rfl⟩

theorem big_size_is (n : Int) (h₀ : -9223372036854775808 ≤ n) (h₁ : n < 9223372036854775808) : ∃ r, Is r (n.natAbs : Int) ∧ r.length ≤ 4 ∧ lombardref01_size.f n = some r := by
  obtain ⟨r, hr, hl, hE⟩ := of_is (n.natAbs : Int) (by omega) (by omega)
  refine ⟨r, hr, hl, ?_⟩
  unfold lombardref01_size.f
  by_cases h1 : n = -9223372036854775808
  · subst h1
    rw [if_pos (by decide)]
    have : lombardref01_Of.f 9223372036854775808 = some r := hE
    rw [this]; rfl
  · rw [if_neg (by simpa using h1)]
    by_cases h2 : n < 0
    · have e1 : IntKind.i64.wrap (0 - n) = -n := by rw [i64_id _ (by omega) (by omega)]; omega
      have e2 : IntKind.u64.wrap (-n) = (n.natAbs : Int) := by rw [u64_id _ (by omega) (by omega)]; omega
      rw [if_pos (decide_eq_true h2), e1, e2, hE]; rfl
    · have e2 : IntKind.u64.wrap n = (n.natAbs : Int) := by rw [u64_id _ (by omega) (by omega)]; omega
      rw [if_neg (by simpa using h2), e2, hE]; rfl

theorem compare_loop (a b : List Int) (ha : Dig a) (hb : Dig b) (hl : a.length = b.length) (la : a.length < 1000000) : ∀ i : Nat, i ≤ a.length → V (a.drop i) = V (b.drop i) →
    ∃ c, (loop (lombardref01_Compare.r0 a b) ((i : Int) - 1) = some c) ∧ (match c with | .inl x => (x = -1 ∧ V a < V b) ∨ (x = 1 ∧ V b < V a) | .inr _ => V a = V b)
  | 0, hi, hv => by
    refine ⟨.inr (), loop_end ?_, hv⟩
    unfold lombardref01_Compare.r0 lombardref01_Compare.b0
    rw [if_neg (by decide)]
  | i + 1, hi, hv => by
    have c1 : ((i + 1 : Nat) : Int) - 1 = (i : Int) := by omega
    have ga : (0 : Int) ≤ (i : Int) ∧ (i : Int) < (a.length : Int) := in_nat (by omega)
    have gb : (0 : Int) ≤ (i : Int) ∧ (i : Int) < (b.length : Int) := in_nat (by omega)
    have w : IntKind.i64.wrap ((i : Int) - 1) = (i : Int) - 1 := i64_id _ (by omega) (by omega)
    have ge : (i : Int) ≥ 0 := by omega
    have key : lombardref01_Compare.r0 a b (((i + 1 : Nat) : Int) - 1) = if a.getD i 0 < b.getD i 0 then some (.inr (.inl (-1))) else if a.getD i 0 > b.getD i 0 then some (.inr (.inl 1)) else some (.inl ((i : Int) - 1)) := by
      unfold lombardref01_Compare.r0 lombardref01_Compare.b0
      rw [c1]
      simp only [decide_eq_true_eq]
      rw [if_pos ge, if_pos ga, if_pos gb, if_pos ga, if_pos gb, nth_nat, nth_nat, w]
    by_cases h1 : a.getD i 0 < b.getD i 0
    · rw [if_pos h1] at key
      exact ⟨_, loop_end key, Or.inl ⟨rfl, V_below ha hb i (by omega) (by omega) hv h1⟩⟩
    · rw [if_neg h1] at key
      by_cases h2 : a.getD i 0 > b.getD i 0
      · rw [if_pos h2] at key
        exact ⟨_, loop_end key, Or.inr ⟨rfl, V_below hb ha i (by omega) (by omega) hv.symm h2⟩⟩
      · rw [if_neg h2] at key
        obtain ⟨c, h3, h4⟩ := compare_loop a b ha hb hl la i (by omega) (by rw [V_drop a i (by omega), V_drop b i (by omega), hv]; omega)
        exact ⟨c, by rw [loop_next key, h3], h4⟩

theorem compare_is {a b : List Int} {m n : Int} (ha : Is a m) (hb : Is b n) (la : a.length < 1000000) (lb : b.length < 1000000) :
    ∃ c : Int, (c < 0 ↔ m < n) ∧ (c = 0 ↔ m = n) ∧ lombardref01_Compare.f a b = some c := by
  unfold lombardref01_Compare.f
  simp only [bne_iff_ne, ne_eq]
  by_cases hl : (a.length : Int) = b.length
  · obtain ⟨c, h1, h2⟩ := compare_loop a b ha.norm.dig hb.norm.dig (by omega) la a.length (Nat.le_refl _) (by rw [V_drop_len, show a.length = b.length by omega, V_drop_len])
    rw [if_neg (by omega), i64_id _ (by omega) (by omega), h1, Option.bind_some]
    rw [ha.val, hb.val] at h2
    cases c with
    | inl x => exact ⟨x, by simp only at h2; omega, by simp only at h2; omega, rfl⟩
    | inr x => exact ⟨0, by simp only at h2; omega, by simp only at h2; omega, rfl⟩
  · refine ⟨(a.length : Int) - b.length, ?_, ?_, ?_⟩
    · constructor
      · intro h; exact ha.shorter hb (by omega)
      · intro h
        by_cases h2 : a.length < b.length
        · omega
        · have := hb.shorter ha (by omega); omega
    · constructor
      · intro h; omega
      · intro h
        have := ha.eq (h ▸ hb)
        subst this; omega
    · rw [if_pos hl, i64_id _ (by omega) (by omega)]

theorem md_small (x : Int) (h0 : 0 ≤ x) (h1 : x < 10000000000) : Int.tmod x 65536 = x % 65536 ∧ IntKind.u64.wrap (Int.tdiv x 65536) = x / 65536 ∧ IntKind.u64.wrap x = x := by
  refine ⟨Int.tmod_eq_emod_of_nonneg h0, ?_, ?_⟩
  · rw [Int.tdiv_eq_ediv_of_nonneg h0, u64_wrap]; omega
  · rw [u64_wrap]; omega

theorem next64 (i : Nat) (h : i < 1000000000000000) : IntKind.i64.wrap ((i : Int) + 1) = ((i + 1 : Nat) : Int) := by rw [i64_id _ (by omega) (by omega)]; omega

theorem add_step (a b out : List Int) (c : Int) (i : Nat) (ha : Dig a) (hb : Dig b) (hc0 : 0 ≤ c) (hc1 : c ≤ 1) (hi : i < 1000000) (ho : out.length < 1000000) (act : i < a.length ∨ i < b.length ∨ 0 < c) :
    lombardref01_Add.r0 a b (c, (i : Int), out) = some (.inl ((c + a.getD i 0 + b.getD i 0) / 65536, ((i + 1 : Nat) : Int), out ++ [(c + a.getD i 0 + b.getD i 0) % 65536])) := by
  have ga := ha.getD i
  have gb := hb.getD i
  have e3 := next64 i (by omega)
  have A : (if (i : Int) < (a.length : Int) then if (0 : Int) ≤ (i : Int) ∧ (i : Int) < (a.length : Int) then some (IntKind.wrap .u64 (c + nth a (i : Int))) else none else some c) = some (c + a.getD i 0) := by
    by_cases h1 : (i : Int) < (a.length : Int)
    · rw [if_pos h1, if_pos (in_nat (by omega)), nth_nat, (md_small _ (by omega) (by omega)).2.2]
    · rw [if_neg h1, getD_none a i (by omega), Int.add_zero]
  have B : (if (i : Int) < (b.length : Int) then if (0 : Int) ≤ (i : Int) ∧ (i : Int) < (b.length : Int) then some (IntKind.wrap .u64 (c + a.getD i 0 + nth b (i : Int))) else none else some (c + a.getD i 0)) = some (c + a.getD i 0 + b.getD i 0) := by
    by_cases h1 : (i : Int) < (b.length : Int)
    · rw [if_pos h1, if_pos (in_nat (by omega)), nth_nat, (md_small _ (by omega) (by omega)).2.2]
    · rw [if_neg h1, getD_none b i (by omega), Int.add_zero]
  obtain ⟨m1, m2, m3⟩ := md_small (c + a.getD i 0 + b.getD i 0) (by omega) (by omega)
  unfold lombardref01_Add.r0 lombardref01_Add.b0
  simp only [Bool.or_eq_true, decide_eq_true_eq]
  rw [if_pos (by omega), A, Option.bind_some, B, Option.bind_some, if_pos (by simp; omega), m1, m2, e3]

theorem add_loop (a b : List Int) (ha : Dig a) (hb : Dig b) (M : Nat) (hM : M < 900000) (la : a.length ≤ M) (lb : b.length ≤ M) : ∀ (j i : Nat) (out : List Int) (c : Int), M + 1 = i + j → out.length = i → Dig out → 0 ≤ c → c ≤ 1 →
    V out + c * P i = V (a.take i) + V (b.take i) → ∃ r, Dig r ∧ V r = V a + V b ∧ r.length ≤ M + 1 ∧ loop (lombardref01_Add.r0 a b) (c, (i : Int), out) = some r
  | j, i, out, c, hj, ho, hd, hc0, hc1, hv => by
    by_cases act : i < a.length ∨ i < b.length ∨ 0 < c
    · obtain ⟨j, rfl⟩ : ∃ n, j = n + 1 := by
        cases j with
        | succ n => exact ⟨n, rfl⟩
        | zero =>
          exfalso
          have hcp : 0 < c := by omega
          rw [List.take_of_length_le (by omega), List.take_of_length_le (by omega)] at hv
          have h1 := V_lt ha
          have h2 := V_lt hb
          have h3 := P_mono la
          have h4 := P_mono lb
          have h5 := V_nonneg hd
          have h6 : P i = 65536 * P M := by rw [show i = M + 1 by omega, P_succ]
          have h7 : 1 * P i ≤ c * P i := Int.mul_le_mul_of_nonneg_right (by omega) (by have := P_pos i; omega)
          have h8 := P_pos M
          omega
      have ga := ha.getD i
      have gb := hb.getD i
      have e : (c + a.getD i 0 + b.getD i 0) / 65536 * P (i + 1) + P i * ((c + a.getD i 0 + b.getD i 0) % 65536) = P i * (c + a.getD i 0 + b.getD i 0) := by
        rw [P_succ, ← Int.mul_assoc, Int.mul_comm _ (P i), ← Int.mul_add]
        have : (c + a.getD i 0 + b.getD i 0) / 65536 * 65536 + (c + a.getD i 0 + b.getD i 0) % 65536 = c + a.getD i 0 + b.getD i 0 := by omega
        rw [this]
      obtain ⟨r, hr, hr2, hl, hE⟩ := add_loop a b ha hb M hM la lb j (i + 1) (out ++ [(c + a.getD i 0 + b.getD i 0) % 65536]) ((c + a.getD i 0 + b.getD i 0) / 65536) (by omega) (by simp; omega)
        (hd.append (Dig.one (by omega) (by omega))) (by omega) (by omega)
        (by rw [V_append, V_one, V_take_succ, V_take_succ, ho]
            have e2 : P i * (c + a.getD i 0 + b.getD i 0) = c * P i + P i * a.getD i 0 + P i * b.getD i 0 := by rw [Int.mul_add, Int.mul_add, Int.mul_comm (P i) c]
            omega)
      exact ⟨r, hr, hr2, hl, by rw [loop_next (add_step a b out c i ha hb hc0 hc1 (by omega) (by omega) act), hE]⟩
    · obtain rfl : c = 0 := by omega
      rw [List.take_of_length_le (by omega), List.take_of_length_le (by omega), Int.zero_mul, Int.add_zero] at hv
      refine ⟨out, hd, hv, by omega, loop_end ?_⟩
      unfold lombardref01_Add.r0 lombardref01_Add.b0
      simp only [Bool.or_eq_true, decide_eq_true_eq]
      rw [if_neg (by omega)]

theorem add_is {a b : List Int} {m n : Int} (ha : Is a m) (hb : Is b n) (M : Nat) (hM : M < 900000) (la : a.length ≤ M) (lb : b.length ≤ M) :
    ∃ r, Is r (m + n) ∧ r.length ≤ M + 1 ∧ lombardref01_Add.f a b = some r := by
  obtain ⟨r, hr, hr2, hl, hE⟩ := add_loop a b ha.norm.dig hb.norm.dig M hM la lb (M + 1) 0 [] 0 (by omega) rfl Dig.nil (by decide) (by decide) rfl
  obtain ⟨t, ht, tl, hT⟩ := trim_is r hr (by omega)
  rw [hr2, ha.val, hb.val] at ht
  refine ⟨t, ht, by omega, ?_⟩
  have hE' : loop (lombardref01_Add.r0 a b) (0, 0, []) = some r := hE
  unfold lombardref01_Add.f
  rw [hE', Option.bind_some, hT]; rfl

theorem sub_step (a b out : List Int) (c : Int) (i : Nat) (ha : Dig a) (hb : Dig b) (hc0 : 0 ≤ c) (hc1 : c ≤ 1) (hi : i < 1000000) (ho : out.length < 1000000) (hia : i < a.length) :
    lombardref01_Sub.r0 a b (c, (i : Int), out) = some (.inl (1 - (a.getD i 0 + 65536 - c - b.getD i 0) / 65536, ((i + 1 : Nat) : Int), out ++ [(a.getD i 0 + 65536 - c - b.getD i 0) % 65536])) := by
  have ga := ha.getD i
  have gb := hb.getD i
  have e3 := next64 i (by omega)
  have w1 := (md_small (a.getD i 0 + 65536) (by omega) (by omega)).2.2
  have w2 := (md_small (a.getD i 0 + 65536 - c) (by omega) (by omega)).2.2
  obtain ⟨m1, m2, m3⟩ := md_small (a.getD i 0 + 65536 - c - b.getD i 0) (by omega) (by omega)
  have w4 : IntKind.u64.wrap (1 - (a.getD i 0 + 65536 - c - b.getD i 0) / 65536) = 1 - (a.getD i 0 + 65536 - c - b.getD i 0) / 65536 := u64_id _ (by omega) (by omega)
  have B : (if (i : Int) < (b.length : Int) then if (0 : Int) ≤ (i : Int) ∧ (i : Int) < (b.length : Int) then some (IntKind.wrap .u64 (a.getD i 0 + 65536 - c - nth b (i : Int))) else none else some (a.getD i 0 + 65536 - c)) = some (a.getD i 0 + 65536 - c - b.getD i 0) := by
    by_cases h1 : (i : Int) < (b.length : Int)
    · rw [if_pos h1, if_pos (in_nat (by omega)), nth_nat, m3]
    · rw [if_neg h1, getD_none b i (by omega), Int.sub_zero]
  unfold lombardref01_Sub.r0 lombardref01_Sub.b0
  simp only [decide_eq_true_eq]
  rw [if_pos (by omega), if_pos (in_nat hia), nth_nat, w1, w2, B, Option.bind_some, if_pos (by simp; omega), m1, m2, w4, e3]

theorem sub_loop (a b : List Int) (ha : Dig a) (hb : Dig b) (la : a.length < 900000) (hle : V b ≤ V a) (hlen : b.length ≤ a.length) : ∀ (j i : Nat) (out : List Int) (c : Int), a.length = i + j → out.length = i → Dig out → 0 ≤ c → c ≤ 1 →
    V out - c * P i = V (a.take i) - V (b.take i) → ∃ r, Dig r ∧ V r = V a - V b ∧ r.length ≤ a.length ∧ loop (lombardref01_Sub.r0 a b) (c, (i : Int), out) = some r
  | 0, i, out, c, hj, ho, hd, hc0, hc1, hv => by
    rw [List.take_of_length_le (by omega), List.take_of_length_le (by omega)] at hv
    have h1 := V_lt hd
    rw [ho] at h1
    obtain rfl : c = 0 := by
      by_cases h : c = 1
      · subst h; omega
      · omega
    rw [Int.zero_mul, Int.sub_zero] at hv
    refine ⟨out, hd, hv, by omega, loop_end ?_⟩
    unfold lombardref01_Sub.r0 lombardref01_Sub.b0
    simp only [decide_eq_true_eq]
    rw [if_neg (by omega)]
  | j + 1, i, out, c, hj, ho, hd, hc0, hc1, hv => by
    have ga := ha.getD i
    have gb := hb.getD i
    have e : P i * ((a.getD i 0 + 65536 - c - b.getD i 0) % 65536) - (1 - (a.getD i 0 + 65536 - c - b.getD i 0) / 65536) * P (i + 1) = P i * (a.getD i 0 - c - b.getD i 0) := by
      rw [P_succ, ← Int.mul_assoc, Int.mul_comm _ (P i), ← Int.mul_sub]
      have : (a.getD i 0 + 65536 - c - b.getD i 0) % 65536 - (1 - (a.getD i 0 + 65536 - c - b.getD i 0) / 65536) * 65536 = a.getD i 0 - c - b.getD i 0 := by omega
      rw [this]
    have e2 : P i * (a.getD i 0 - c - b.getD i 0) = P i * a.getD i 0 - c * P i - P i * b.getD i 0 := by rw [Int.mul_sub, Int.mul_sub, Int.mul_comm (P i) c]
    obtain ⟨r, hr, hr2, hl, hE⟩ := sub_loop a b ha hb la hle hlen j (i + 1) (out ++ [(a.getD i 0 + 65536 - c - b.getD i 0) % 65536]) (1 - (a.getD i 0 + 65536 - c - b.getD i 0) / 65536) (by omega) (by simp; omega)
      (hd.append (Dig.one (by omega) (by omega))) (by omega) (by omega)
      (by rw [V_append, V_one, V_take_succ, V_take_succ, ho]; omega)
    exact ⟨r, hr, hr2, hl, by rw [loop_next (sub_step a b out c i ha hb hc0 hc1 (by omega) (by omega) (by omega)), hE]⟩

theorem sub_is {a b : List Int} {m n : Int} (ha : Is a m) (hb : Is b n) (la : a.length < 900000) (hle : n ≤ m) :
    ∃ r, Is r (m - n) ∧ r.length ≤ a.length ∧ lombardref01_Sub.f a b = some r := by
  have hlen : b.length ≤ a.length := by
    by_cases h : b.length ≤ a.length
    · exact h
    · have := ha.shorter hb (by omega); omega
  obtain ⟨r, hr, hr2, hl, hE⟩ := sub_loop a b ha.norm.dig hb.norm.dig la (by rw [ha.val, hb.val]; exact hle) hlen a.length 0 [] 0 (by omega) rfl Dig.nil (by decide) (by decide) rfl
  obtain ⟨t, ht, tl, hT⟩ := trim_is r hr (by omega)
  rw [hr2, ha.val, hb.val] at ht
  refine ⟨t, ht, by omega, ?_⟩
  have hE' : loop (lombardref01_Sub.r0 a b) (0, 0, []) = some r := hE
  unfold lombardref01_Sub.f
  rw [hE', Option.bind_some, hT]; rfl

theorem prod_small {x y : Int} (hx : 0 ≤ x ∧ x < 65536) (hy : 0 ≤ y ∧ y < 65536) : 0 ≤ x * y ∧ x * y ≤ 4294836225 := by
  refine ⟨Int.mul_nonneg hx.1 hy.1, ?_⟩
  have := Int.mul_le_mul (a := x) (b := y) (c := 65535) (d := 65535) (by omega) (by omega) hy.1 (by decide)
  simpa using this

theorem mul_step (a b out : List Int) (c : Int) (i k : Nat) (ai bk o : Int) (hai : a.getD i 0 = ai) (hbk : b.getD k 0 = bk) (hob : out.getD (i + k) 0 = o) (ga : 0 ≤ ai ∧ ai < 65536) (gb : 0 ≤ bk ∧ bk < 65536) (go : 0 ≤ o ∧ o < 65536)
    (hc0 : 0 ≤ c) (hc1 : c ≤ 65535) (hi : i < a.length) (la : a.length < 1000000) (hk : i + k < out.length) (hk2 : k < 1000000)
    (act : k < b.length ∨ 0 < c) :
    lombardref01_Mul.r1 a b (i : Int) (c, (k : Int), out) = some (.inl ((o + c + ai * bk) / 65536, ((k + 1 : Nat) : Int), out.set (i + k) ((o + c + ai * bk) % 65536))) := by
  obtain ⟨p0, p1⟩ := prod_small ga gb
  have b1 : 0 ≤ o + c ∧ o + c < 10000000000 := by omega
  have b2 : ai * bk < 10000000000 := by omega
  have b3 : 0 ≤ o + c + ai * bk ∧ o + c + ai * bk < 10000000000 := by omega
  have e1 : IntKind.i64.wrap ((i : Int) + (k : Int)) = ((i + k : Nat) : Int) := by rw [i64_id _ (by omega) (by omega)]; omega
  have e3 := next64 k (by omega)
  have g : (0 : Int) ≤ ((i + k : Nat) : Int) ∧ ((i + k : Nat) : Int) < (out.length : Int) := in_nat hk
  obtain ⟨m1, m2, m3⟩ := md_small (o + c + ai * bk) b3.1 b3.2
  have B : (if (k : Int) < (b.length : Int) then if (0 : Int) ≤ (i : Int) ∧ (i : Int) < (a.length : Int) then if (0 : Int) ≤ (k : Int) ∧ (k : Int) < (b.length : Int) then some (IntKind.wrap .u64 (o + c + IntKind.wrap .u64 (nth a (i : Int) * nth b (k : Int)))) else none else none else some (o + c)) = some (o + c + ai * bk) := by
    by_cases h1 : (k : Int) < (b.length : Int)
    · rw [if_pos h1, if_pos (in_nat hi), if_pos (in_nat (by omega)), nth_nat, nth_nat, hai, hbk, (md_small _ p0 b2).2.2, m3]
    · have z : bk = 0 := by rw [← hbk]; exact getD_none b k (by omega)
      rw [if_neg h1, z, Int.mul_zero, Int.add_zero]
  have act2 : (k : Int) < (b.length : Int) ∨ c > 0 := by
    generalize ai * bk = ab at *
    omega
  unfold lombardref01_Mul.r1 lombardref01_Mul.b1
  simp only [Bool.or_eq_true, decide_eq_true_eq]
  rw [if_pos act2, e1, if_pos g, nth_nat, hob, (md_small _ b1.1 b1.2).2.2, B, Option.bind_some, if_pos g, m1, m2, e3, Int.toNat_natCast]

theorem mul_inner (a b : List Int) (i : Nat) (ai : Int) (hai : a.getD i 0 = ai) (ga : 0 ≤ ai ∧ ai < 65536) (hb : Dig b) (hi : i < a.length) (la : a.length < 900000) (lb : b.length < 90000) (X : Int)
    (hX : X + ai * V b * P i < P (i + 1 + b.length)) : ∀ (j k : Nat) (out : List Int) (c : Int), b.length + 1 = k + j → Dig out → out.length = a.length + b.length + 1 → 0 ≤ c → c ≤ 65535 →
      V out + c * P (i + k) = X + ai * V (b.take k) * P i →
      ∃ out', Dig out' ∧ out'.length = a.length + b.length + 1 ∧ V out' = X + ai * V b * P i ∧ loop (lombardref01_Mul.r1 a b (i : Int)) (c, (k : Int), out) = some out'
  | j, k, out, c, hj, hd, hl, hc0, hc1, hv => by
    by_cases act : k < b.length ∨ 0 < c
    · obtain ⟨j, rfl⟩ : ∃ n, j = n + 1 := by
        cases j with
        | succ n => exact ⟨n, rfl⟩
        | zero =>
          exfalso
          rw [List.take_of_length_le (by omega)] at hv
          have h5 := V_nonneg hd
          have h6 : P (i + k) = P (i + 1 + b.length) := by rw [show i + k = i + 1 + b.length by omega]
          have h7 : 1 * P (i + k) ≤ c * P (i + k) := Int.mul_le_mul_of_nonneg_right (by omega) (by have := P_pos (i + k); omega)
          omega
      obtain ⟨bk, hbk⟩ : ∃ x, b.getD k 0 = x := ⟨_, rfl⟩
      obtain ⟨o, hob⟩ : ∃ x, out.getD (i + k) 0 = x := ⟨_, rfl⟩
      have gb : 0 ≤ bk ∧ bk < 65536 := hbk ▸ hb.getD k
      have go : 0 ≤ o ∧ o < 65536 := hob ▸ hd.getD (i + k)
      obtain ⟨p0, p1⟩ := prod_small ga gb
      have hik : i + k < out.length := by omega
      have es := V_set out (i + k) ((o + c + ai * bk) % 65536) hik
      rw [hob] at es
      have e1 : ai * V (b.take (k + 1)) * P i = ai * V (b.take k) * P i + ai * bk * P (i + k) := by
        rw [V_take_succ, hbk, Int.mul_add, Int.add_mul, P_add, Int.mul_comm (P k) bk, ← Int.mul_assoc, Int.mul_assoc (ai * bk), Int.mul_comm (P k) (P i)]
      have e2 : ((o + c + ai * bk) % 65536 - o) * P (i + k) + (o + c + ai * bk) / 65536 * P (i + (k + 1)) = c * P (i + k) + ai * bk * P (i + k) := by
        have e4 : P (i + (k + 1)) = 65536 * P (i + k) := P_succ (i + k)
        rw [e4, ← Int.mul_assoc, ← Int.add_mul, ← Int.add_mul]
        generalize ai * bk = ab at *
        have : (o + c + ab) % 65536 - o + (o + c + ab) / 65536 * 65536 = c + ab := by omega
        rw [this]
      have b0 : 0 ≤ (o + c + ai * bk) % 65536 ∧ (o + c + ai * bk) % 65536 < 65536 ∧ 0 ≤ (o + c + ai * bk) / 65536 ∧ (o + c + ai * bk) / 65536 ≤ 65535 := by
        generalize ai * bk = ab at *
        omega
      obtain ⟨out', d', l', v', hE⟩ := mul_inner a b i ai hai ga hb hi la lb X hX j (k + 1) (out.set (i + k) ((o + c + ai * bk) % 65536)) ((o + c + ai * bk) / 65536) (by omega)
        (hd.set _ b0.1 b0.2.1) (by rw [List.length_set]; exact hl) b0.2.2.1 b0.2.2.2 (by rw [es, e1]; omega)
      exact ⟨out', d', l', v', by rw [loop_next (mul_step a b out c i k ai bk o hai hbk hob ga gb go hc0 hc1 hi (by omega) hik (by omega) act), hE]⟩
    · obtain rfl : c = 0 := by omega
      rw [List.take_of_length_le (by omega), Int.zero_mul, Int.add_zero] at hv
      refine ⟨out, hd, hl, hv, loop_end ?_⟩
      unfold lombardref01_Mul.r1 lombardref01_Mul.b1
      simp only [Bool.or_eq_true, decide_eq_true_eq]
      rw [if_neg (by omega)]

theorem mul_lt {x y p q : Int} (hx : 0 ≤ x) (hxp : x < p) (hy : 0 ≤ y) (hyq : y < q) : x * y < p * q := by
  have h1 : x * y ≤ x * q := Int.mul_le_mul_of_nonneg_left (by omega) hx
  have h2 : x * q ≤ (p - 1) * q := Int.mul_le_mul_of_nonneg_right (by omega) (by omega)
  rw [Int.sub_mul, Int.one_mul] at h2
  omega

theorem mul_loop (a b : List Int) (ha : Dig a) (hb : Dig b) (la : a.length < 90000) (lb : b.length < 90000) : ∀ (j i : Nat) (out : List Int), a.length = i + j → Dig out → out.length = a.length + b.length + 1 → V out = V (a.take i) * V b →
    ∃ r, Dig r ∧ V r = V a * V b ∧ r.length = a.length + b.length + 1 ∧ loop (lombardref01_Mul.r0 a b) ((i : Int), out) = some r
  | 0, i, out, hj, hd, hl, hv => by
    rw [List.take_of_length_le (by omega)] at hv
    refine ⟨out, hd, hv, hl, loop_end ?_⟩
    unfold lombardref01_Mul.r0 lombardref01_Mul.b0
    simp only [decide_eq_true_eq]
    rw [if_neg (by omega)]
  | j + 1, i, out, hj, hd, hl, hv => by
    have e1 : V (a.take i) * V b + a.getD i 0 * V b * P i = V (a.take (i + 1)) * V b := by
      rw [V_take_succ, Int.add_mul, Int.mul_assoc, Int.mul_comm (V b) (P i), ← Int.mul_assoc, Int.mul_comm (a.getD i 0) (P i)]
    have hX : V (a.take i) * V b + a.getD i 0 * V b * P i < P (i + 1 + b.length) := by
      rw [e1, P_add]
      have h1 := V_lt (ha.take (i + 1))
      rw [List.length_take, Nat.min_eq_left (by omega)] at h1
      exact mul_lt (V_nonneg (ha.take _)) h1 (V_nonneg hb) (V_lt hb)
    obtain ⟨out', d', l', v', hE⟩ := mul_inner a b i _ rfl (ha.getD i) hb (by omega) (by omega) lb _ hX (b.length + 1) 0 out 0 (by omega) hd hl (by decide) (by decide) (by rw [Int.zero_mul, Int.add_zero, hv, List.take_zero]; show _ = _ + a.getD i 0 * 0 * P i; rw [Int.mul_zero, Int.zero_mul, Int.add_zero])
    have hE' : loop (lombardref01_Mul.r1 a b (i : Int)) (0, 0, out) = some out' := hE
    rw [e1] at v'
    obtain ⟨r, hr, hr2, hrl, hE2⟩ := mul_loop a b ha hb la lb j (i + 1) out' (by omega) d' l' v'
    have key : lombardref01_Mul.r0 a b ((i : Int), out) = some (.inl (((i + 1 : Nat) : Int), out')) := by
      unfold lombardref01_Mul.r0 lombardref01_Mul.b0
      simp only [decide_eq_true_eq]
      rw [if_pos (by omega), hE', Option.bind_some, next64 i (by omega)]
    exact ⟨r, hr, hr2, hrl, by rw [loop_next key, hE2]⟩

theorem big_mul_is {a b : List Int} {m n : Int} (ha : Is a m) (hb : Is b n) (la : a.length < 90000) (lb : b.length < 90000) :
    ∃ r, Is r (m * n) ∧ r.length ≤ a.length + b.length + 1 ∧ lombardref01_Mul.f a b = some r := by
  obtain ⟨r, hr, hr2, hl, hE⟩ := mul_loop a b ha.norm.dig hb.norm.dig la lb a.length 0 (List.replicate (a.length + b.length + 1) 0) (by omega) (Dig.zeros _) (by simp) (by rw [V_zeros, List.take_zero]; show _ = 0 * _; rw [Int.zero_mul])
  obtain ⟨t, ht, tl, hT⟩ := trim_is r hr (by omega)
  rw [hr2, ha.val, hb.val] at ht
  refine ⟨t, ht, by omega, ?_⟩
  have e1 : IntKind.i64.wrap ((a.length : Int) + (b.length : Int)) = (a.length : Int) + b.length := i64_id _ (by omega) (by omega)
  have e2 : IntKind.i64.wrap ((a.length : Int) + (b.length : Int) + 1) = ((a.length + b.length + 1 : Nat) : Int) := by rw [i64_id _ (by omega) (by omega)]; omega
  have hE' : loop (lombardref01_Mul.r0 a b) (0, List.replicate (a.length + b.length + 1) 0) = some r := hE
  unfold lombardref01_Mul.f
  rw [e1, e2, if_pos (by omega), Int.toNat_natCast, hE', Option.bind_some, hT]; rfl

theorem wrap_half (x y : Int) (hx : 0 ≤ x) (hy : 0 ≤ y) (hx' : x ≤ 65536) (hy' : y ≤ 65536) : IntKind.u64.wrap (Int.tdiv (IntKind.u64.wrap (x + y)) 2) = (x + y) / 2 := by
  rw [u64_id (x + y) (by omega) (by omega), Int.tdiv_eq_ediv_of_nonneg (by omega), u64_id _ (by omega) (by omega)]

theorem wrap_sub (x y : Int) (hx : x ≤ y) (h0 : 0 ≤ x) (hy' : y ≤ 65536) : IntKind.u64.wrap (y - x) = y - x := u64_id _ (by omega) (by omega)

theorem div_bisect (b rest : List Int) (n R : Int) (hb : Is b n) (hr : Is rest R) (lb : b.length < 1000) (lr : rest.length < 10000) :
    ∀ (j : Nat) (least most : Int), most - least ≤ 2 ^ j → 0 ≤ least → least < most → most ≤ 65536 → least * n ≤ R → R < most * n →
    ∃ x, 0 ≤ x ∧ x < 65536 ∧ x * n ≤ R ∧ R < (x + 1) * n ∧ loop (lombardref01_Div.r1 b rest) (least, most) = some x
  | j, least, most, hj, h0, h1, h2, h3, h4 => by
    have ws := wrap_sub least most (by omega) h0 h2
    by_cases c : most - least > 1
    · obtain ⟨j, rfl⟩ : ∃ i, j = i + 1 := ⟨j - 1, by cases j with | zero => simp at hj; omega | succ i => rfl⟩
      have e2 : (2 : Int) ^ (j + 1) = 2 ^ j * 2 := Int.pow_succ _ _
      have hp : (0 : Int) < 2 ^ j := Int.pow_pos (by decide)
      obtain ⟨t, ht, hl, hE⟩ := of_is ((least + most) / 2) (by omega) (by omega)
      obtain ⟨t2, ht2, hl2, hE2⟩ := big_mul_is ht hb (by omega) (by omega)
      obtain ⟨c2, k1, k2, hE3⟩ := compare_is ht2 hr (by omega) (by omega)
      have wh := wrap_half least most h0 (by omega) (by omega) h2
      have key : lombardref01_Div.r1 b rest (least, most) = if c2 ≤ 0 then some (.inl ((least + most) / 2, most)) else some (.inl (least, (least + most) / 2)) := by
        unfold lombardref01_Div.r1 lombardref01_Div.b1
        simp only [decide_eq_true_eq]
        rw [ws, if_pos c, wh, hE, Option.bind_some, hE2, Option.bind_some, hE3, Option.bind_some]
      by_cases c3 : (least + most) / 2 * n ≤ R
      · have c4 : c2 ≤ 0 := by omega
        obtain ⟨x, x0, x1, x2, x3, hx⟩ := div_bisect b rest n R hb hr lb lr j ((least + most) / 2) most (by omega) (by omega) (by omega) h2 c3 h4
        rw [if_pos c4] at key
        exact ⟨x, x0, x1, x2, x3, by rw [loop_next key, hx]⟩
      · have c4 : ¬ c2 ≤ 0 := by omega
        obtain ⟨x, x0, x1, x2, x3, hx⟩ := div_bisect b rest n R hb hr lb lr j least ((least + most) / 2) (by omega) h0 (by omega) (by omega) h3 (by omega)
        rw [if_neg c4] at key
        exact ⟨x, x0, x1, x2, x3, by rw [loop_next key, hx]⟩
    · obtain rfl : most = least + 1 := by omega
      refine ⟨least, h0, by omega, h3, h4, loop_end ?_⟩
      unfold lombardref01_Div.r1 lombardref01_Div.b1
      simp only [decide_eq_true_eq]
      rw [ws, if_neg c]

theorem div_loop (a b : List Int) (m n : Int) (ha : Is a m) (hb : Is b n) (hn : 0 < n) (la : a.length < 1000) (lb : b.length < 1000) : ∀ (i : Nat) (q rest : List Int) (R : Int), i ≤ a.length → Dig q → q.length = a.length →
    (∀ j, j < i → q.getD j 0 = 0) → Is rest R → R < n → V q * n + P i * R = P i * V (a.drop i) →
    ∃ q' r', Dig q' ∧ V q' = m / n ∧ Is r' (m % n) ∧ q'.length = a.length ∧ r'.length ≤ b.length ∧ loop (lombardref01_Div.r0 a b) (rest, (i : Int) - 1, q) = some (r', q')
  | 0, q, rest, R, hi, hd, hl, hz, hr, hR, hv => by
    have h0 := hr.nonneg
    rw [P_zero, Int.one_mul, Int.one_mul, List.drop_zero, ha.val] at hv
    have e1 : m / n = V q := by
      rw [← hv, Int.add_comm, Int.mul_comm, Int.add_mul_ediv_left _ _ (by omega), Int.ediv_eq_zero_of_lt h0 hR]; omega
    have e2 : m % n = R := by
      rw [← hv, Int.add_comm, Int.mul_comm, Int.add_mul_emod_self_left, Int.emod_eq_of_lt h0 hR]
    refine ⟨q, rest, hd, e1.symm, e2 ▸ hr, hl, hr.len_le (by have := hb.lt; omega), loop_end ?_⟩
    unfold lombardref01_Div.r0 lombardref01_Div.b0
    rw [if_neg (by simp)]
  | i + 1, q, rest, R, hi, hd, hl, hz, hr, hR, hv => by
    have h0 := hr.nonneg
    have hia : i < a.length := by omega
    have hblt := hb.lt
    have lrest : rest.length ≤ b.length := hr.len_le (by omega)
    obtain ⟨d, hdd⟩ : ∃ x, a.getD i 0 = x := ⟨_, rfl⟩
    have gd : 0 ≤ d ∧ d < 65536 := hdd ▸ ha.norm.dig.getD i
    have da := V_drop a i hia
    rw [hdd] at da
    obtain ⟨t, ht, htl, hE⟩ := trim_is ([d] ++ rest) ((Dig.one gd.1 gd.2).append hr.norm.dig) (by simp; omega)
    have vt : V ([d] ++ rest) = d + 65536 * R := by rw [← hr.val]; rfl
    rw [vt] at ht
    have htl2 : t.length ≤ rest.length + 1 := by simpa using htl
    obtain ⟨x, x0, x1, x2, x3, hx⟩ := div_bisect b t n (d + 65536 * R) hb ht lb (by omega) 16 0 65536 (by decide) (by decide) (by decide) (by decide) (by omega) (by omega)
    obtain ⟨s, hs, hsl, hE2⟩ := of_is x x0 (by omega)
    obtain ⟨p, hp, hpl, hE3⟩ := big_mul_is hs hb (by omega) (by omega)
    obtain ⟨u, hu, hul, hE4⟩ := sub_is ht hp (by omega) x2
    have hzi : q.getD i 0 = 0 := hz i (by omega)
    have vs := V_set q i x (by omega)
    rw [hzi] at vs
    have xn : (x + 1) * n = x * n + n := by rw [Int.add_mul]; omega
    obtain ⟨q', r', h1, h1b, h2, h3, h4, hE5⟩ := div_loop a b m n ha hb hn la lb i (q.set i x) u (d + 65536 * R - x * n) (by omega) (hd.set i x0 x1) (by rw [List.length_set]; exact hl)
      (fun j hj => by rw [List.getD_eq_getElem?_getD, List.getElem?_set_ne (by omega), ← List.getD_eq_getElem?_getD]; exact hz j (by omega)) hu (by omega)
      (by
        rw [vs, da, Int.sub_zero, Int.add_mul, Int.mul_sub, Int.mul_add, Int.mul_add]
        rw [P_succ] at hv
        have g1 : x * P i * n = P i * (x * n) := by rw [Int.mul_comm x, Int.mul_assoc]
        have g2 : P i * (65536 * R) = 65536 * P i * R := by rw [← Int.mul_assoc, Int.mul_comm (P i) 65536]
        have g3 : P i * (65536 * V (a.drop (i + 1))) = 65536 * P i * V (a.drop (i + 1)) := by rw [← Int.mul_assoc, Int.mul_comm (P i) 65536]
        omega)
    refine ⟨q', r', h1, h1b, h2, h3, h4, ?_⟩
    have c1 : ((i + 1 : Nat) : Int) - 1 = (i : Int) := by omega
    have w : IntKind.i64.wrap ((i : Int) - 1) = (i : Int) - 1 := i64_id _ (by omega) (by omega)
    have ge : (i : Int) ≥ 0 := by omega
    have key : lombardref01_Div.r0 a b (rest, ((i + 1 : Nat) : Int) - 1, q) = some (.inl (u, (i : Int) - 1, q.set i x)) := by
      unfold lombardref01_Div.r0 lombardref01_Div.b0
      simp only [decide_eq_true_eq]
      rw [c1, if_pos ge, if_pos (in_nat hia), nth_nat, hdd, if_pos (by simp; omega), hE, Option.bind_some, hx, Option.bind_some, if_pos (in_nat (by omega)), hE2, Option.bind_some, hE3, Option.bind_some, hE4, Option.bind_some, w, Int.toNat_natCast]
    rw [loop_next key, hE5]

theorem big_div_is {a b : List Int} {m n : Int} (ha : Is a m) (hb : Is b n) (hn : 0 < n) (la : a.length < 1000) (lb : b.length < 1000) :
    ∃ q r, Is q (m / n) ∧ Is r (m % n) ∧ q.length ≤ a.length ∧ r.length ≤ b.length ∧ lombardref01_Div.f a b = some (q, r) := by
  obtain ⟨q, r, h1, h1b, h2, h3, h4, hE⟩ := div_loop a b m n ha hb hn la lb a.length (List.replicate a.length 0) [] 0 (Nat.le_refl _) (Dig.zeros _) (by simp) (fun j hj => by rw [List.getD_eq_getElem?_getD, List.getElem?_replicate, if_pos hj]; rfl) Is.nil hn (by rw [V_zeros, V_drop_len]; simp)
  obtain ⟨t, ht, tl, hT⟩ := trim_is q h1 (by omega)
  rw [h1b] at ht
  refine ⟨t, r, ht, h2, by omega, h4, ?_⟩
  unfold lombardref01_Div.f
  rw [if_pos (by omega), Int.toNat_natCast, i64_id _ (by omega) (by omega), hE, Option.bind_some]
  simp only
  rw [hT]; rfl

theorem push_digit (h d : Int) (h0 : 0 ≤ h) (h1 : h < 281474976710656) (d0 : 0 ≤ d) (d1 : d < 65536) : IntKind.u64.wrap (IntKind.u64.wrap (h * 65536) + d) = d + 65536 * h := by
  rw [u64_id (h * 65536) (by omega) (by omega), u64_id _ (by omega) (by omega)]; omega

theorem halves_lo (l : List Int) (hd : Dig l) (hl : l.length < 1000000) (hi : Int) : ∀ i : Nat, i ≤ 4 → i ≤ l.length →
    loop (lombardref01_Halves.r0 l) (hi, V ((l.take 4).drop i), (i : Int) - 1) = some (hi, V (l.take 4))
  | 0, _, _ => loop_end (by unfold lombardref01_Halves.r0 lombardref01_Halves.b0; rw [if_neg (by simp)]; rfl)
  | i + 1, h4, hl2 => by
    have c1 : ((i + 1 : Nat) : Int) - 1 = (i : Int) := by omega
    have c3 : ¬ (i : Int) ≥ 4 := by omega
    have c0 : (i : Int) ≥ 0 := by omega
    have w : IntKind.i64.wrap ((i : Int) - 1) = (i : Int) - 1 := i64_id _ (by omega) (by omega)
    have ht : i < (l.take 4).length := by rw [List.length_take]; omega
    have dr := V_drop (l.take 4) i ht
    rw [take_getD l 4 i (by omega)] at dr
    have hdt : Dig ((l.take 4).drop (i + 1)) := fun x hx => hd x (List.mem_of_mem_take (List.mem_of_mem_drop hx))
    have b0 := V_nonneg hdt
    have b1 := V_lt hdt
    have b2 : P ((l.take 4).drop (i + 1)).length ≤ P 3 := P_mono (by rw [List.length_drop, List.length_take]; omega)
    have b3 : P 3 = 281474976710656 := by decide
    have gd := hd.getD i
    have pd := push_digit (V ((l.take 4).drop (i + 1))) (l.getD i 0) b0 (by omega) gd.1 gd.2
    rw [← dr] at pd
    have key : lombardref01_Halves.r0 l (hi, V ((l.take 4).drop (i + 1)), ((i + 1 : Nat) : Int) - 1) = some (.inl (hi, V ((l.take 4).drop i), (i : Int) - 1)) := by
      unfold lombardref01_Halves.r0 lombardref01_Halves.b0
      simp only [decide_eq_true_eq]
      rw [c1, if_pos c0, if_neg c3, if_pos (in_nat (by omega)), nth_nat, pd, w]
    rw [loop_next key]
    exact halves_lo l hd hl hi i (by omega) (by omega)

theorem halves_hi (l : List Int) (hd : Dig l) (hl : l.length ≤ 8) : ∀ i : Nat, 4 ≤ i → i ≤ l.length →
    loop (lombardref01_Halves.r0 l) (V (l.drop i), 0, (i : Int) - 1) = some (V (l.drop 4), V (l.take 4))
  | i, h4, hl2 => by
    by_cases e : i = 4
    · subst e
      have := halves_lo l hd (by omega) (V (l.drop 4)) 4 (Nat.le_refl _) hl2
      have z : V ((l.take 4).drop 4) = 0 := by rw [List.drop_of_length_le (by rw [List.length_take]; omega)]; rfl
      rwa [z] at this
    · obtain ⟨i, rfl⟩ : ∃ j, i = j + 1 := ⟨i - 1, by omega⟩
      have c1 : ((i + 1 : Nat) : Int) - 1 = (i : Int) := by omega
      have c3 : (i : Int) ≥ 4 := by omega
      have c0 : (i : Int) ≥ 0 := by omega
      have w : IntKind.i64.wrap ((i : Int) - 1) = (i : Int) - 1 := i64_id _ (by omega) (by omega)
      have dr := V_drop l i (by omega)
      have hdt : Dig (l.drop (i + 1)) := fun x hx => hd x (List.mem_of_mem_drop hx)
      have b0 := V_nonneg hdt
      have b1 := V_lt hdt
      have b2 : P (l.drop (i + 1)).length ≤ P 3 := P_mono (by rw [List.length_drop]; omega)
      have b3 : P 3 = 281474976710656 := by decide
      have gd := hd.getD i
      have pd := push_digit (V (l.drop (i + 1))) (l.getD i 0) b0 (by omega) gd.1 gd.2
      rw [← dr] at pd
      have key : lombardref01_Halves.r0 l (V (l.drop (i + 1)), 0, ((i + 1 : Nat) : Int) - 1) = some (.inl (V (l.drop i), 0, (i : Int) - 1)) := by
        unfold lombardref01_Halves.r0 lombardref01_Halves.b0
        simp only [decide_eq_true_eq]
        rw [c1, if_pos c0, if_pos c3, if_pos (in_nat (by omega)), nth_nat, pd, w]
      rw [loop_next key]
      exact halves_hi l hd hl i (by omega) (by omega)

theorem halves_is {l : List Int} {m : Int} (h : Is l m) (hl : l.length < 1000000) :
    lombardref01_Halves.f l = some (if m < 340282366920938463463374607431768211456 then (m / 18446744073709551616, m % 18446744073709551616, true) else (0, 0, false)) := by
  have p8 : P 8 = 340282366920938463463374607431768211456 := by decide
  have p4 : P 4 = 18446744073709551616 := by decide
  unfold lombardref01_Halves.f
  simp only [decide_eq_true_eq]
  by_cases hm : m < 340282366920938463463374607431768211456
  · rw [if_pos hm]
    have l8 : l.length ≤ 8 := h.len_le (by omega)
    have res : V (l.drop 4) = m / 18446744073709551616 ∧ V (l.take 4) = m % 18446744073709551616 := by
      by_cases hs : l.length ≤ 4
      · have b := h.lt
        have b2 := P_mono hs
        rw [List.drop_of_length_le hs, List.take_of_length_le hs, h.val]
        have := h.nonneg
        show (0 : Int) = _ ∧ _
        omega
      · have td := V_take_drop l 4 (by omega)
        have b0 := V_nonneg (h.norm.dig.take 4)
        have b1 := V_lt (h.norm.dig.take 4)
        rw [List.length_take, Nat.min_eq_left (by omega), p4] at b1
        rw [p4, h.val] at td
        omega
    rw [← res.1, ← res.2, if_neg (by omega), i64_id _ (by omega) (by omega)]
    have E : loop (lombardref01_Halves.r0 l) (0, 0, (l.length : Int) - 1) = some (V (l.drop 4), V (l.take 4)) := by
      by_cases hs : l.length ≤ 4
      · have := halves_lo l h.norm.dig hl 0 l.length hs (Nat.le_refl _)
        have z : V ((l.take 4).drop l.length) = 0 := by rw [List.drop_of_length_le (by rw [List.length_take]; omega)]; rfl
        have z2 : V (l.drop 4) = 0 := by rw [List.drop_of_length_le hs]; rfl
        rw [z] at this
        rw [z2]
        exact this
      · have := halves_hi l h.norm.dig l8 l.length (by omega) (Nat.le_refl _)
        rw [V_drop_len] at this
        exact this
    rw [E]; rfl
  · rw [if_neg hm]
    have c0 : (l.length : Int) > 8 := by
      by_cases hs : l.length ≤ 8
      · have b := h.lt
        have b2 := P_mono hs
        omega
      · omega
    rw [if_pos c0]

theorem odd_is {q : List Int} {Q : Int} (hq : Is q Q) (hl : (q.length : Int) > 0) : (Int.tmod (nth q 0) 2 == 1) = (Q % 2 == 1) := by
  have gd := hq.norm.dig.getD 0
  have dr := V_drop q 0 (by omega)
  rw [List.drop_zero, hq.val] at dr
  have e : nth q 0 = q.getD 0 0 := nth_nat q 0
  rw [e, Int.tmod_eq_emod_of_nonneg gd.1]
  have : q.getD 0 0 % 2 = Q % 2 := by omega
  rw [this]

theorem is_pos {r : List Int} {R : Int} (h : Is r R) (hR : R ≠ 0) : (r.length : Int) > 0 := by
  cases r with
  | nil => exact absurd h.val.symm hR
  | cons x l => simp

end Go.Proofs.Ytlgfdldonoaahaa

