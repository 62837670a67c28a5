/- Shows what the printed functions of the document's digit numbers tell: their sums, differences, products, quotients, rests, and how they compare. -/
import Derived.Laws.BitsLemmas
import Derived.Test.YtjbpblcohlainaaPmArith
import Derived.Test.YtjbpblcohlainaaPrintx3
import Derived.Test.YtjbpblcohlainaaPrintx2
import Derived.Test.YtjbpblcohlainaaPrintx4
import Derived.Test.YtjbpblcohlainaaPrintx5
import Derived.Test.YtjbpblcohlainaaPrintx24
import Derived.Test.YtjbpblcohlainaaPrintx20
import Derived.Test.YtjbpblcohlainaaPrintx8
import Derived.Test.YtjbpblcohlainaaPrintx21
import Derived.Test.YtjbpblcohlainaaPrintx23
import Derived.Test.YtjbpblcohlainaaPrintx25

namespace Go.Pm.Big
set_option linter.unusedVariables false

def V : List Int → Int
  | [] => 0
  | d :: l => d + 65536 * V l

def Dig (l : List Int) : Prop := ∀ d ∈ l, 0 ≤ d ∧ d < 65536

def P (n : Nat) : Int := 65536 ^ n

theorem P_zero : P 0 = 1 := rfl
theorem P_succ (n : Nat) : P (n + 1) = 65536 * P n := by unfold P; rw [Int.pow_succ, Int.mul_comm]
theorem P_pos (n : Nat) : 0 < P n := Int.pow_pos (by decide)
theorem P_add (m n : Nat) : P (m + n) = P m * P n := by unfold P; exact Int.pow_add _ _ _
theorem P_mono {m n : Nat} (h : m ≤ n) : P m ≤ P n := by
  induction n with
  | zero => obtain rfl : m = 0 := by omega
            exact Int.le_refl _
  | succ n ih =>
    by_cases e : m = n + 1
    · subst e; exact Int.le_refl _
    · have := ih (by omega); have := P_pos n; rw [P_succ]; omega

theorem Dig.nil : Dig [] := fun _ h => by simp at h
theorem Dig.tail {d : Int} {l : List Int} (h : Dig (d :: l)) : Dig l := fun x hx => h x (List.mem_cons_of_mem _ hx)
theorem Dig.head {d : Int} {l : List Int} (h : Dig (d :: l)) : 0 ≤ d ∧ d < 65536 := h d List.mem_cons_self
theorem Dig.cons {d : Int} {l : List Int} (h0 : 0 ≤ d) (h1 : d < 65536) (h : Dig l) : Dig (d :: l) := by
  intro x hx
  rcases List.mem_cons.mp hx with e | e
  · subst e; exact ⟨h0, h1⟩
  · exact h x e
theorem Dig.append {a b : List Int} (ha : Dig a) (hb : Dig b) : Dig (a ++ b) := by
  intro x hx
  rcases List.mem_append.mp hx with e | e
  · exact ha x e
  · exact hb x e
theorem Dig.one {d : Int} (h0 : 0 ≤ d) (h1 : d < 65536) : Dig [d] := Dig.cons h0 h1 Dig.nil
theorem Dig.take {l : List Int} (h : Dig l) (n : Nat) : Dig (l.take n) := fun x hx => h x (List.mem_of_mem_take hx)
theorem Dig.getD {l : List Int} (h : Dig l) (i : Nat) : 0 ≤ l.getD i 0 ∧ l.getD i 0 < 65536 := by
  by_cases hi : i < l.length
  · rw [List.getD_eq_getElem?_getD, List.getElem?_eq_getElem hi]
    exact h _ (List.getElem_mem hi)
  · rw [List.getD_eq_getElem?_getD, List.getElem?_eq_none (by omega)]
    exact ⟨by decide, by decide⟩
theorem Dig.set {l : List Int} (h : Dig l) (i : Nat) {x : Int} (h0 : 0 ≤ x) (h1 : x < 65536) : Dig (l.set i x) := by
  intro y hy
  rcases List.mem_or_eq_of_mem_set hy with e | e
  · exact h y e
  · subst e; exact ⟨h0, h1⟩
theorem Dig.zeros (n : Nat) : Dig (List.replicate n 0) := fun x hx => by
  have := List.eq_of_mem_replicate hx
  subst this; exact ⟨by decide, by decide⟩

theorem V_nonneg : ∀ {l : List Int}, Dig l → 0 ≤ V l
  | [], _ => Int.le_refl _
  | d :: l, h => by
    have h1 := h.head
    have h2 := V_nonneg h.tail
    show 0 ≤ d + 65536 * V l
    omega

theorem V_lt : ∀ {l : List Int}, Dig l → V l < P l.length
  | [], _ => by decide
  | d :: l, h => by
    have h1 := h.head
    have h2 := V_lt h.tail
    show d + 65536 * V l < P (l.length + 1)
    rw [P_succ]; omega

theorem V_append : ∀ (a b : List Int), V (a ++ b) = V a + P a.length * V b
  | [], b => by show V b = 0 + P 0 * V b; rw [P_zero]; omega
  | d :: a, b => by
    show d + 65536 * V (a ++ b) = d + 65536 * V a + P (a.length + 1) * V b
    rw [V_append a b, P_succ, Int.mul_add, Int.mul_assoc]; omega

theorem V_one (d : Int) : V [d] = d := by show d + 65536 * 0 = d; omega

theorem V_zeros : ∀ n : Nat, V (List.replicate n 0) = 0
  | 0 => rfl
  | n + 1 => by
    rw [List.replicate_succ]
    show 0 + 65536 * V (List.replicate n 0) = 0
    rw [V_zeros n]; decide

theorem V_set : ∀ (l : List Int) (i : Nat) (x : Int), i < l.length → V (l.set i x) = V l + (x - l.getD i 0) * P i
  | d :: l, 0, x, _ => by
    show x + 65536 * V l = d + 65536 * V l + (x - (d :: l).getD 0 0) * P 0
    rw [P_zero]
    show x + 65536 * V l = d + 65536 * V l + (x - d) * 1
    omega
  | d :: l, i + 1, x, h => by
    have ih := V_set l i x (by simpa using h)
    show d + 65536 * V (l.set i x) = d + 65536 * V l + (x - (d :: l).getD (i + 1) 0) * P (i + 1)
    rw [ih, P_succ]
    show d + 65536 * (V l + (x - l.getD i 0) * P i) = d + 65536 * V l + (x - l.getD i 0) * (65536 * P i)
    have : (x - l.getD i 0) * (65536 * P i) = 65536 * ((x - l.getD i 0) * P i) := by
      rw [← Int.mul_assoc, Int.mul_comm _ 65536, Int.mul_assoc]
    rw [this, Int.mul_add]; omega

/-- Digit i, and what lies above it. -/
theorem V_drop : ∀ (l : List Int) (i : Nat), i < l.length → V (l.drop i) = l.getD i 0 + 65536 * V (l.drop (i + 1))
  | d :: l, 0, _ => rfl
  | d :: l, i + 1, h => by
    have := V_drop l i (by simpa using h)
    simpa using this

theorem V_take_drop (l : List Int) (i : Nat) (h : i ≤ l.length) : V l = V (l.take i) + P i * V (l.drop i) := by
  have e := V_append (l.take i) (l.drop i)
  rw [List.take_append_drop, List.length_take, Nat.min_eq_left h] at e
  exact e

theorem V_drop_len (l : List Int) : V (l.drop l.length) = 0 := by rw [List.drop_length]; rfl

structure Norm (l : List Int) : Prop where
  dig : Dig l
  last : l.length ≠ 0 → l.getD (l.length - 1) 0 ≠ 0

theorem Norm.nil : Norm [] := ⟨Dig.nil, fun h => absurd rfl h⟩

structure Is (l : List Int) (n : Int) : Prop where
  norm : Norm l
  val : V l = n

theorem Is.nil : Is [] 0 := ⟨Norm.nil, rfl⟩
theorem Is.nonneg {l : List Int} {n : Int} (h : Is l n) : 0 ≤ n := h.val ▸ V_nonneg h.norm.dig
theorem Is.lt {l : List Int} {n : Int} (h : Is l n) : n < P l.length := h.val ▸ V_lt h.norm.dig
theorem Is.ge {l : List Int} {n : Int} (h : Is l n) (hl : l.length ≠ 0) : P (l.length - 1) ≤ n := by
  have e := V_take_drop l (l.length - 1) (by omega)
  have d := V_drop l (l.length - 1) (by omega)
  have hz : l.length - 1 + 1 = l.length := by omega
  rw [hz, V_drop_len] at d
  have h1 := h.norm.dig.getD (l.length - 1)
  have h2 := h.norm.last hl
  have h3 := V_nonneg (h.norm.dig.take (l.length - 1))
  have h4 := P_pos (l.length - 1)
  rw [d, h.val] at e
  have h5 : P (l.length - 1) * 1 ≤ P (l.length - 1) * (l.getD (l.length - 1) 0 + 65536 * 0) := Int.mul_le_mul_of_nonneg_left (by omega) (by omega)
  omega

theorem Is.shorter {a b : List Int} {m n : Int} (ha : Is a m) (hb : Is b n) (h : a.length < b.length) : m < n := by
  have h1 := ha.lt
  have h2 := hb.ge (by omega)
  have h3 := P_mono (m := a.length) (n := b.length - 1) (by omega)
  omega

theorem Is.len_le {l : List Int} {n : Int} {L : Nat} (h : Is l n) (hn : n < P L) : l.length ≤ L := by
  by_cases hl : l.length ≤ L
  · exact hl
  · have h2 := h.ge (by omega)
    have h3 := P_mono (m := L) (n := l.length - 1) (by omega)
    omega

theorem Is.uniq : ∀ {a b : List Int} {n : Int}, Dig a → Dig b → a.length = b.length → V a = V b → a = b
  | [], [], _, _, _, _, _ => rfl
  | [], _ :: _, _, _, _, h, _ => by simp at h
  | _ :: _, [], _, _, _, h, _ => by simp at h
  | d :: a, e :: b, n, ha, hb, hl, hv => by
    have hv' : d + 65536 * V a = e + 65536 * V b := hv
    have h1 := ha.head
    have h2 := hb.head
    have : d = e := by omega
    subst this
    rw [Is.uniq (n := n) ha.tail hb.tail (by simpa using hl) (by omega)]

theorem Is.eq {a b : List Int} {n : Int} (ha : Is a n) (hb : Is b n) : a = b := by
  have hl : a.length = b.length := by
    rcases Nat.lt_trichotomy a.length b.length with h | h | h
    · have := ha.shorter hb h; omega
    · exact h
    · have := hb.shorter ha h; omega
  exact Is.uniq (n := n) ha.norm.dig hb.norm.dig hl (ha.val.trans hb.val.symm)

theorem Is.zero {l : List Int} (h : Is l 0) : l = [] := h.eq Is.nil

theorem take_getD (l : List Int) (n i : Nat) (h : i < n) : (l.take n).getD i 0 = l.getD i 0 := by
  rw [List.getD_eq_getElem?_getD, List.getD_eq_getElem?_getD, List.getElem?_take, if_pos h]

/-- What lies above a place, if all of it is 0. -/
theorem V_cut (l : List Int) (n : Nat) (hn : n ≤ l.length) (h : V (l.drop n) = 0) : V (l.take n) = V l := by
  have := V_take_drop l n hn
  rw [h] at this; omega

theorem Is.cut {l : List Int} (hd : Dig l) (n : Nat) (hn : n ≤ l.length) (h : V (l.drop n) = 0) (hz : n ≠ 0 → l.getD (n - 1) 0 ≠ 0) : Is (l.take n) (V l) := by
  have hlen : (l.take n).length = n := by rw [List.length_take, Nat.min_eq_left hn]
  refine ⟨⟨hd.take n, fun h1 => ?_⟩, V_cut l n hn h⟩
  rw [hlen] at h1 ⊢
  rw [take_getD l n (n - 1) (by omega)]
  exact hz h1

end Go.Pm.Big
namespace Go.Pm.Big

theorem getD_none (l : List Int) (i : Nat) (h : l.length ≤ i) : l.getD i 0 = 0 := by
  rw [List.getD_eq_getElem?_getD, List.getElem?_eq_none h]; rfl

theorem V_take_succ (l : List Int) (i : Nat) : V (l.take (i + 1)) = V (l.take i) + P i * l.getD i 0 := by
  by_cases h : i < l.length
  · have e : l.take (i + 1) = l.take i ++ [l.getD i 0] := by
      rw [List.take_add_one, List.getD_eq_getElem?_getD, List.getElem?_eq_getElem h]; rfl
    rw [e, V_append, V_one, List.length_take, Nat.min_eq_left (by omega)]
  · rw [getD_none l i (by omega), List.take_of_length_le (by omega), List.take_of_length_le (by omega)]; omega

theorem Is.cons {r : List Int} {m d : Int} (h : Is r m) (h0 : 0 ≤ d) (h1 : d < 65536) (hz : m = 0 → d ≠ 0) : Is (d :: r) (d + 65536 * m) := by
  refine ⟨⟨Dig.cons h0 h1 h.norm.dig, fun _ => ?_⟩, by rw [← h.val]; rfl⟩
  by_cases hr : r = []
  · subst hr
    exact hz (h.val ▸ rfl)
  · have hl : r.length ≠ 0 := fun e => hr (List.length_eq_zero_iff.mp e)
    have := h.norm.last hl
    have e : (d :: r).length - 1 = (r.length - 1) + 1 := by simp; omega
    rw [e]
    simpa using this

/-- Two rows with the same digits above a place, and a lesser digit there. -/
theorem V_below {a b : List Int} (ha : Dig a) (hb : Dig b) (i : Nat) (hia : i < a.length) (hib : i < b.length) (hd : V (a.drop (i + 1)) = V (b.drop (i + 1))) (hlt : a.getD i 0 < b.getD i 0) : V a < V b := by
  have e1 := V_take_drop a i (by omega)
  have e2 := V_take_drop b i (by omega)
  rw [V_drop a i hia] at e1
  rw [V_drop b i hib, ← hd] at e2
  have h1 := V_lt (ha.take i)
  rw [List.length_take, Nat.min_eq_left (by omega)] at h1
  have h2 := V_nonneg (hb.take i)
  have h3 := P_pos i
  have h4 : P i * (a.getD i 0 + 65536 * V (a.drop (i + 1))) + P i * 1 ≤ P i * (b.getD i 0 + 65536 * V (a.drop (i + 1))) := by
    rw [← Int.mul_add]
    exact Int.mul_le_mul_of_nonneg_left (by omega) (by omega)
  omega

end Go.Pm.Big
namespace Go.Proofs.Ytjbpblcohlainaa.Print
open Go.RowKit Go.Proofs.YtjbpblcohlainaaW.PrintWords Go.Proofs.YtjbpblcohlainaaW.PrintLast Go.Proofs.YtjbpblcohlainaaW.PrintMore Go.Pm.Arith Go.Pm.Big
set_option linter.unusedVariables false
set_option linter.unusedSimpArgs false

theorem rd_nat (l : List Int) (n : Nat) : rd l (n : Int) = l.getD n 0 := by unfold rd; simp

theorem w64 (n : Int) (h₀ : -9223372036854775808 ≤ n) (h₁ : n < 9223372036854775808) : wrap64 n = n := by unfold wrap64; omega

theorem trim_loop (l : List Int) (hd : Dig l) (hl : l.length < 1000000) : ∀ n : Nat, n ≤ l.length → V (l.drop n) = 0 →
    ∃ r, Is r (V l) ∧ r.length ≤ l.length ∧ Ev (fun k => lombardref01_trim.l0 k l (n : Int)) r
  | 0, hn, hv => by
    refine ⟨l.take 0, Is.cut hd 0 hn hv (fun h => absurd rfl h), by simp, Ev.step (f := fun _ => some (l.take 0)) (fun k => ?_) (Ev.now _)⟩
    rw [lombardref01_trim.l0, if_neg (by decide), if_pos (by decide), if_pos (by omega)]; rfl
  | n + 1, hn, hv => by
    have e1 : wrap64 (((n + 1 : Nat) : Int) - 1) = (n : Int) := by rw [w64 _ (by omega) (by omega)]; omega
    have dr := V_drop l n (by omega)
    by_cases hz : l.getD n 0 = 0
    · obtain ⟨r, h1, h2, h3⟩ := trim_loop l hd hl n (by omega) (by rw [dr, hv, hz]; rfl)
      refine ⟨r, h1, h2, Ev.step (fun k => ?_) h3⟩
      rw [lombardref01_trim.l0, if_pos (by omega), e1, if_pos (by omega), if_pos (by omega), rd_nat, if_pos hz]
    · refine ⟨l.take (n + 1), Is.cut hd (n + 1) hn hv (fun _ => hz), by rw [List.length_take]; omega, Ev.step (f := fun _ => some (l.take (n + 1))) (fun k => ?_) (Ev.now _)⟩
      rw [lombardref01_trim.l0, if_pos (by omega), e1, if_pos (by omega), if_pos (by omega), rd_nat, if_neg hz, if_pos (by omega), if_pos (by omega)]; rfl

theorem trim_is (l : List Int) (hd : Dig l) (hl : l.length < 1000000) : ∃ r, Is r (V l) ∧ r.length ≤ l.length ∧ Ev (fun k => lombardref01_trim.f k l) r := by
  obtain ⟨r, h1, h2, h3⟩ := trim_loop l hd hl l.length (Nat.le_refl _) (V_drop_len l)
  exact ⟨r, h1, h2, h3⟩

theorem of_loop : ∀ (j : Nat) (n : Int) (acc : List Int), 0 ≤ n → n < 18446744073709551616 → n < P j → acc.length + j ≤ 1000 →
    ∃ r, Is r n ∧ r.length ≤ j ∧ Ev (fun k => lombardref01_Of.l0 k n acc) (acc ++ r)
  | j, n, acc, h0, h1, h2, h3 => by
    by_cases hn : n > 0
    · obtain ⟨j, rfl⟩ : ∃ i, j = i + 1 := ⟨j - 1, by cases j with | zero => rw [P_zero] at h2; omega | succ i => rfl⟩
      rw [P_succ] at h2
      have e1 : Int.tdiv n 65536 = n / 65536 := Int.tdiv_eq_ediv_of_nonneg h0
      have e2 : Int.tmod n 65536 = n % 65536 := Int.tmod_eq_emod_of_nonneg h0
      have e3 : IntKind.u64.wrap (n / 65536) = n / 65536 := u64_id _ (by omega) (by omega)
      obtain ⟨r, hr, hl, hE⟩ := of_loop j (n / 65536) (acc ++ [n % 65536]) (by omega) (by omega) (by omega) (by simp; omega)
      refine ⟨n % 65536 :: r, ?_, by simp; omega, Ev.step (fun k => ?_) (by simpa using hE)⟩
      · have := hr.cons (d := n % 65536) (by omega) (by omega) (fun e => by omega)
        rwa [show n % 65536 + 65536 * (n / 65536) = n by omega] at this
      · rw [lombardref01_Of.l0, if_pos hn, if_pos (by omega), e1, e2, e3]
    · obtain rfl : n = 0 := by omega
      refine ⟨[], Is.nil, by simp, Ev.step (f := fun _ => some acc) (fun k => ?_) (by simpa using Ev.now acc)⟩
      rw [lombardref01_Of.l0, if_neg hn]

theorem of_is (n : Int) (h0 : 0 ≤ n) (h1 : n < 18446744073709551616) : ∃ r, Is r n ∧ r.length ≤ 4 ∧ Ev (fun k => lombardref01_Of.f k n) r := by
  obtain ⟨r, hr, hl, hE⟩ := of_loop 4 n [] h0 h1 (by unfold P; omega) (by decide)
  rw [List.nil_append] at hE
  exact ⟨r, hr, hl, hE⟩

theorem two_loop (hi : Int) (h0 : 0 ≤ hi) (h1 : hi < 18446744073709551616) : ∀ (j : Nat) (l : List Int), Dig l → l.length + j = 4 →
    ∃ r, Is r (V l + 18446744073709551616 * hi) ∧ r.length ≤ 8 ∧ Ev (fun k => lombardref01_Two.l0 k hi l) r
  | 0, l, hd, hj => by
    obtain ⟨t, ht, hl, hE⟩ := of_is hi h0 h1
    obtain ⟨r, hr, hl2, hE2⟩ := trim_is (l ++ t) (hd.append ht.norm.dig) (by simp; omega)
    rw [V_append, ht.val, show P l.length = 18446744073709551616 by rw [show l.length = 4 by omega]; decide] at hr
    refine ⟨r, hr, by simp at hl2; omega, Ev.step (f := fun k => (lombardref01_Of.f k hi).bind fun t117 => (if l.length + t117.length < 17592186044416 then ((lombardref01_trim.f k (l ++ t117)).bind fun t123 => (some t123)) else (none))) (fun k => ?_) ?_⟩
    · rw [lombardref01_Two.l0, if_neg (by omega)]
    · refine Ev.bind hE (Ev.congr (f := fun n => (lombardref01_trim.f n (l ++ t)).bind fun t123 => some t123) (fun k => by rw [if_pos (by omega)]) (Ev.bind hE2 (Ev.now r)))
  | j + 1, l, hd, hj => by
    obtain ⟨r, hr, hl, hE⟩ := two_loop hi h0 h1 j (l ++ [0]) (hd.append (Dig.one (by decide) (by decide))) (by simp; omega)
    rw [V_append, V_one, Int.mul_zero, Int.add_zero] at hr
    refine ⟨r, hr, hl, Ev.step (fun k => ?_) hE⟩
    rw [lombardref01_Two.l0, if_pos (by omega), if_pos (by omega)]

theorem two_is (hi lo : Int) (h0 : 0 ≤ hi) (h1 : hi < 18446744073709551616) (l0 : 0 ≤ lo) (l1 : lo < 18446744073709551616) :
    ∃ r, Is r (hi * 18446744073709551616 + lo) ∧ r.length ≤ 8 ∧ Ev (fun k => lombardref01_Two.f k hi lo) r := by
  obtain ⟨t, ht, hl, hE⟩ := of_is lo l0 l1
  obtain ⟨r, hr, hl2, hE2⟩ := two_loop hi h0 h1 (4 - t.length) t ht.norm.dig (by omega)
  rw [ht.val, show lo + 18446744073709551616 * hi = hi * 18446744073709551616 + lo by omega] at hr
  exact ⟨r, hr, hl2, Ev.bind hE hE2⟩

theorem compare_loop (a b : List Int) (ha : Dig a) (hb : Dig b) (hl : a.length = b.length) (hs : a.length < 1000000) : ∀ i : Nat, i ≤ a.length → V (a.drop i) = V (b.drop i) →
    ∃ c, (c < 0 ↔ V a < V b) ∧ (c = 0 ↔ V a = V b) ∧ -1 ≤ c ∧ c ≤ 1 ∧ Ev (fun k => lombardref01_Compare.l0 k a b ((i : Int) - 1)) c
  | 0, hi, hv => by
    have hv' : V a = V b := by simpa using hv
    refine ⟨0, by omega, by omega, by omega, by omega, Ev.step (f := fun _ => some 0) (fun k => ?_) (Ev.now _)⟩
    rw [lombardref01_Compare.l0, if_neg (by decide)]
  | i + 1, hi, hv => by
    have da := V_drop a i (by omega)
    have db := V_drop b i (by omega)
    have e0 : ((i + 1 : Nat) : Int) - 1 = (i : Int) := by omega
    have e1 : wrap64 ((i : Int) - 1) = (i : Int) - 1 := w64 _ (by omega) (by omega)
    rw [e0]
    by_cases h1 : a.getD i 0 < b.getD i 0
    · have := V_below ha hb i (by omega) (by omega) hv h1
      refine ⟨-1, by omega, by omega, by omega, by omega, Ev.step (f := fun _ => some (-1)) (fun k => ?_) (Ev.now _)⟩
      rw [lombardref01_Compare.l0, if_pos (by omega), if_pos (by omega), if_pos (by omega), if_pos (by omega), rd_nat, rd_nat, if_pos h1]
    · by_cases h2 : a.getD i 0 > b.getD i 0
      · have := V_below hb ha i (by omega) (by omega) hv.symm h2
        refine ⟨1, by omega, by omega, by omega, by omega, Ev.step (f := fun _ => some 1) (fun k => ?_) (Ev.now _)⟩
        rw [lombardref01_Compare.l0, if_pos (by omega), if_pos (by omega), if_pos (by omega), if_pos (by omega), rd_nat, rd_nat, if_neg h1, if_pos h2]
      · obtain ⟨c, c1, c2, c3, c4, hE⟩ := compare_loop a b ha hb hl hs i (by omega) (by rw [da, db, hv]; omega)
        refine ⟨c, c1, c2, c3, c4, Ev.step (fun k => ?_) hE⟩
        rw [lombardref01_Compare.l0, if_pos (by omega), if_pos (by omega), if_pos (by omega), if_pos (by omega), rd_nat, rd_nat, if_neg h1, if_neg h2, e1]

theorem compare_is {a b : List Int} {m n : Int} (ha : Is a m) (hb : Is b n) (la : a.length < 1000000) (lb : b.length < 1000000) :
    ∃ c, (c < 0 ↔ m < n) ∧ (c = 0 ↔ m = n) ∧ Ev (fun k => lombardref01_Compare.f k a b) c := by
  by_cases hl : (a.length : Int) = (b.length : Int)
  · obtain ⟨c, c1, c2, _, _, hE⟩ := compare_loop a b ha.norm.dig hb.norm.dig (by omega) la a.length (Nat.le_refl _) (by rw [V_drop_len, show a.length = b.length by omega, V_drop_len])
    rw [ha.val, hb.val] at c1 c2
    refine ⟨c, c1, c2, Ev.congr (fun k => ?_) hE⟩
    unfold lombardref01_Compare.f
    rw [if_pos hl, w64 _ (by omega) (by omega)]
  · refine ⟨(a.length : Int) - b.length, ?_, ?_, Ev.congr (fun k => ?_) (Ev.now _)⟩
    · constructor
      · intro h; exact ha.shorter hb (by omega)
      · intro h
        by_cases h2 : a.length < b.length
        · omega
        · have := hb.shorter ha (by omega); omega
    · constructor
      · intro h; omega
      · intro h
        have := ha.eq (h ▸ hb)
        subst this; omega
    · unfold lombardref01_Compare.f
      rw [if_neg hl, w64 _ (by omega) (by omega)]

theorem add_j1 (a b out : List Int) (c : Int) (i : Nat) (ha : Dig a) (hb : Dig b) (hc0 : 0 ≤ c) (hc1 : c ≤ 1) (hi : i < 1000000) (ho : out.length < 1000000) {r : List Int}
    (h : Ev (fun k => lombardref01_Add.l0 k a b (out ++ [(c + a.getD i 0 + b.getD i 0) % 65536]) ((c + a.getD i 0 + b.getD i 0) / 65536) ((i + 1 : Nat) : Int)) r) :
    Ev (fun k => lombardref01_Add.j1 k a b out c (i : Int) true) r := by
  have ga := ha.getD i
  have gb := hb.getD i
  refine Ev.step (fun k => ?_) h
  have e3 : wrap64 ((i : Int) + 1) = ((i + 1 : Nat) : Int) := by rw [w64 _ (by omega) (by omega)]; omega
  have md : ∀ x : Int, 0 ≤ x → x < 1000000000 → Int.tmod x 65536 = x % 65536 ∧ IntKind.u64.wrap (Int.tdiv x 65536) = x / 65536 ∧ IntKind.u64.wrap x = x := fun x h0 h1 =>
    ⟨Int.tmod_eq_emod_of_nonneg h0, by rw [Int.tdiv_eq_ediv_of_nonneg h0]; exact u64_id _ (by omega) (by omega), u64_id _ h0 (by omega)⟩
  rw [lombardref01_Add.j1, if_pos rfl]
  by_cases h1 : (i : Int) < (a.length : Int)
  · rw [if_pos h1, if_pos (by omega)]
    by_cases h2 : (i : Int) < (b.length : Int)
    · rw [if_pos h2, if_pos (by omega), rd_nat, rd_nat, (md (c + a.getD i 0) (by omega) (by omega)).2.2]
      obtain ⟨m1, m2, m3⟩ := md (c + a.getD i 0 + b.getD i 0) (by omega) (by omega)
      rw [m3, m1, m2, e3]
    · have z : b.getD i 0 = 0 := getD_none b i (by omega)
      rw [if_neg h2, if_pos (by omega), rd_nat, z, Int.add_zero]
      obtain ⟨m1, m2, m3⟩ := md (c + a.getD i 0) (by omega) (by omega)
      rw [m3, m1, m2, e3]
  · have za : a.getD i 0 = 0 := getD_none a i (by omega)
    rw [if_neg h1]
    by_cases h2 : (i : Int) < (b.length : Int)
    · rw [if_pos h2, if_pos (by omega), if_pos (by omega), rd_nat, za, Int.add_zero]
      obtain ⟨m1, m2, m3⟩ := md (c + b.getD i 0) (by omega) (by omega)
      rw [m3, m1, m2, e3]
    · have z : b.getD i 0 = 0 := getD_none b i (by omega)
      rw [if_neg h2, if_pos (by omega), z, za, Int.add_zero, Int.add_zero]
      obtain ⟨m1, m2, m3⟩ := md c (by omega) (by omega)
      rw [m1, m2, e3]

theorem add_step (a b out : List Int) (c : Int) (i : Nat) (ha : Dig a) (hb : Dig b) (hc0 : 0 ≤ c) (hc1 : c ≤ 1) (hi : i < 1000000) (ho : out.length < 1000000) (act : i < a.length ∨ i < b.length ∨ 0 < c) {r : List Int}
    (h : Ev (fun k => lombardref01_Add.l0 k a b (out ++ [(c + a.getD i 0 + b.getD i 0) % 65536]) ((c + a.getD i 0 + b.getD i 0) / 65536) ((i + 1 : Nat) : Int)) r) :
    Ev (fun k => lombardref01_Add.l0 k a b out c (i : Int)) r := by
  refine Ev.step (fun k => ?_) (add_j1 a b out c i ha hb hc0 hc1 hi ho h)
  rw [lombardref01_Add.l0]
  by_cases h1 : (i : Int) < (a.length : Int)
  · rw [if_pos h1]
  · rw [if_neg h1]
    by_cases h2 : (i : Int) < (b.length : Int)
    · rw [if_pos h2]
    · rw [if_neg h2, decide_eq_true (by omega)]

theorem add_loop (a b : List Int) (ha : Dig a) (hb : Dig b) (M : Nat) (hM : M < 900000) (la : a.length ≤ M) (lb : b.length ≤ M) : ∀ (j i : Nat) (out : List Int) (c : Int), M + 1 = i + j → out.length = i → Dig out → 0 ≤ c → c ≤ 1 →
    V out + c * P i = V (a.take i) + V (b.take i) → ∃ r, Is r (V a + V b) ∧ r.length ≤ M + 1 ∧ Ev (fun k => lombardref01_Add.l0 k a b out c (i : Int)) r
  | j, i, out, c, hj, ho, hd, hc0, hc1, hv => by
    by_cases act : i < a.length ∨ i < b.length ∨ 0 < c
    · obtain ⟨j, rfl⟩ : ∃ n, j = n + 1 := by
        cases j with
        | succ n => exact ⟨n, rfl⟩
        | zero =>
          exfalso
          have hcp : 0 < c := by omega
          rw [List.take_of_length_le (by omega), List.take_of_length_le (by omega)] at hv
          have h1 := V_lt ha
          have h2 := V_lt hb
          have h3 := P_mono la
          have h4 := P_mono lb
          have h5 := V_nonneg hd
          have h6 : P i = 65536 * P M := by rw [show i = M + 1 by omega, P_succ]
          have h7 : 1 * P i ≤ c * P i := Int.mul_le_mul_of_nonneg_right (by omega) (by have := P_pos i; omega)
          have h8 := P_pos M
          omega
      have ga := ha.getD i
      have gb := hb.getD i
      have e : (c + a.getD i 0 + b.getD i 0) / 65536 * P (i + 1) + P i * ((c + a.getD i 0 + b.getD i 0) % 65536) = P i * (c + a.getD i 0 + b.getD i 0) := by
        rw [P_succ, ← Int.mul_assoc, Int.mul_comm _ (P i), ← Int.mul_add]
        have : (c + a.getD i 0 + b.getD i 0) / 65536 * 65536 + (c + a.getD i 0 + b.getD i 0) % 65536 = c + a.getD i 0 + b.getD i 0 := by omega
        rw [this]
      obtain ⟨r, hr, hl, hE⟩ := add_loop a b ha hb M hM la lb j (i + 1) (out ++ [(c + a.getD i 0 + b.getD i 0) % 65536]) ((c + a.getD i 0 + b.getD i 0) / 65536) (by omega) (by simp; omega)
        (hd.append (Dig.one (by omega) (by omega))) (by omega) (by omega)
        (by rw [V_append, V_one, V_take_succ, V_take_succ, ho]
            have e2 : P i * (c + a.getD i 0 + b.getD i 0) = c * P i + P i * a.getD i 0 + P i * b.getD i 0 := by rw [Int.mul_add, Int.mul_add, Int.mul_comm (P i) c]
            omega)
      exact ⟨r, hr, hl, add_step a b out c i ha hb hc0 hc1 (by omega) (by omega) act hE⟩
    · obtain rfl : c = 0 := by omega
      rw [List.take_of_length_le (by omega), List.take_of_length_le (by omega), Int.zero_mul, Int.add_zero] at hv
      obtain ⟨r, hr, hl, hE⟩ := trim_is out hd (by omega)
      rw [hv] at hr
      refine ⟨r, hr, by omega, Ev.step (f := fun k => lombardref01_Add.j1 k a b out 0 (i : Int) false) (fun k => ?_) (Ev.step (f := fun k => (lombardref01_trim.f k out).bind fun t283 => (some t283)) (fun k => ?_) (Ev.bind hE (Ev.now r)))⟩
      · rw [lombardref01_Add.l0, if_neg (by omega), if_neg (by omega)]; rfl
      · rw [lombardref01_Add.j1, if_neg (by decide)]

theorem add_is {a b : List Int} {m n : Int} (ha : Is a m) (hb : Is b n) (M : Nat) (hM : M < 900000) (la : a.length ≤ M) (lb : b.length ≤ M) :
    ∃ r, Is r (m + n) ∧ r.length ≤ M + 1 ∧ Ev (fun k => lombardref01_Add.f k a b) r := by
  obtain ⟨r, hr, hl, hE⟩ := add_loop a b ha.norm.dig hb.norm.dig M hM la lb (M + 1) 0 [] 0 (by omega) rfl Dig.nil (by decide) (by decide) rfl
  rw [ha.val, hb.val] at hr
  exact ⟨r, hr, hl, hE⟩

theorem sub_step (a b out : List Int) (c : Int) (i : Nat) (ha : Dig a) (hb : Dig b) (hc0 : 0 ≤ c) (hc1 : c ≤ 1) (hi : i < 1000000) (ho : out.length < 1000000) (hia : i < a.length) {r : List Int}
    (h : Ev (fun k => lombardref01_Sub.l0 k a b (out ++ [(a.getD i 0 + 65536 - c - b.getD i 0) % 65536]) (1 - (a.getD i 0 + 65536 - c - b.getD i 0) / 65536) ((i + 1 : Nat) : Int)) r) :
    Ev (fun k => lombardref01_Sub.l0 k a b out c (i : Int)) r := by
  have ga := ha.getD i
  have gb := hb.getD i
  refine Ev.step (fun k => ?_) h
  have e3 : wrap64 ((i : Int) + 1) = ((i + 1 : Nat) : Int) := by rw [w64 _ (by omega) (by omega)]; omega
  have md : ∀ x : Int, 0 ≤ x → x < 1000000000 → Int.tmod x 65536 = x % 65536 ∧ IntKind.u64.wrap (Int.tdiv x 65536) = x / 65536 ∧ IntKind.u64.wrap x = x := fun x h0 h1 =>
    ⟨Int.tmod_eq_emod_of_nonneg h0, by rw [Int.tdiv_eq_ediv_of_nonneg h0]; exact u64_id _ (by omega) (by omega), u64_id _ h0 (by omega)⟩
  rw [lombardref01_Sub.l0, if_pos (by omega), if_pos (by omega), rd_nat]
  have w1 := (md (a.getD i 0 + 65536) (by omega) (by omega)).2.2
  have w2 := (md (a.getD i 0 + 65536 - c) (by omega) (by omega)).2.2
  obtain ⟨m1, m2, m3⟩ := md (a.getD i 0 + 65536 - c - b.getD i 0) (by omega) (by omega)
  have w4 : IntKind.u64.wrap (1 - (a.getD i 0 + 65536 - c - b.getD i 0) / 65536) = 1 - (a.getD i 0 + 65536 - c - b.getD i 0) / 65536 := u64_id _ (by omega) (by omega)
  by_cases h2 : (i : Int) < (b.length : Int)
  · rw [if_pos h2, if_pos (by omega), rd_nat, w1, w2, m3, m1, m2, w4, e3]
  · have z : b.getD i 0 = 0 := getD_none b i (by omega)
    rw [z, Int.sub_zero] at m1 m2 m3 w4
    rw [if_neg h2, if_pos (by omega), w1, w2, m1, m2, w4, e3, z, Int.sub_zero]

theorem sub_loop (a b : List Int) (ha : Dig a) (hb : Dig b) (la : a.length < 900000) (hle : V b ≤ V a) (hlen : b.length ≤ a.length) : ∀ (j i : Nat) (out : List Int) (c : Int), a.length = i + j → out.length = i → Dig out → 0 ≤ c → c ≤ 1 →
    V out - c * P i = V (a.take i) - V (b.take i) → ∃ r, Is r (V a - V b) ∧ r.length ≤ a.length ∧ Ev (fun k => lombardref01_Sub.l0 k a b out c (i : Int)) r
  | 0, i, out, c, hj, ho, hd, hc0, hc1, hv => by
    rw [List.take_of_length_le (by omega), List.take_of_length_le (by omega)] at hv
    have h1 := V_lt hd
    rw [ho] at h1
    obtain rfl : c = 0 := by
      by_cases h : c = 1
      · subst h; omega
      · omega
    rw [Int.zero_mul, Int.sub_zero] at hv
    obtain ⟨r, hr, hl, hE⟩ := trim_is out hd (by omega)
    rw [hv] at hr
    refine ⟨r, hr, by omega, Ev.step (f := fun k => (lombardref01_trim.f k out).bind fun t222 => (some t222)) (fun k => ?_) (Ev.bind hE (Ev.now r))⟩
    rw [lombardref01_Sub.l0, if_neg (by omega)]
  | j + 1, i, out, c, hj, ho, hd, hc0, hc1, hv => by
    have ga := ha.getD i
    have gb := hb.getD i
    have e : P i * ((a.getD i 0 + 65536 - c - b.getD i 0) % 65536) - (1 - (a.getD i 0 + 65536 - c - b.getD i 0) / 65536) * P (i + 1) = P i * (a.getD i 0 - c - b.getD i 0) := by
      rw [P_succ, ← Int.mul_assoc, Int.mul_comm _ (P i), ← Int.mul_sub]
      have : (a.getD i 0 + 65536 - c - b.getD i 0) % 65536 - (1 - (a.getD i 0 + 65536 - c - b.getD i 0) / 65536) * 65536 = a.getD i 0 - c - b.getD i 0 := by omega
      rw [this]
    have e2 : P i * (a.getD i 0 - c - b.getD i 0) = P i * a.getD i 0 - c * P i - P i * b.getD i 0 := by rw [Int.mul_sub, Int.mul_sub, Int.mul_comm (P i) c]
    obtain ⟨r, hr, hl, hE⟩ := sub_loop a b ha hb la hle hlen j (i + 1) (out ++ [(a.getD i 0 + 65536 - c - b.getD i 0) % 65536]) (1 - (a.getD i 0 + 65536 - c - b.getD i 0) / 65536) (by omega) (by simp; omega)
      (hd.append (Dig.one (by omega) (by omega))) (by omega) (by omega)
      (by rw [V_append, V_one, V_take_succ, V_take_succ, ho]; omega)
    exact ⟨r, hr, hl, sub_step a b out c i ha hb hc0 hc1 (by omega) (by omega) (by omega) hE⟩

theorem sub_is {a b : List Int} {m n : Int} (ha : Is a m) (hb : Is b n) (la : a.length < 900000) (hle : n ≤ m) :
    ∃ r, Is r (m - n) ∧ r.length ≤ a.length ∧ Ev (fun k => lombardref01_Sub.f k a b) r := by
  have hlen : b.length ≤ a.length := by
    by_cases h : b.length ≤ a.length
    · exact h
    · have := ha.shorter hb (by omega); omega
  obtain ⟨r, hr, hl, hE⟩ := sub_loop a b ha.norm.dig hb.norm.dig la (by rw [ha.val, hb.val]; exact hle) hlen a.length 0 [] 0 (by omega) rfl Dig.nil (by decide) (by decide) rfl
  rw [ha.val, hb.val] at hr
  exact ⟨r, hr, hl, hE⟩

end Go.Proofs.Ytjbpblcohlainaa.Print

namespace Go.Proofs.Ytjbpblcohlainaa.Print
open Go.RowKit Go.Proofs.YtjbpblcohlainaaW.PrintWords Go.Proofs.YtjbpblcohlainaaW.PrintLast Go.Proofs.YtjbpblcohlainaaW.PrintMore Go.Pm.Arith Go.Pm.Big
set_option linter.unusedVariables false
set_option linter.unusedSimpArgs false

theorem md_small (x : Int) (h0 : 0 ≤ x) (h1 : x < 10000000000) : Int.tmod x 65536 = x % 65536 ∧ IntKind.u64.wrap (Int.tdiv x 65536) = x / 65536 ∧ IntKind.u64.wrap x = x := by
  refine ⟨Int.tmod_eq_emod_of_nonneg h0, ?_, ?_⟩
  · rw [Int.tdiv_eq_ediv_of_nonneg h0, u64_wrap]; omega
  · rw [u64_wrap]; omega

theorem prod_small {x y : Int} (hx : 0 ≤ x ∧ x < 65536) (hy : 0 ≤ y ∧ y < 65536) : 0 ≤ x * y ∧ x * y ≤ 4294836225 := by
  refine ⟨Int.mul_nonneg hx.1 hy.1, ?_⟩
  have := Int.mul_le_mul (a := x) (b := y) (c := 65535) (d := 65535) (by omega) (by omega) hy.1 (by decide)
  simpa using this

theorem mul_step (a b out : List Int) (c : Int) (i k : Nat) (ai bk o : Int) (hai : a.getD i 0 = ai) (hbk : b.getD k 0 = bk) (hob : out.getD (i + k) 0 = o) (ga : 0 ≤ ai ∧ ai < 65536) (gb : 0 ≤ bk ∧ bk < 65536) (go : 0 ≤ o ∧ o < 65536)
    (hc0 : 0 ≤ c) (hc1 : c ≤ 65535) (hi : i < a.length) (la : a.length < 1000000) (hk : i + k < out.length) (hk2 : k < 1000000)
    (act : k < b.length ∨ 0 < c) {r : List Int}
    (h : Ev (fun n => lombardref01_Mul.l1 n a b (out.set (i + k) ((o + c + ai * bk) % 65536)) (i : Int) ((o + c + ai * bk) / 65536) ((k + 1 : Nat) : Int)) r) :
    Ev (fun n => lombardref01_Mul.l1 n a b out (i : Int) c (k : Int)) r := by
  obtain ⟨p0, p1⟩ := prod_small ga gb
  have c1 : 0 ≤ ((i + k : Nat) : Int) := by omega
  have c2 : ((i + k : Nat) : Int) < (out.length : Int) := by omega
  have c3 : 0 ≤ (i : Int) := by omega
  have c4 : (i : Int) < (a.length : Int) := by omega
  have c5 : 0 ≤ (k : Int) := by omega
  have c6 : ¬ (k : Int) < (b.length : Int) → decide (c > 0) = true ∧ b.length ≤ k := fun h1 => ⟨decide_eq_true (by omega), by omega⟩
  have b1 : 0 ≤ o + c ∧ o + c < 10000000000 := by omega
  have b2 : ai * bk < 10000000000 := by omega
  have b3 : 0 ≤ o + c + ai * bk ∧ o + c + ai * bk < 10000000000 := by omega
  have b4 : (i : Int) + k < 9223372036854775808 ∧ (k : Int) + 1 < 9223372036854775808 ∧ (i : Int) + k = ((i + k : Nat) : Int) ∧ (k : Int) + 1 = ((k + 1 : Nat) : Int) := by omega
  have b5 : -9223372036854775808 ≤ (i : Int) + k ∧ -9223372036854775808 ≤ (k : Int) + 1 := by omega
  have e1 : wrap64 ((i : Int) + (k : Int)) = ((i + k : Nat) : Int) := (w64 _ b5.1 b4.1).trans b4.2.2.1
  have e3 : wrap64 ((k : Int) + 1) = ((k + 1 : Nat) : Int) := (w64 _ b5.2 b4.2.1).trans b4.2.2.2
  refine Ev.step (f := fun n => lombardref01_Mul.j2 n a b out (i : Int) c (k : Int) true) (fun n => ?_) (Ev.step (fun n => ?_) h)
  · rw [lombardref01_Mul.l1]
    by_cases h1 : (k : Int) < (b.length : Int)
    · rw [if_pos h1]
    · rw [if_neg h1, (c6 h1).1]
  · rw [lombardref01_Mul.j2, if_pos rfl, e1, if_pos c1, if_pos c2]
    by_cases h1 : (k : Int) < (b.length : Int)
    · obtain ⟨m1, m2, m3⟩ := md_small (o + c + ai * bk) b3.1 b3.2
      rw [if_pos h1, if_pos c3, if_pos c4, if_pos c5, rd_nat, rd_nat, rd_nat, hai, hbk, hob, (md_small _ b1.1 b1.2).2.2, (md_small _ p0 b2).2.2, m3, m1, m2, e3, Int.toNat_natCast]
    · have z : bk = 0 := by rw [← hbk]; exact getD_none b k (c6 h1).2
      obtain ⟨n1, n2, n3⟩ := md_small (o + c) b1.1 b1.2
      rw [if_neg h1, rd_nat, hob, n3, n1, n2, e3, Int.toNat_natCast, z, Int.mul_zero, Int.add_zero]

theorem mul_inner (a b : List Int) (i : Nat) (ai : Int) (hai : a.getD i 0 = ai) (ga : 0 ≤ ai ∧ ai < 65536) (hb : Dig b) (hi : i < a.length) (la : a.length < 900000) (lb : b.length < 90000) (X : Int)
    (hX : X + ai * V b * P i < P (i + 1 + b.length)) : ∀ (j k : Nat) (out : List Int) (c : Int), b.length + 1 = k + j → Dig out → out.length = a.length + b.length + 1 → 0 ≤ c → c ≤ 65535 →
      V out + c * P (i + k) = X + ai * V (b.take k) * P i →
      ∃ out', Dig out' ∧ out'.length = a.length + b.length + 1 ∧ V out' = X + ai * V b * P i ∧
        ∀ r, Ev (fun n => lombardref01_Mul.l0 n a b out' ((i + 1 : Nat) : Int)) r → Ev (fun n => lombardref01_Mul.l1 n a b out (i : Int) c (k : Int)) r
  | j, k, out, c, hj, hd, hl, hc0, hc1, hv => by
    by_cases act : k < b.length ∨ 0 < c
    · obtain ⟨j, rfl⟩ : ∃ n, j = n + 1 := by
        cases j with
        | succ n => exact ⟨n, rfl⟩
        | zero =>
          exfalso
          rw [List.take_of_length_le (by omega)] at hv
          have h5 := V_nonneg hd
          have h6 : P (i + k) = P (i + 1 + b.length) := by rw [show i + k = i + 1 + b.length by omega]
          have h7 : 1 * P (i + k) ≤ c * P (i + k) := Int.mul_le_mul_of_nonneg_right (by omega) (by have := P_pos (i + k); omega)
          omega
      obtain ⟨bk, hbk⟩ : ∃ x, b.getD k 0 = x := ⟨_, rfl⟩
      obtain ⟨o, hob⟩ : ∃ x, out.getD (i + k) 0 = x := ⟨_, rfl⟩
      have gb : 0 ≤ bk ∧ bk < 65536 := hbk ▸ hb.getD k
      have go : 0 ≤ o ∧ o < 65536 := hob ▸ hd.getD (i + k)
      obtain ⟨p0, p1⟩ := prod_small ga gb
      have hik : i + k < out.length := by omega
      have es := V_set out (i + k) ((o + c + ai * bk) % 65536) hik
      rw [hob] at es
      have e1 : ai * V (b.take (k + 1)) * P i = ai * V (b.take k) * P i + ai * bk * P (i + k) := by
        rw [V_take_succ, hbk, Int.mul_add, Int.add_mul, P_add, Int.mul_comm (P k) bk, ← Int.mul_assoc, Int.mul_assoc (ai * bk), Int.mul_comm (P k) (P i)]
      have e2 : ((o + c + ai * bk) % 65536 - o) * P (i + k) + (o + c + ai * bk) / 65536 * P (i + (k + 1)) = c * P (i + k) + ai * bk * P (i + k) := by
        have e4 : P (i + (k + 1)) = 65536 * P (i + k) := P_succ (i + k)
        rw [e4, ← Int.mul_assoc, ← Int.add_mul, ← Int.add_mul]
        generalize ai * bk = ab at *
        have : (o + c + ab) % 65536 - o + (o + c + ab) / 65536 * 65536 = c + ab := by omega
        rw [this]
      have b0 : 0 ≤ (o + c + ai * bk) % 65536 ∧ (o + c + ai * bk) % 65536 < 65536 ∧ 0 ≤ (o + c + ai * bk) / 65536 ∧ (o + c + ai * bk) / 65536 ≤ 65535 := by
        generalize ai * bk = ab at *
        omega
      obtain ⟨out', d', l', v', hE⟩ := mul_inner a b i ai hai ga hb hi la lb X hX j (k + 1) (out.set (i + k) ((o + c + ai * bk) % 65536)) ((o + c + ai * bk) / 65536) (by omega)
        (hd.set _ b0.1 b0.2.1) (by rw [List.length_set]; exact hl) b0.2.2.1 b0.2.2.2 (by rw [es, e1]; omega)
      exact ⟨out', d', l', v', fun r hr => mul_step a b out c i k ai bk o hai hbk hob ga gb go hc0 hc1 hi (by omega) hik (by omega) act (hE r hr)⟩
    · obtain rfl : c = 0 := by omega
      rw [List.take_of_length_le (by omega), Int.zero_mul, Int.add_zero] at hv
      refine ⟨out, hd, hl, hv, fun r hr => Ev.step (f := fun n => lombardref01_Mul.j2 n a b out (i : Int) 0 (k : Int) false) (fun n => ?_) (Ev.step (fun n => ?_) hr)⟩
      · rw [lombardref01_Mul.l1, if_neg (by omega)]; rfl
      · have e3 : wrap64 ((i : Int) + 1) = ((i + 1 : Nat) : Int) := by rw [w64 _ (by omega) (by omega)]; omega
        rw [lombardref01_Mul.j2, if_neg (by decide), e3]

theorem mul_lt {x y p q : Int} (hx : 0 ≤ x) (hxp : x < p) (hy : 0 ≤ y) (hyq : y < q) : x * y < p * q := by
  have h1 : x * y ≤ x * q := Int.mul_le_mul_of_nonneg_left (by omega) hx
  have h2 : x * q ≤ (p - 1) * q := Int.mul_le_mul_of_nonneg_right (by omega) (by omega)
  rw [Int.sub_mul, Int.one_mul] at h2
  omega

theorem mul_loop (a b : List Int) (ha : Dig a) (hb : Dig b) (la : a.length < 90000) (lb : b.length < 90000) : ∀ (j i : Nat) (out : List Int), a.length = i + j → Dig out → out.length = a.length + b.length + 1 → V out = V (a.take i) * V b →
    ∃ r, Is r (V a * V b) ∧ r.length ≤ a.length + b.length + 1 ∧ Ev (fun n => lombardref01_Mul.l0 n a b out (i : Int)) r
  | 0, i, out, hj, hd, hl, hv => by
    rw [List.take_of_length_le (by omega)] at hv
    obtain ⟨r, hr, hrl, hE⟩ := trim_is out hd (by omega)
    rw [hv] at hr
    refine ⟨r, hr, by omega, Ev.step (f := fun n => (lombardref01_trim.f n out).bind fun t139 => (some t139)) (fun n => ?_) (Ev.bind hE (Ev.now r))⟩
    rw [lombardref01_Mul.l0, if_neg (by omega)]
  | j + 1, i, out, hj, hd, hl, hv => by
    have e1 : V (a.take i) * V b + a.getD i 0 * V b * P i = V (a.take (i + 1)) * V b := by
      rw [V_take_succ, Int.add_mul, Int.mul_assoc, Int.mul_comm (V b) (P i), ← Int.mul_assoc, Int.mul_comm (a.getD i 0) (P i)]
    have hX : V (a.take i) * V b + a.getD i 0 * V b * P i < P (i + 1 + b.length) := by
      rw [e1, P_add]
      have h1 := V_lt (ha.take (i + 1))
      rw [List.length_take, Nat.min_eq_left (by omega)] at h1
      exact mul_lt (V_nonneg (ha.take _)) h1 (V_nonneg hb) (V_lt hb)
    obtain ⟨out', d', l', v', hE⟩ := mul_inner a b i _ rfl (ha.getD i) hb (by omega) (by omega) lb _ hX (b.length + 1) 0 out 0 (by omega) hd hl (by decide) (by decide) (by rw [Int.zero_mul, Int.add_zero, hv, List.take_zero]; show _ = _ + a.getD i 0 * 0 * P i; rw [Int.mul_zero, Int.zero_mul, Int.add_zero])
    rw [e1] at v'
    obtain ⟨r, hr, hrl, hE2⟩ := mul_loop a b ha hb la lb j (i + 1) out' (by omega) d' l' v'
    refine ⟨r, hr, hrl, Ev.step (fun n => ?_) (hE r hE2)⟩
    rw [lombardref01_Mul.l0, if_pos (by omega)]; rfl

theorem mul_is2 {a b : List Int} {m n : Int} (ha : Is a m) (hb : Is b n) (la : a.length < 90000) (lb : b.length < 90000) :
    ∃ r, Is r (m * n) ∧ r.length ≤ a.length + b.length + 1 ∧ Ev (fun k => lombardref01_Mul.f k a b) r := by
  obtain ⟨r, hr, hl, hE⟩ := mul_loop a b ha.norm.dig hb.norm.dig la lb a.length 0 (List.replicate (a.length + b.length + 1) 0) (by omega) (Dig.zeros _) (by simp) (by rw [V_zeros, List.take_zero]; show _ = 0 * _; rw [Int.zero_mul])
  rw [ha.val, hb.val] at hr
  refine ⟨r, hr, hl, Ev.congr (fun k => ?_) hE⟩
  have e1 : wrap64 ((a.length : Int) + (b.length : Int)) = (a.length : Int) + b.length := w64 _ (by omega) (by omega)
  have e2 : wrap64 ((a.length : Int) + (b.length : Int) + 1) = ((a.length + b.length + 1 : Nat) : Int) := by rw [w64 _ (by omega) (by omega)]; omega
  unfold lombardref01_Mul.f
  rw [e1, e2, if_pos (by omega), Int.toNat_natCast, if_pos (by omega)]; rfl

end Go.Proofs.Ytjbpblcohlainaa.Print

namespace Go.Proofs.Ytjbpblcohlainaa.Print
open Go.RowKit Go.Proofs.YtjbpblcohlainaaW.PrintWords Go.Proofs.YtjbpblcohlainaaW.PrintLast Go.Proofs.YtjbpblcohlainaaW.PrintMore Go.Pm.Arith Go.Pm.Big
set_option linter.unusedVariables false
set_option linter.unusedSimpArgs false

theorem wrap_half (x y : Int) (hx : 0 ≤ x) (hy : 0 ≤ y) (hx' : x ≤ 65536) (hy' : y ≤ 65536) : IntKind.u64.wrap (Int.tdiv (IntKind.u64.wrap (x + y)) 2) = (x + y) / 2 := by
  rw [u64_id (x + y) (by omega) (by omega), Int.tdiv_eq_ediv_of_nonneg (by omega), u64_id _ (by omega) (by omega)]

theorem wrap_sub (x y : Int) (hx : x ≤ y) (h0 : 0 ≤ x) (hy' : y ≤ 65536) : IntKind.u64.wrap (y - x) = y - x := u64_id _ (by omega) (by omega)

theorem div_bisect (a b q rest : List Int) (n R : Int) (i : Nat) (hb : Is b n) (hr : Is rest R) (lb : b.length < 1000) (lr : rest.length < 10000) (hi : i < q.length) :
    ∀ (j : Nat) (least most : Int), most - least ≤ 2 ^ j → 0 ≤ least → least < most → most ≤ 65536 → least * n ≤ R → R < most * n →
    ∃ x, 0 ≤ x ∧ x < 65536 ∧ x * n ≤ R ∧ R < (x + 1) * n ∧
      ∀ r, Ev (fun k => (lombardref01_Of.f k x).bind fun t242 => ((lombardref01_Mul.f k t242 b).bind fun t245 => ((lombardref01_Sub.f k rest t245).bind fun t248 => (lombardref01_Div.l0 k a b (q.set i x) t248 (wrap64 ((i : Int) - 1)))))) r →
        Ev (fun k => lombardref01_Div.l1 k a b q rest (i : Int) least most) r
  | j, least, most, hj, h0, h1, h2, h3, h4 => by
    by_cases c : most - least > 1
    · obtain ⟨j, rfl⟩ : ∃ i, j = i + 1 := ⟨j - 1, by cases j with | zero => simp at hj; omega | succ i => rfl⟩
      have e2 : (2 : Int) ^ (j + 1) = 2 ^ j * 2 := Int.pow_succ _ _
      have hp : (0 : Int) < 2 ^ j := Int.pow_pos (by decide)
      obtain ⟨t, ht, hl, hE⟩ := of_is ((least + most) / 2) (by omega) (by omega)
      obtain ⟨t2, ht2, hl2, hE2⟩ := mul_is2 ht hb (by omega) (by omega)
      obtain ⟨c2, k1, k2, hE3⟩ := compare_is ht2 hr (by omega) (by omega)
      have wh := wrap_half least most h0 (by omega) (by omega) h2
      have ws := wrap_sub least most (by omega) h0 h2
      have step : ∀ r, Ev (fun k => if c2 ≤ 0 then (lombardref01_Div.l1 k a b q rest (i : Int) ((least + most) / 2) most) else (lombardref01_Div.l1 k a b q rest (i : Int) least ((least + most) / 2))) r →
          Ev (fun k => lombardref01_Div.l1 k a b q rest (i : Int) least most) r := fun r h => by
        refine Ev.step (f := fun k => ((lombardref01_Of.f k ((least + most) / 2)).bind fun t251 => ((lombardref01_Mul.f k t251 b).bind fun t254 => ((lombardref01_Compare.f k t254 rest).bind fun t257 => (if t257 ≤ 0 then (lombardref01_Div.l1 k a b q rest (i : Int) ((least + most) / 2) most) else (lombardref01_Div.l1 k a b q rest (i : Int) least ((least + most) / 2))))))) (fun k => ?_) (Ev.bind hE (Ev.bind hE2 (Ev.bind hE3 h)))
        rw [lombardref01_Div.l1, ws, if_pos c, wh]
      by_cases c3 : (least + most) / 2 * n ≤ R
      · have c4 : c2 ≤ 0 := by omega
        obtain ⟨x, x0, x1, x2, x3, hx⟩ := div_bisect a b q rest n R i hb hr lb lr hi j ((least + most) / 2) most (by omega) (by omega) (by omega) h2 c3 h4
        exact ⟨x, x0, x1, x2, x3, fun r h => step r (Ev.congr (fun k => by rw [if_pos c4]) (hx r h))⟩
      · have c4 : ¬ c2 ≤ 0 := by omega
        obtain ⟨x, x0, x1, x2, x3, hx⟩ := div_bisect a b q rest n R i hb hr lb lr hi j least ((least + most) / 2) (by omega) h0 (by omega) (by omega) h3 (by omega)
        exact ⟨x, x0, x1, x2, x3, fun r h => step r (Ev.congr (fun k => by rw [if_neg c4]) (hx r h))⟩
    · obtain rfl : most = least + 1 := by omega
      have ws := wrap_sub least (least + 1) (by omega) h0 h2
      have hiz : (i : Int) < (q.length : Int) := by omega
      refine ⟨least, h0, by omega, h3, h4, fun r h => Ev.step (fun k => ?_) h⟩
      rw [lombardref01_Div.l1, ws, if_neg c, if_pos (Int.natCast_nonneg _), if_pos hiz, Int.toNat_natCast]

theorem div_loop (a b : List Int) (m n : Int) (ha : Is a m) (hb : Is b n) (hn : 0 < n) (la : a.length < 1000) (lb : b.length < 1000) : ∀ (i : Nat) (q rest : List Int) (R : Int), i ≤ a.length → Dig q → q.length = a.length →
    (∀ j, j < i → q.getD j 0 = 0) → Is rest R → R < n → V q * n + P i * R = P i * V (a.drop i) →
    ∃ q' r', Is q' (m / n) ∧ Is r' (m % n) ∧ q'.length ≤ a.length ∧ r'.length ≤ b.length ∧ Ev (fun k => lombardref01_Div.l0 k a b q rest ((i : Int) - 1)) (q', r')
  | 0, q, rest, R, hi, hd, hl, hz, hr, hR, hv => by
    obtain ⟨q', hq, hql, hE⟩ := trim_is q hd (by omega)
    have h0 := hr.nonneg
    rw [P_zero, Int.one_mul, Int.one_mul, List.drop_zero, ha.val] at hv
    have e1 : m / n = V q := by
      rw [← hv, Int.add_comm, Int.mul_comm, Int.add_mul_ediv_left _ _ (by omega), Int.ediv_eq_zero_of_lt h0 hR]; omega
    have e2 : m % n = R := by
      rw [← hv, Int.add_comm, Int.mul_comm, Int.add_mul_emod_self_left, Int.emod_eq_of_lt h0 hR]
    refine ⟨q', rest, e1 ▸ hq, e2 ▸ hr, by omega, hr.len_le (by have := hb.lt; omega), Ev.step (f := fun k => (lombardref01_trim.f k q).bind fun t228 => (some (t228, rest))) (fun k => ?_) (Ev.bind hE (Ev.now _))⟩
    rw [lombardref01_Div.l0, if_neg (by decide)]
  | i + 1, q, rest, R, hi, hd, hl, hz, hr, hR, hv => by
    have h0 := hr.nonneg
    have hia : i < a.length := by omega
    have hblt := hb.lt
    have lrest : rest.length ≤ b.length := hr.len_le (by omega)
    obtain ⟨d, hdd⟩ : ∃ x, a.getD i 0 = x := ⟨_, rfl⟩
    have gd : 0 ≤ d ∧ d < 65536 := hdd ▸ ha.norm.dig.getD i
    have da := V_drop a i hia
    rw [hdd] at da
    obtain ⟨t, ht, htl, hE⟩ := trim_is ([d] ++ rest) ((Dig.one gd.1 gd.2).append hr.norm.dig) (by simp; omega)
    have vt : V ([d] ++ rest) = d + 65536 * R := by rw [← hr.val]; rfl
    rw [vt] at ht
    have htl2 : t.length ≤ rest.length + 1 := by simpa using htl
    obtain ⟨x, x0, x1, x2, x3, hx⟩ := div_bisect a b q t n (d + 65536 * R) i hb ht lb (by omega) (by omega) 16 0 65536 (by decide) (by decide) (by decide) (by decide) (by omega) (by omega)
    obtain ⟨s, hs, hsl, hE2⟩ := of_is x x0 (by omega)
    obtain ⟨p, hp, hpl, hE3⟩ := mul_is2 hs hb (by omega) (by omega)
    obtain ⟨u, hu, hul, hE4⟩ := sub_is ht hp (by omega) x2
    have hzi : q.getD i 0 = 0 := hz i (by omega)
    have vs := V_set q i x (by omega)
    rw [hzi] at vs
    have xn : (x + 1) * n = x * n + n := by rw [Int.add_mul]; omega
    obtain ⟨q', r', h1, h2, h3, h4, hE5⟩ := div_loop a b m n ha hb hn la lb i (q.set i x) u (d + 65536 * R - x * n) (by omega) (hd.set i x0 x1) (by rw [List.length_set]; exact hl)
      (fun j hj => by rw [List.getD_eq_getElem?_getD, List.getElem?_set_ne (by omega), ← List.getD_eq_getElem?_getD]; exact hz j (by omega)) hu (by omega)
      (by
        rw [vs, da, Int.sub_zero, Int.add_mul, Int.mul_sub, Int.mul_add, Int.mul_add]
        rw [P_succ] at hv
        have g1 : x * P i * n = P i * (x * n) := by rw [Int.mul_comm x, Int.mul_assoc]
        have g2 : P i * (65536 * R) = 65536 * P i * R := by rw [← Int.mul_assoc, Int.mul_comm (P i) 65536]
        have g3 : P i * (65536 * V (a.drop (i + 1))) = 65536 * P i * V (a.drop (i + 1)) := by rw [← Int.mul_assoc, Int.mul_comm (P i) 65536]
        omega)
    refine ⟨q', r', h1, h2, h3, h4, ?_⟩
    have c1 : ((i + 1 : Nat) : Int) - 1 = (i : Int) := by omega
    have c2 : (i : Int) < (a.length : Int) := by omega
    have c3 : [d].length + rest.length < 17592186044416 := by simp; omega
    have c4 : -9223372036854775808 ≤ (i : Int) - 1 ∧ (i : Int) - 1 < 9223372036854775808 := by omega
    have fin := hx (q', r') (Ev.bind hE2 (Ev.bind hE3 (Ev.bind hE4 (Ev.congr (fun k => by rw [w64 _ c4.1 c4.2]) hE5))))
    refine Ev.step (f := fun k => (lombardref01_trim.f k ([d] ++ rest)).bind fun t238 => (lombardref01_Div.l1 k a b q t238 (i : Int) 0 65536)) (fun k => ?_) (Ev.bind hE fin)
    rw [lombardref01_Div.l0, c1, if_pos (Int.natCast_nonneg i), if_pos (Int.natCast_nonneg i), if_pos c2, rd_nat, hdd, Option.bind_some, if_pos c3]

theorem div_is2 {a b : List Int} {m n : Int} (ha : Is a m) (hb : Is b n) (hn : 0 < n) (la : a.length < 1000) (lb : b.length < 1000) :
    ∃ q r, Is q (m / n) ∧ Is r (m % n) ∧ q.length ≤ a.length ∧ r.length ≤ b.length ∧ Ev (fun k => lombardref01_Div.f k a b) (q, r) := by
  obtain ⟨q, r, h1, h2, h3, h4, hE⟩ := div_loop a b m n ha hb hn la lb a.length (List.replicate a.length 0) [] 0 (Nat.le_refl _) (Dig.zeros _) (by simp) (fun j hj => by rw [List.getD_eq_getElem?_getD, List.getElem?_replicate, if_pos hj]; rfl) Is.nil hn (by rw [V_zeros, V_drop_len]; simp)
  refine ⟨q, r, h1, h2, h3, h4, Ev.congr (fun k => ?_) hE⟩
  have c4 : -9223372036854775808 ≤ (a.length : Int) - 1 ∧ (a.length : Int) - 1 < 9223372036854775808 := by omega
  have c5 : a.length ≤ 35184372088832 := by omega
  unfold lombardref01_Div.f
  rw [if_pos (Int.natCast_nonneg _), Int.toNat_natCast, if_pos c5, w64 _ c4.1 c4.2]

theorem size_is2 (n : Int) (h₀ : -9223372036854775808 ≤ n) (h₁ : n < 9223372036854775808) : ∃ r, Is r (n.natAbs : Int) ∧ r.length ≤ 4 ∧ Ev (fun k => lombardref01_size.f k n) r := by
  obtain ⟨r, hr, hl, hE⟩ := of_is (n.natAbs : Int) (by omega) (by omega)
  refine ⟨r, hr, hl, Ev.congr (f := fun k => (lombardref01_Of.f k (n.natAbs : Int)).bind fun t => some t) (fun k => ?_) (Ev.bind hE (Ev.now r))⟩
  unfold lombardref01_size.f
  by_cases h1 : n = -9223372036854775808
  · subst h1; rfl
  · rw [if_neg h1]
    by_cases h2 : n < 0
    · have e1 : wrap64 (-n) = -n := w64 _ (by omega) (by omega)
      have e2 : IntKind.u64.wrap (-n) = (n.natAbs : Int) := by rw [u64_id _ (by omega) (by omega)]; omega
      rw [if_pos h2, e1, e2]
    · have e2 : IntKind.u64.wrap n = (n.natAbs : Int) := by rw [u64_id _ (by omega) (by omega)]; omega
      rw [if_neg h2, e2]

end Go.Proofs.Ytjbpblcohlainaa.Print
