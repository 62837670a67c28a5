/- Shows what a row of digits to the base 65536 is worth, and that a row with no 0 at its end is the only one of its worth. -/
import Derived.Laws.BitsLemmas
namespace Go.Pm.Big
set_option linter.unusedVariables false

def V : List Int → Int
  | [] => 0
  | d :: l => d + 65536 * V l

def Dig (l : List Int) : Prop := ∀ d ∈ l, 0 ≤ d ∧ d < 65536

def P (n : Nat) : Int := 65536 ^ n

theorem P_zero : P 0 = 1 := rfl
theorem P_succ (n : Nat) : P (n + 1) = 65536 * P n := by unfold P; rw [Int.pow_succ, Int.mul_comm]
theorem P_pos (n : Nat) : 0 < P n := Int.pow_pos (by decide)
theorem P_add (m n : Nat) : P (m + n) = P m * P n := by unfold P; exact Int.pow_add _ _ _
theorem P_mono {m n : Nat} (h : m ≤ n) : P m ≤ P n := by
  induction n with
  | zero => obtain rfl : m = 0 := by omega
            exact Int.le_refl _
  | succ n ih =>
    by_cases e : m = n + 1
    · subst e; exact Int.le_refl _
    · have := ih (by omega); have := P_pos n; rw [P_succ]; omega

theorem Dig.nil : Dig [] := fun _ h => by simp at h
theorem Dig.tail {d : Int} {l : List Int} (h : Dig (d :: l)) : Dig l := fun x hx => h x (List.mem_cons_of_mem _ hx)
theorem Dig.head {d : Int} {l : List Int} (h : Dig (d :: l)) : 0 ≤ d ∧ d < 65536 := h d List.mem_cons_self
theorem Dig.cons {d : Int} {l : List Int} (h0 : 0 ≤ d) (h1 : d < 65536) (h : Dig l) : Dig (d :: l) := by
  intro x hx
  rcases List.mem_cons.mp hx with e | e
  · subst e; exact ⟨h0, h1⟩
  · exact h x e
theorem Dig.append {a b : List Int} (ha : Dig a) (hb : Dig b) : Dig (a ++ b) := by
  intro x hx
  rcases List.mem_append.mp hx with e | e
  · exact ha x e
  · exact hb x e
theorem Dig.one {d : Int} (h0 : 0 ≤ d) (h1 : d < 65536) : Dig [d] := Dig.cons h0 h1 Dig.nil
theorem Dig.take {l : List Int} (h : Dig l) (n : Nat) : Dig (l.take n) := fun x hx => h x (List.mem_of_mem_take hx)
theorem Dig.getD {l : List Int} (h : Dig l) (i : Nat) : 0 ≤ l.getD i 0 ∧ l.getD i 0 < 65536 := by
  by_cases hi : i < l.length
  · rw [List.getD_eq_getElem?_getD, List.getElem?_eq_getElem hi]
    exact h _ (List.getElem_mem hi)
  · rw [List.getD_eq_getElem?_getD, List.getElem?_eq_none (by omega)]
    exact ⟨by decide, by decide⟩
theorem Dig.set {l : List Int} (h : Dig l) (i : Nat) {x : Int} (h0 : 0 ≤ x) (h1 : x < 65536) : Dig (l.set i x) := by
  intro y hy
  rcases List.mem_or_eq_of_mem_set hy with e | e
  · exact h y e
  · subst e; exact ⟨h0, h1⟩
theorem Dig.zeros (n : Nat) : Dig (List.replicate n 0) := fun x hx => by
  have := List.eq_of_mem_replicate hx
  subst this; exact ⟨by decide, by decide⟩

theorem V_nonneg : ∀ {l : List Int}, Dig l → 0 ≤ V l
  | [], _ => Int.le_refl _
  | d :: l, h => by
    have h1 := h.head
    have h2 := V_nonneg h.tail
    show 0 ≤ d + 65536 * V l
    omega

theorem V_lt : ∀ {l : List Int}, Dig l → V l < P l.length
  | [], _ => by decide
  | d :: l, h => by
    have h1 := h.head
    have h2 := V_lt h.tail
    show d + 65536 * V l < P (l.length + 1)
    rw [P_succ]; omega

theorem V_append : ∀ (a b : List Int), V (a ++ b) = V a + P a.length * V b
  | [], b => by show V b = 0 + P 0 * V b; rw [P_zero]; omega
  | d :: a, b => by
    show d + 65536 * V (a ++ b) = d + 65536 * V a + P (a.length + 1) * V b
    rw [V_append a b, P_succ, Int.mul_add, Int.mul_assoc]; omega

theorem V_one (d : Int) : V [d] = d := by show d + 65536 * 0 = d; omega

theorem V_zeros : ∀ n : Nat, V (List.replicate n 0) = 0
  | 0 => rfl
  | n + 1 => by
    rw [List.replicate_succ]
    show 0 + 65536 * V (List.replicate n 0) = 0
    rw [V_zeros n]; decide

theorem V_set : ∀ (l : List Int) (i : Nat) (x : Int), i < l.length → V (l.set i x) = V l + (x - l.getD i 0) * P i
  | d :: l, 0, x, _ => by
    show x + 65536 * V l = d + 65536 * V l + (x - (d :: l).getD 0 0) * P 0
    rw [P_zero]
    show x + 65536 * V l = d + 65536 * V l + (x - d) * 1
    omega
  | d :: l, i + 1, x, h => by
    have ih := V_set l i x (by simpa using h)
    show d + 65536 * V (l.set i x) = d + 65536 * V l + (x - (d :: l).getD (i + 1) 0) * P (i + 1)
    rw [ih, P_succ]
    show d + 65536 * (V l + (x - l.getD i 0) * P i) = d + 65536 * V l + (x - l.getD i 0) * (65536 * P i)
    have : (x - l.getD i 0) * (65536 * P i) = 65536 * ((x - l.getD i 0) * P i) := by
      rw [← Int.mul_assoc, Int.mul_comm _ 65536, Int.mul_assoc]
    rw [this, Int.mul_add]; omega

/-- Digit i, and what lies above it. -/
theorem V_drop : ∀ (l : List Int) (i : Nat), i < l.length → V (l.drop i) = l.getD i 0 + 65536 * V (l.drop (i + 1))
  | d :: l, 0, _ => rfl
  | d :: l, i + 1, h => by
    have := V_drop l i (by simpa using h)
    simpa using this

theorem V_take_drop (l : List Int) (i : Nat) (h : i ≤ l.length) : V l = V (l.take i) + P i * V (l.drop i) := by
  have e := V_append (l.take i) (l.drop i)
  rw [List.take_append_drop, List.length_take, Nat.min_eq_left h] at e
  exact e

theorem V_drop_len (l : List Int) : V (l.drop l.length) = 0 := by rw [List.drop_length]; rfl

structure Norm (l : List Int) : Prop where
  dig : Dig l
  last : l.length ≠ 0 → l.getD (l.length - 1) 0 ≠ 0

theorem Norm.nil : Norm [] := ⟨Dig.nil, fun h => absurd rfl h⟩

structure Is (l : List Int) (n : Int) : Prop where
  norm : Norm l
  val : V l = n

theorem Is.nil : Is [] 0 := ⟨Norm.nil, rfl⟩
theorem Is.nonneg {l : List Int} {n : Int} (h : Is l n) : 0 ≤ n := h.val ▸ V_nonneg h.norm.dig
theorem Is.lt {l : List Int} {n : Int} (h : Is l n) : n < P l.length := h.val ▸ V_lt h.norm.dig
theorem Is.ge {l : List Int} {n : Int} (h : Is l n) (hl : l.length ≠ 0) : P (l.length - 1) ≤ n := by
  have e := V_take_drop l (l.length - 1) (by omega)
  have d := V_drop l (l.length - 1) (by omega)
  have hz : l.length - 1 + 1 = l.length := by omega
  rw [hz, V_drop_len] at d
  have h1 := h.norm.dig.getD (l.length - 1)
  have h2 := h.norm.last hl
  have h3 := V_nonneg (h.norm.dig.take (l.length - 1))
  have h4 := P_pos (l.length - 1)
  rw [d, h.val] at e
  have h5 : P (l.length - 1) * 1 ≤ P (l.length - 1) * (l.getD (l.length - 1) 0 + 65536 * 0) := Int.mul_le_mul_of_nonneg_left (by omega) (by omega)
  omega

theorem Is.shorter {a b : List Int} {m n : Int} (ha : Is a m) (hb : Is b n) (h : a.length < b.length) : m < n := by
  have h1 := ha.lt
  have h2 := hb.ge (by omega)
  have h3 := P_mono (m := a.length) (n := b.length - 1) (by omega)
  omega

theorem Is.len_le {l : List Int} {n : Int} {L : Nat} (h : Is l n) (hn : n < P L) : l.length ≤ L := by
  by_cases hl : l.length ≤ L
  · exact hl
  · have h2 := h.ge (by omega)
    have h3 := P_mono (m := L) (n := l.length - 1) (by omega)
    omega

theorem Is.uniq : ∀ {a b : List Int} {n : Int}, Dig a → Dig b → a.length = b.length → V a = V b → a = b
  | [], [], _, _, _, _, _ => rfl
  | [], _ :: _, _, _, _, h, _ => by simp at h
  | _ :: _, [], _, _, _, h, _ => by simp at h
  | d :: a, e :: b, n, ha, hb, hl, hv => by
    have hv' : d + 65536 * V a = e + 65536 * V b := hv
    have h1 := ha.head
    have h2 := hb.head
    have : d = e := by omega
    subst this
    rw [Is.uniq (n := n) ha.tail hb.tail (by simpa using hl) (by omega)]

theorem Is.eq {a b : List Int} {n : Int} (ha : Is a n) (hb : Is b n) : a = b := by
  have hl : a.length = b.length := by
    rcases Nat.lt_trichotomy a.length b.length with h | h | h
    · have := ha.shorter hb h; omega
    · exact h
    · have := hb.shorter ha h; omega
  exact Is.uniq (n := n) ha.norm.dig hb.norm.dig hl (ha.val.trans hb.val.symm)

theorem Is.zero {l : List Int} (h : Is l 0) : l = [] := h.eq Is.nil

theorem take_getD (l : List Int) (n i : Nat) (h : i < n) : (l.take n).getD i 0 = l.getD i 0 := by
  rw [List.getD_eq_getElem?_getD, List.getD_eq_getElem?_getD, List.getElem?_take, if_pos h]

/-- What lies above a place, if all of it is 0. -/
theorem V_cut (l : List Int) (n : Nat) (hn : n ≤ l.length) (h : V (l.drop n) = 0) : V (l.take n) = V l := by
  have := V_take_drop l n hn
  rw [h] at this; omega

theorem Is.cut {l : List Int} (hd : Dig l) (n : Nat) (hn : n ≤ l.length) (h : V (l.drop n) = 0) (hz : n ≠ 0 → l.getD (n - 1) 0 ≠ 0) : Is (l.take n) (V l) := by
  have hlen : (l.take n).length = n := by rw [List.length_take, Nat.min_eq_left hn]
  refine ⟨⟨hd.take n, fun h1 => ?_⟩, V_cut l n hn h⟩
  rw [hlen] at h1 ⊢
  rw [take_getD l n (n - 1) (by omega)]
  exact hz h1

end Go.Pm.Big
namespace Go.Pm.Big

theorem getD_none (l : List Int) (i : Nat) (h : l.length ≤ i) : l.getD i 0 = 0 := by
  rw [List.getD_eq_getElem?_getD, List.getElem?_eq_none h]; rfl

theorem V_take_succ (l : List Int) (i : Nat) : V (l.take (i + 1)) = V (l.take i) + P i * l.getD i 0 := by
  by_cases h : i < l.length
  · have e : l.take (i + 1) = l.take i ++ [l.getD i 0] := by
      rw [List.take_add_one, List.getD_eq_getElem?_getD, List.getElem?_eq_getElem h]; rfl
    rw [e, V_append, V_one, List.length_take, Nat.min_eq_left (by omega)]
  · rw [getD_none l i (by omega), List.take_of_length_le (by omega), List.take_of_length_le (by omega)]; omega

theorem Is.cons {r : List Int} {m d : Int} (h : Is r m) (h0 : 0 ≤ d) (h1 : d < 65536) (hz : m = 0 → d ≠ 0) : Is (d :: r) (d + 65536 * m) := by
  refine ⟨⟨Dig.cons h0 h1 h.norm.dig, fun _ => ?_⟩, by rw [← h.val]; rfl⟩
  by_cases hr : r = []
  · subst hr
    exact hz (h.val ▸ rfl)
  · have hl : r.length ≠ 0 := fun e => hr (List.length_eq_zero_iff.mp e)
    have := h.norm.last hl
    have e : (d :: r).length - 1 = (r.length - 1) + 1 := by simp; omega
    rw [e]
    simpa using this

/-- Two rows with the same digits above a place, and a lesser digit there. -/
theorem V_below {a b : List Int} (ha : Dig a) (hb : Dig b) (i : Nat) (hia : i < a.length) (hib : i < b.length) (hd : V (a.drop (i + 1)) = V (b.drop (i + 1))) (hlt : a.getD i 0 < b.getD i 0) : V a < V b := by
  have e1 := V_take_drop a i (by omega)
  have e2 := V_take_drop b i (by omega)
  rw [V_drop a i hia] at e1
  rw [V_drop b i hib, ← hd] at e2
  have h1 := V_lt (ha.take i)
  rw [List.length_take, Nat.min_eq_left (by omega)] at h1
  have h2 := V_nonneg (hb.take i)
  have h3 := P_pos i
  have h4 : P i * (a.getD i 0 + 65536 * V (a.drop (i + 1))) + P i * 1 ≤ P i * (b.getD i 0 + 65536 * V (a.drop (i + 1))) := by
    rw [← Int.mul_add]
    exact Int.mul_le_mul_of_nonneg_left (by omega) (by omega)
  omega

end Go.Pm.Big
