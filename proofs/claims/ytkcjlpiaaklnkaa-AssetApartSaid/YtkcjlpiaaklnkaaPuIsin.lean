/- Shows that the check of a security's number, and of a currency's code, is the document's. -/
import Derived.Test.YtkcjlpiaaklnkaaPuCur
import Derived.Test.YtkcjlpiaaklnkaaGx0
import Derived.Test.YtkcjlpiaaklnkaaGx0
namespace Go.Proofs.Ytkcjlpiaaklnkaa
open Go Go.Pm Go.Pm.Arith
set_option linter.unusedVariables false
set_option linter.unusedSimpArgs false

def dgb (c : Int) : Bool := decide (c ≥ 48) && decide (c ≤ 57)
def upb (c : Int) : Bool := decide (c ≥ 65) && decide (c ≤ 90)
/-- The sign at a place. -/
def sg (s : Bs) (i : Nat) : Int := ((s.getD i 0).toNat : Int)
theorem byte_sg (s : Bs) (i : Nat) : byte s (i : Int) = sg s i := rfl
theorem sg_range (s : Bs) (i : Nat) : 0 ≤ sg s i ∧ sg s i < 256 := by
  have := (s.getD i 0).toNat_lt
  unfold sg; omega
/-- A sign's digits. -/
def dig (c : Int) : List Int := if dgb c = true then [c - 48] else [(c - 55) / 10, (c - 55) % 10]
/-- The digits of the first signs. -/
def digs (s : Bs) : Nat → List Int
  | 0 => []
  | n + 1 => digs s n ++ dig (sg s n)

def okb (c : Int) : Bool := dgb c || upb c
/-- All signs are letters or digits. -/
def Ok (s : Bs) (n : Nat) : Prop := ∀ k, k < n → okb (sg s k) = true

theorem dg_iff (c : Int) : dgb c = true ↔ 48 ≤ c ∧ c ≤ 57 := by unfold dgb; simp
theorem up_iff (c : Int) : upb c = true ↔ 65 ≤ c ∧ c ≤ 90 := by unfold upb; simp
theorem ok_iff (c : Int) : okb c = true ↔ (48 ≤ c ∧ c ≤ 57) ∨ (65 ≤ c ∧ c ≤ 90) := by unfold okb; rw [Bool.or_eq_true, dg_iff, up_iff]

theorem dig_len (c : Int) : (dig c).length ≤ 2 := by unfold dig; split <;> simp
theorem digs_len (s : Bs) : ∀ n, (digs s n).length ≤ 2 * n
  | 0 => Nat.le_refl _
  | n + 1 => by have := digs_len s n; have := dig_len (sg s n); simp only [digs, List.length_append]; omega
theorem dig_small (c : Int) (h : okb c = true) : ∀ d ∈ dig c, 0 ≤ d ∧ d ≤ 9 := by
  intro d hd
  rw [ok_iff] at h
  unfold dig at hd
  split at hd
  · rename_i g; rw [dg_iff] at g; simp at hd; omega
  · rename_i g; rw [dg_iff] at g; simp at hd; omega
theorem digs_small (s : Bs) : ∀ n, Ok s n → ∀ d ∈ digs s n, 0 ≤ d ∧ d ≤ 9
  | 0, _, d, hd => by cases hd
  | n + 1, h, d, hd => by
    rcases List.mem_append.1 hd with hd | hd
    · exact digs_small s n (fun k hk => h k (by omega)) d hd
    · exact dig_small _ (h n (by omega)) d hd

open Classical in
/-- The document's digits. -/
theorem digits_loop (s : Bs) (few : s.length ≤ 100) : ∀ (j i : Nat), s.length = i + j →
    loop (lombardref05_digits.r0 s) ((i : Int), digs s i) = some (if ∀ k, i ≤ k → k < s.length → okb (sg s k) = true then .inr (digs s s.length) else .inl ([], false))
  | 0, i, h => by
    have e : i = s.length := by omega
    subst e
    rw [if_pos (fun k h1 h2 => by omega)]
    refine loop_end ?_
    unfold lombardref05_digits.r0 lombardref05_digits.b0
    rw [if_neg (by simp)]
  | j + 1, i, h => by
    have r := sg_range s i
    have w : IntKind.i64.wrap (sg s i) = sg s i := i64_idz _ (by omega) (by omega)
    have len := digs_len s i
    have key : lombardref05_digits.r0 s ((i : Int), digs s i) = if okb (sg s i) = true then some (.inl (((i + 1 : Nat) : Int), digs s (i + 1))) else some (.inr (.inl ([], false))) := by
      unfold lombardref05_digits.r0 lombardref05_digits.b0
      simp only [byte_sg, w]
      rw [if_pos (decide_eq_true (by omega)), if_pos (by omega)]
      have e1 : (decide (sg s i ≥ 48) && decide (sg s i ≤ 57)) = dgb (sg s i) := rfl
      have e2 : (decide (sg s i ≥ 65) && decide (sg s i ≤ 90)) = upb (sg s i) := rfl
      rw [e1, e2]
      by_cases c : dgb (sg s i) = true
      · have c2 := (dg_iff _).1 c
        rw [if_pos c, if_pos (by simp; omega), if_pos (by unfold okb; rw [c]; rfl), i64_nx i (by omega), i64_idz (sg s i - 48) (by omega) (by omega)]
        simp only [digs, dig, c, if_true]
      · rw [if_neg c]
        by_cases c2 : upb (sg s i) = true
        · have c3 := (up_iff _).1 c2
          rw [if_pos c2, if_pos (by simp; omega), if_pos (by unfold okb; rw [c2]; simp), i64_nx i (by omega), i64_idz (sg s i - 65) (by omega) (by omega), i64_idz (sg s i - 65 + 10) (by omega) (by omega)]
          have e1 : Int.tdiv (sg s i - 65 + 10) 10 = (sg s i - 55) / 10 := by rw [Int.tdiv_eq_ediv_of_nonneg (by omega)]; omega
          have e2 : Int.tmod (sg s i - 65 + 10) 10 = (sg s i - 55) % 10 := by rw [Int.tmod_eq_emod_of_nonneg (by omega)]; omega
          rw [e1, e2, i64_idz _ (by omega) (by omega)]
          simp only [digs, dig, c]; rfl
        · rw [if_neg c2, if_neg (by unfold okb; simp [c, c2])]
    by_cases c : okb (sg s i) = true
    · rw [if_pos c] at key
      rw [loop_next key, digits_loop s few j (i + 1) (by omega)]
      congr 1
      by_cases d : ∀ k, i + 1 ≤ k → k < s.length → okb (sg s k) = true
      · rw [if_pos d, if_pos (fun k h1 h2 => by
          by_cases e : k = i
          · subst e; exact c
          · exact d k (by omega) h2)]
      · rw [if_neg d, if_neg (fun x => d (fun k h1 h2 => x k (by omega) h2))]
    · rw [if_neg c] at key
      rw [loop_end key, if_neg (fun x => c (x i (Nat.le_refl _) (by omega)))]

theorem digits_is (s : Bs) (few : s.length ≤ 100) : (Ok s s.length ∧ lombardref05_digits.f s = some (digs s s.length, true)) ∨ (¬ Ok s s.length ∧ lombardref05_digits.f s = some ([], false)) := by
  have h : loop (lombardref05_digits.r0 s) (0, []) = _ := digits_loop s few s.length 0 (by omega)
  unfold lombardref05_digits.f
  rw [h]
  by_cases d : Ok s s.length
  · rw [if_pos (fun k _ h2 => d k h2)]; exact .inl ⟨d, rfl⟩
  · rw [if_neg (fun x => d (fun k hk => x k (Nat.zero_le _) hk))]; exact .inr ⟨d, rfl⟩

/-- Digits added, each second one doubled. -/
def luhn : Bool → List Int → Int
  | _, [] => 0
  | tw, d :: r => (if tw = true then 2 * d / 10 + 2 * d % 10 else d) + luhn (!tw) r

theorem luhn_range : ∀ (l : List Int) (tw : Bool), (∀ d ∈ l, 0 ≤ d ∧ d ≤ 9) → 0 ≤ luhn tw l ∧ luhn tw l ≤ 9 * l.length
  | [], tw, _ => by simp [luhn]
  | d :: l, tw, h => by
    have h1 := luhn_range l (!tw) (fun x hx => h x (by simp [hx]))
    have h2 := h d (by simp)
    simp only [luhn, List.length_cons]
    split <;> omega

/-- The document's sum, from the last digit on. -/
theorem right_loop (l : List Int) (few : l.length ≤ 100) (sm : ∀ d ∈ l, 0 ≤ d ∧ d ≤ 9) (b : Bool) : ∀ (n i : Nat) (acc : Int), l.length = i + n → 0 ≤ acc → acc ≤ 9 * i →
    loop (lombardref05_right.r0 (l, b)) (acc, (i : Int)) = some (acc + luhn (i % 2 == 1) (l.take n).reverse)
  | 0, i, acc, h, _, _ => by
    have key : lombardref05_right.r0 (l, b) (acc, (i : Int)) = some (.inr acc) := by
      unfold lombardref05_right.r0 lombardref05_right.b0
      rw [if_neg (by simp; omega)]
    rw [loop_end key]; simp [luhn]
  | n + 1, i, acc, h, a0, a1 => by
    have hn : n < l.length := by omega
    have w1 : IntKind.i64.wrap (IntKind.i64.wrap ((l.length : Int) - 1) - (i : Int)) = (n : Int) := by
      rw [i64_idz ((l.length : Int) - 1) (by omega) (by omega), i64_idz _ (by omega) (by omega)]; omega
    have hd := sm (l.getD n 0) (by rw [List.getD_eq_getElem?_getD, List.getElem?_eq_getElem hn]; exact List.getElem_mem hn)
    have e : l.take (n + 1) = l.take n ++ [l.getD n 0] := by
      rw [List.take_add_one, List.getElem?_eq_getElem hn, List.getD_eq_getElem?_getD, List.getElem?_eq_getElem hn]; rfl
    have nn : nth l (n : Int) = l.getD n 0 := rfl
    have key : lombardref05_right.r0 (l, b) (acc, (i : Int)) = some (.inl (acc + (if (i % 2 == 1) = true then 2 * l.getD n 0 / 10 + 2 * l.getD n 0 % 10 else l.getD n 0), ((i + 1 : Nat) : Int))) := by
      unfold lombardref05_right.r0 lombardref05_right.b0
      simp only [w1, nn]
      generalize l.getD n 0 = d at hd
      rw [if_pos (decide_eq_true (by omega)), if_pos (by omega), i64_nx i (by omega)]
      have em : (Int.tmod (i : Int) 2 == 1) = (i % 2 == 1) := by
        rw [Int.tmod_eq_emod_of_nonneg (by omega)]
        by_cases c : i % 2 = 1
        · rw [show ((i : Int) % 2) = 1 by omega, c]; rfl
        · rw [show ((i : Int) % 2) = 0 by omega, show i % 2 = 0 by omega]; rfl
      rw [em]
      by_cases c : (i % 2 == 1) = true
      · rw [if_pos c, if_pos c, Option.bind_some, i64_idz (2 * d) (by omega) (by omega), Int.tdiv_eq_ediv_of_nonneg (by omega), Int.tmod_eq_emod_of_nonneg (by omega), i64_idz (2 * d / 10) (by omega) (by omega), i64_idz (acc + 2 * d / 10) (by omega) (by omega), i64_idz _ (by omega) (by omega), Int.add_assoc]
      · rw [if_neg c, if_neg c, Option.bind_some, Int.tdiv_eq_ediv_of_nonneg (by omega), Int.tmod_eq_emod_of_nonneg (by omega), i64_idz (d / 10) (by omega) (by omega), i64_idz (acc + d / 10) (by omega) (by omega), i64_idz _ (by omega) (by omega)]
        have e5 : acc + d / 10 + d % 10 = acc + d := by omega
        rw [e5]
    have bound : acc + (if (i % 2 == 1) = true then 2 * l.getD n 0 / 10 + 2 * l.getD n 0 % 10 else l.getD n 0) ≤ 9 * ((i + 1 : Nat) : Int) ∧ 0 ≤ acc + (if (i % 2 == 1) = true then 2 * l.getD n 0 / 10 + 2 * l.getD n 0 % 10 else l.getD n 0) := by
      split <;> omega
    rw [loop_next key, right_loop l few sm b n (i + 1) _ (by omega) bound.2 bound.1, e, List.reverse_append]
    simp only [List.reverse_cons, List.reverse_nil, List.nil_append, List.cons_append, luhn]
    have ep : (!(i % 2 == 1)) = ((i + 1) % 2 == 1) := by
      by_cases c : i % 2 = 1
      · rw [c, show (i + 1) % 2 = 0 by omega]; rfl
      · rw [show i % 2 = 0 by omega, show (i + 1) % 2 = 1 by omega]; rfl
    rw [ep, Int.add_assoc]

theorem right_is (s : Bs) (few : s.length ≤ 40) (ok : Ok s s.length) : lombardref05_right.f s = some (luhn false (digs s s.length).reverse % 10 == 0) := by
  rcases digits_is s (by omega) with ⟨_, e⟩ | ⟨h, _⟩
  · unfold lombardref05_right.f
    have len := digs_len s s.length
    have sm := digs_small s s.length ok
    have h : loop (lombardref05_right.r0 (digs s s.length, true)) (0, 0) = _ := right_loop (digs s s.length) (by omega) sm true (digs s s.length).length 0 0 (by omega) (by omega) (by omega)
    rw [List.take_length] at h
    have lr := luhn_range (digs s s.length).reverse false (fun d hd => sm d (List.mem_reverse.1 hd))
    rw [e, Option.bind_some, h, Option.bind_some]
    simp only [Bool.true_and, Int.zero_add]
    rw [show (0 % 2 == 1) = false from rfl, Int.tmod_eq_emod_of_nonneg lr.1]
  · exact absurd ok h

theorem digit_f (c : Int) : isin_digit.f c = some (dgb c) := rfl
theorem upper_f (c : Int) : isin_upper.f c = some (upb c) := rfl
/-- The program's sum. -/
theorem put_is (d acc : Int) (tw : Bool) (h0 : 0 ≤ d) (h1 : d ≤ 9) (a0 : 0 ≤ acc) (a1 : acc ≤ 100000) :
    isin_total_1.f d tw acc = some (!tw, acc + (if tw = true then 2 * d / 10 + 2 * d % 10 else d)) := by
  unfold isin_total_1.f
  by_cases c : tw = true
  · rw [if_pos c, if_pos c, i64_idz (d * 2) (by omega) (by omega), Int.tdiv_eq_ediv_of_nonneg (by omega), Int.tmod_eq_emod_of_nonneg (by omega), i64_idz (d * 2 / 10) (by omega) (by omega), i64_idz (d * 2 / 10 + d * 2 % 10) (by omega) (by omega), i64_idz _ (by omega) (by omega)]
    congr 3; omega
  · rw [if_neg c, if_neg c, i64_idz _ (by omega) (by omega)]

theorem total_loop (s : Bs) (few : s.length ≤ 40) : ∀ (n : Nat) (tw : Bool) (acc : Int), n ≤ s.length → Ok s n → 0 ≤ acc → acc + 20 * n ≤ 1000 →
    loop (isin_total.r0 s) ((n : Int) - 1, tw, acc) = some (acc + luhn tw (digs s n).reverse)
  | 0, tw, acc, _, _, _, _ => by
    have key : isin_total.r0 s (((0 : Nat) : Int) - 1, tw, acc) = some (.inr acc) := by
      unfold isin_total.r0 isin_total.b0
      rw [if_neg (by simp)]
    rw [loop_end key]; simp [luhn, digs]
  | n + 1, tw, acc, h, ok, a0, a1 => by
    have r := sg_range s n
    have hok := (ok_iff _).1 (ok n (by omega))
    have e0 : ((n + 1 : Nat) : Int) - 1 = (n : Int) := by omega
    rw [e0]
    have w2 : IntKind.i64.wrap ((n : Int) - 1) = (n : Int) - 1 := i64_idz _ (by omega) (by omega)
    by_cases c : dgb (sg s n) = true
    · have c2 := (dg_iff _).1 c
      have key : isin_total.r0 s ((n : Int), tw, acc) = some (.inl ((n : Int) - 1, !tw, acc + (if tw = true then 2 * (sg s n - 48) / 10 + 2 * (sg s n - 48) % 10 else (sg s n - 48)))) := by
        unfold isin_total.r0 isin_total.b0
        simp only [byte_sg, digit_f]
        rw [if_pos (decide_eq_true (by omega)), if_pos (by omega), Option.bind_some, if_pos c, if_pos (by omega), u8_id _ (by omega) (by omega), i64_idz (sg s n - 48) (by omega) (by omega), put_is _ _ _ (by omega) (by omega) a0 (by omega), Option.bind_some, w2]
      have b : 0 ≤ acc + (if tw = true then 2 * (sg s n - 48) / 10 + 2 * (sg s n - 48) % 10 else (sg s n - 48)) ∧ acc + (if tw = true then 2 * (sg s n - 48) / 10 + 2 * (sg s n - 48) % 10 else (sg s n - 48)) ≤ acc + 9 := by split <;> omega
      rw [loop_next key, total_loop s few n (!tw) _ (by omega) (fun k hk => ok k (by omega)) b.1 (by omega)]
      have e : dig (sg s n) = [sg s n - 48] := by unfold dig; rw [if_pos c]
      simp only [digs, e, List.reverse_append, List.reverse_cons, List.reverse_nil, List.nil_append, List.cons_append, luhn, Int.add_assoc]
    · have c2 : ¬ (48 ≤ sg s n ∧ sg s n ≤ 57) := fun x => c ((dg_iff _).2 x)
      have p1 := put_is ((sg s n - 55) % 10) acc tw (by omega) (by omega) a0 (by omega)
      have b1 : 0 ≤ acc + (if tw = true then 2 * ((sg s n - 55) % 10) / 10 + 2 * ((sg s n - 55) % 10) % 10 else ((sg s n - 55) % 10)) ∧ acc + (if tw = true then 2 * ((sg s n - 55) % 10) / 10 + 2 * ((sg s n - 55) % 10) % 10 else ((sg s n - 55) % 10)) ≤ acc + 9 := by split <;> omega
      have p2 := put_is ((sg s n - 55) / 10) (acc + (if tw = true then 2 * ((sg s n - 55) % 10) / 10 + 2 * ((sg s n - 55) % 10) % 10 else ((sg s n - 55) % 10))) (!tw) (by omega) (by omega) b1.1 (by omega)
      have b2 : 0 ≤ acc + (if tw = true then 2 * ((sg s n - 55) % 10) / 10 + 2 * ((sg s n - 55) % 10) % 10 else ((sg s n - 55) % 10)) + (if (!tw) = true then 2 * ((sg s n - 55) / 10) / 10 + 2 * ((sg s n - 55) / 10) % 10 else ((sg s n - 55) / 10)) ∧
          acc + (if tw = true then 2 * ((sg s n - 55) % 10) / 10 + 2 * ((sg s n - 55) % 10) % 10 else ((sg s n - 55) % 10)) + (if (!tw) = true then 2 * ((sg s n - 55) / 10) / 10 + 2 * ((sg s n - 55) / 10) % 10 else ((sg s n - 55) / 10)) ≤ acc + 18 := by
        have : 0 ≤ (if (!tw) = true then 2 * ((sg s n - 55) / 10) / 10 + 2 * ((sg s n - 55) / 10) % 10 else ((sg s n - 55) / 10)) ∧ (if (!tw) = true then 2 * ((sg s n - 55) / 10) / 10 + 2 * ((sg s n - 55) / 10) % 10 else ((sg s n - 55) / 10)) ≤ 9 := by split <;> omega
        omega
      have key : isin_total.r0 s ((n : Int), tw, acc) = some (.inl ((n : Int) - 1, !!tw, acc + (if tw = true then 2 * ((sg s n - 55) % 10) / 10 + 2 * ((sg s n - 55) % 10) % 10 else ((sg s n - 55) % 10)) + (if (!tw) = true then 2 * ((sg s n - 55) / 10) / 10 + 2 * ((sg s n - 55) / 10) % 10 else ((sg s n - 55) / 10)))) := by
        unfold isin_total.r0 isin_total.b0
        simp only [byte_sg, digit_f]
        have ew : IntKind.i64.wrap (IntKind.i64.wrap (IntKind.u8.wrap (sg s n - 65)) + 10) = sg s n - 55 := by
          rw [u8_id _ (by omega) (by omega), i64_idz (sg s n - 65) (by omega) (by omega), i64_idz _ (by omega) (by omega)]; omega
        rw [if_pos (decide_eq_true (by omega)), if_pos (by omega), Option.bind_some, if_neg c, if_pos (by omega), ew, Int.tmod_eq_emod_of_nonneg (by omega), Int.tdiv_eq_ediv_of_nonneg (by omega), i64_idz ((sg s n - 55) / 10) (by omega) (by omega), p1, Option.bind_some, p2, Option.bind_some, w2]
      rw [loop_next key, total_loop s few n (!!tw) _ (by omega) (fun k hk => ok k (by omega)) b2.1 (by omega)]
      have e : dig (sg s n) = [(sg s n - 55) / 10, (sg s n - 55) % 10] := by unfold dig; rw [if_neg c]
      simp only [digs, e, List.reverse_append, List.reverse_cons, List.reverse_nil, List.nil_append, List.cons_append, luhn, Int.add_assoc]

theorem total_is (s : Bs) (few : s.length ≤ 40) (ok : Ok s s.length) : isin_total.f s true = some (luhn true (digs s s.length).reverse) := by
  unfold isin_total.f
  rw [i64_idz _ (by omega) (by omega), total_loop s few s.length true 0 (Nat.le_refl _) ok (by omega) (by omega)]
  simp

open Classical in
/-- The program's shape. -/
theorem shape_loop (s : Bs) (few : s.length ≤ 40) : ∀ (j i : Nat), s.length = i + j →
    loop (isin_shape.r0 s) (i : Int) = some (if ∀ k, i ≤ k → k < s.length → (upb (sg s k) = true ∨ (2 ≤ k ∧ dgb (sg s k) = true)) then .inr () else .inl false)
  | 0, i, h => by
    rw [if_pos (fun k h1 h2 => by omega)]
    refine loop_end ?_
    unfold isin_shape.r0 isin_shape.b0
    rw [if_neg (by simp; omega)]
  | j + 1, i, h => by
    have key : isin_shape.r0 s (i : Int) = if (upb (sg s i) = true ∨ (2 ≤ i ∧ dgb (sg s i) = true)) then some (.inl ((i + 1 : Nat) : Int)) else some (.inr (.inl false)) := by
      unfold isin_shape.r0 isin_shape.b0
      simp only [byte_sg, digit_f, upper_f]
      rw [if_pos (decide_eq_true (by omega)), if_pos (by omega), Option.bind_some, if_pos (fun _ => by omega), i64_nx i (by omega)]
      show (if (!(upb (sg s i))) = true ∧ decide ((i : Int) < 2) = false then some (dgb (sg s i)) else some default).bind _ = _
      by_cases c : upb (sg s i) = true
      · rw [if_neg (fun h => by rw [c] at h; exact absurd h.1 (by decide)), if_pos (.inl c), Option.bind_some]
        rw [if_neg (fun h => by
          have h : ((!(upb (sg s i))) && _) = true := h
          rw [c] at h; simp at h)]
      · have c' : upb (sg s i) = false := by simpa using c
        by_cases d : i < 2
        · rw [if_neg (fun h => by have := h.2; simp at this; omega), Option.bind_some]
          rw [if_pos (by show ((!(upb (sg s i))) && (decide ((i : Int) < 2) || _)) = true; rw [c', decide_eq_true (by omega : (i : Int) < 2)]; rfl), if_neg (fun h => h.elim c (fun h => by omega))]
        · rw [if_pos ⟨by rw [c']; rfl, by simp; omega⟩, Option.bind_some]
          by_cases e : dgb (sg s i) = true
          · rw [if_neg (by show ¬ ((!(upb (sg s i))) && (decide ((i : Int) < 2) || !(dgb (sg s i)))) = true; rw [e]; simp; omega), if_pos (.inr ⟨by omega, e⟩)]
          · have e' : dgb (sg s i) = false := by simpa using e
            rw [if_pos (by show ((!(upb (sg s i))) && (decide ((i : Int) < 2) || !(dgb (sg s i)))) = true; rw [c', e']; simp), if_neg (fun h => h.elim c (fun h => e h.2))]
    by_cases c : (upb (sg s i) = true ∨ (2 ≤ i ∧ dgb (sg s i) = true))
    · rw [if_pos c] at key
      rw [loop_next key, shape_loop s few j (i + 1) (by omega)]
      congr 1
      by_cases d : ∀ k, i + 1 ≤ k → k < s.length → (upb (sg s k) = true ∨ (2 ≤ k ∧ dgb (sg s k) = true))
      · rw [if_pos d, if_pos (fun k h1 h2 => by
          by_cases e : k = i
          · subst e; exact c
          · exact d k (by omega) h2)]
      · rw [if_neg d, if_neg (fun x => d (fun k h1 h2 => x k (by omega) h2))]
    · rw [if_neg c] at key
      rw [loop_end key, if_neg (fun x => c (x i (Nat.le_refl _) (by omega)))]

/-- Of eleven signs both say the same of the shape. -/
theorem shapes (s : Bs) (h : s.length = 11) : ∃ b : Bool, (b = true → Ok s 11) ∧ isin_shape.f s = some b ∧ lombardref05_shaped.f s = some b := by
  have hl : loop (isin_shape.r0 s) 0 = _ := shape_loop s (by omega) s.length 0 (by omega)
  have r0 := sg_range s 0; have r1 := sg_range s 1
  have b0 : byte s 0 = sg s 0 := rfl
  have b1 : byte s 1 = sg s 1 := rfl
  have A : (Ok s s.length ∧ sg s 0 ≥ 65 ∧ sg s 1 ≥ 65) ↔ ∀ k, 0 ≤ k → k < s.length → (upb (sg s k) = true ∨ (2 ≤ k ∧ dgb (sg s k) = true)) := by
    constructor
    · rintro ⟨h1, h2, h3⟩ k _ hk
      have := (ok_iff _).1 (h1 k hk)
      rw [up_iff, dg_iff]
      rcases Nat.lt_or_ge k 2 with c | c
      · left
        have : k = 0 ∨ k = 1 := by omega
        rcases this with rfl | rfl <;> omega
      · omega
    · intro x
      refine ⟨fun k hk => ?_, ?_, ?_⟩
      · rw [ok_iff]
        have := x k (by omega) hk
        rw [up_iff, dg_iff] at this
        omega
      · have := x 0 (by omega) (by omega)
        rw [up_iff] at this; omega
      · have := x 1 (by omega) (by omega)
        rw [up_iff] at this; omega
  unfold isin_shape.f lombardref05_shaped.f
  rw [hl]
  rcases digits_is s (by omega) with ⟨d1, d2⟩ | ⟨d1, d2⟩
  · rw [d2]
    simp only [Option.bind_some, b0, b1]
    by_cases c : sg s 0 ≥ 65 ∧ sg s 1 ≥ 65
    · refine ⟨true, fun _ => by rw [← h]; exact d1, ?_, ?_⟩
      · rw [if_pos (A.1 ⟨d1, c⟩), h]; rfl
      · rw [if_pos (fun _ => by omega), if_pos (fun _ => by omega), h, decide_eq_true c.1, decide_eq_true c.2]; try rfl
    · refine ⟨false, nofun, ?_, ?_⟩
      · rw [if_neg (fun x => c (A.2 x).2)]
      · rw [if_pos (fun _ => by omega), if_pos (fun _ => by omega), h]
        congr 1
        simp; omega
  · refine ⟨false, nofun, ?_, ?_⟩
    · rw [if_neg (fun x => d1 (A.2 x).1)]; rfl
    · rw [d2]
      simp only [Option.bind_some]
      rw [if_pos (fun _ => by omega), if_pos (fun _ => by omega)]; rfl

theorem digs_take (s : Bs) (m : Nat) : ∀ n, n ≤ m → digs (s.take m) n = digs s n
  | 0, _ => rfl
  | n + 1, h => by
    simp only [digs]
    rw [digs_take s m n (by omega)]
    have : sg (s.take m) n = sg s n := by
      unfold sg
      rw [List.getD_eq_getElem?_getD, List.getElem?_take, if_pos (by omega), ← List.getD_eq_getElem?_getD]
    rw [this]

theorem check_is (s : Bs) : ∃ v : Int, isin_Check.f s = some v ∧ lombardref05_Check.f s = some v := by
  have b11 : byte s 11 = sg s 11 := rfl
  have r := sg_range s 11
  unfold isin_Check.f lombardref05_Check.f isin_digit.f
  simp only [b11]
  by_cases h : s.length = 12
  · have hl : ((s.length : Int) != 12) = false := by rw [h]; rfl
    have tk : List.take (Int.toNat 11 - Int.toNat 0) (List.drop (Int.toNat 0) s) = s.take 11 := rfl
    rw [hl, tk]
    rw [if_pos (fun _ => by omega), if_pos rfl, Option.bind_some, if_pos (fun _ => by omega), if_pos (fun _ => by omega), if_pos (fun _ => by omega)]
    simp only [Bool.false_or]
    by_cases c : dgb (sg s 11) = true
    · have c2 := (dg_iff _).1 c
      have c' : (decide (sg s 11 ≥ 48) && decide (sg s 11 ≤ 57)) = true := c
      rw [c', decide_eq_false (by omega : ¬ sg s 11 < 48), decide_eq_false (by omega : ¬ sg s 11 > 57)]
      rw [if_neg (by decide), if_pos (by omega), if_pos (by decide : (false || false) = false)]
      have l11 : (s.take 11).length = 11 := by rw [List.length_take]; omega
      obtain ⟨b, b1, b2, b3⟩ := shapes (s.take 11) l11
      rw [b3, Option.bind_some]
      unfold isin_Digit.f
      rw [b2, Option.bind_some]
      cases b with
      | false => exact ⟨11, rfl, rfl⟩
      | true =>
        have ok11 := b1 rfl
        have ok11s : Ok s 11 := fun k hk => by
          have := ok11 k hk
          unfold sg at this ⊢
          rwa [List.getD_eq_getElem?_getD, List.getElem?_take, if_pos hk, ← List.getD_eq_getElem?_getD] at this
        have ok12 : Ok s s.length := fun k hk => by
          by_cases e : k = 11
          · subst e; unfold okb; rw [c]; rfl
          · exact ok11s k (by omega)
        have ok11' : Ok (s.take 11) (s.take 11).length := by rw [l11]; exact ok11
        have d12 : digs s 12 = digs s 11 ++ [sg s 11 - 48] := by
          show digs s 11 ++ dig (sg s 11) = _
          unfold dig; rw [if_pos c]
        have sm := digs_small s 11 ok11s
        have lr := luhn_range (digs s 11).reverse true (fun d hd => sm d (List.mem_reverse.1 hd))
        rw [if_neg (by decide), total_is _ (by omega) ok11', l11, digs_take s 11 11 (Nat.le_refl _), Option.bind_some, if_neg (by decide), right_is s (by omega) ok12, h, d12, List.reverse_append]
        simp only [List.reverse_cons, List.reverse_nil, List.nil_append, List.cons_append, luhn, Option.bind_some, Bool.not_false, Bool.false_eq_true, if_false]
        generalize luhn true (digs s 11).reverse = u at lr
        rw [Int.tmod_eq_emod_of_nonneg lr.1, i64_idz (10 - u % 10) (by omega) (by omega), Int.tmod_eq_emod_of_nonneg (by omega), i64_idz (48 + (10 - u % 10) % 10) (by omega) (by omega), u8_id _ (by omega) (by omega), if_pos (fun _ => by omega)]
        by_cases g : 48 + (10 - u % 10) % 10 = sg s 11
        · refine ⟨0, ?_, ?_⟩
          · rw [if_neg (by rw [Bool.and_eq_true, bne_iff_ne]; exact fun h => h.2 g)]
          · rw [if_neg (by simp only [Bool.not_eq_true', beq_eq_false_iff_ne, ne_eq]; omega)]
        · refine ⟨12, ?_, ?_⟩
          · rw [if_pos (by rw [Bool.and_eq_true, bne_iff_ne]; exact ⟨rfl, g⟩)]
          · rw [if_pos (by simp only [Bool.not_eq_true', beq_eq_false_iff_ne, ne_eq]; omega)]
    · have c' : (decide (sg s 11 ≥ 48) && decide (sg s 11 ≤ 57)) = false := by
        have : dgb (sg s 11) = false := by simpa using c
        exact this
      have c2 : (decide (sg s 11 < 48) || decide (sg s 11 > 57)) = true := by
        have : ¬ (48 ≤ sg s 11 ∧ sg s 11 ≤ 57) := fun x => c ((dg_iff _).2 x)
        simp; omega
      rw [c', if_pos (by decide), c2, if_neg (by decide), Option.bind_some, if_pos (by simp)]
      exact ⟨11, rfl, rfl⟩
  · have hl : ((s.length : Int) != 12) = true := by simp; omega
    rw [hl]
    refine ⟨11, ?_, ?_⟩
    · rw [if_pos (fun x => by cases x), if_neg (by decide), Option.bind_some, if_pos (by simp)]
    · rw [if_pos (fun x => by cases x), if_pos (fun x => by simp at x), if_pos (fun x => by simp at x), if_neg (by simp), Option.bind_some, if_pos (by simp)]

/-- Both say the same of a security. -/
theorem asset_is (a : api_Asset) : ∃ v : Int, isin_Asset.f a = some v ∧ lombardref05_Asset.f a = some v := by
  obtain ⟨v, v1, v2⟩ := check_is a.ISIN
  obtain ⟨c1, c2⟩ := cur_is a.Currency
  unfold isin_Asset.f lombardref05_Asset.f
  rw [v1, v2, c1, c2]
  simp only [Option.bind_some]
  repeat' split
  all_goals exact ⟨_, rfl, rfl⟩

end Go.Proofs.Ytkcjlpiaaklnkaa

