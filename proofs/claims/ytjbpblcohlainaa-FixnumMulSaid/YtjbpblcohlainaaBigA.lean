/- Shows what the printed functions of the document's digit numbers tell: cut, digits of a number, comparison, sum, difference. -/

import Derived.Test.YtjbpblcohlainaaBigV
import Derived.Test.YtjbpblcohlainaaPmArith
import Derived.Test.YtjbpblcohlainaaPrintx3
import Derived.Test.YtjbpblcohlainaaPrintx2
import Derived.Test.YtjbpblcohlainaaPrintx4
import Derived.Test.YtjbpblcohlainaaPrintx5
import Derived.Test.YtjbpblcohlainaaPrintx24
import Derived.Test.YtjbpblcohlainaaPrintx20
namespace Go.Proofs.Ytjbpblcohlainaa.Print
open Go.RowKit Go.Proofs.YtjbpblcohlainaaW.PrintWords Go.Proofs.YtjbpblcohlainaaW.PrintLast Go.Proofs.YtjbpblcohlainaaW.PrintMore Go.Pm.Arith Go.Pm.Big
set_option linter.unusedVariables false
set_option linter.unusedSimpArgs false

theorem rd_nat (l : List Int) (n : Nat) : rd l (n : Int) = l.getD n 0 := by unfold rd; simp

theorem w64 (n : Int) (h₀ : -9223372036854775808 ≤ n) (h₁ : n < 9223372036854775808) : wrap64 n = n := by unfold wrap64; omega

theorem trim_loop (l : List Int) (hd : Dig l) (hl : l.length < 1000000) : ∀ n : Nat, n ≤ l.length → V (l.drop n) = 0 →
    ∃ r, Is r (V l) ∧ r.length ≤ l.length ∧ Ev (fun k => lombardref01_trim.l0 k l (n : Int)) r
  | 0, hn, hv => by
    refine ⟨l.take 0, Is.cut hd 0 hn hv (fun h => absurd rfl h), by simp, Ev.step (f := fun _ => some (l.take 0)) (fun k => ?_) (Ev.now _)⟩
    rw [lombardref01_trim.l0, if_neg (by decide), if_pos (by decide), if_pos (by omega)]; rfl
  | n + 1, hn, hv => by
    have e1 : wrap64 (((n + 1 : Nat) : Int) - 1) = (n : Int) := by rw [w64 _ (by omega) (by omega)]; omega
    have dr := V_drop l n (by omega)
    by_cases hz : l.getD n 0 = 0
    · obtain ⟨r, h1, h2, h3⟩ := trim_loop l hd hl n (by omega) (by rw [dr, hv, hz]; rfl)
      refine ⟨r, h1, h2, Ev.step (fun k => ?_) h3⟩
      rw [lombardref01_trim.l0, if_pos (by omega), e1, if_pos (by omega), if_pos (by omega), rd_nat, if_pos hz]
    · refine ⟨l.take (n + 1), Is.cut hd (n + 1) hn hv (fun _ => hz), by rw [List.length_take]; omega, Ev.step (f := fun _ => some (l.take (n + 1))) (fun k => ?_) (Ev.now _)⟩
      rw [lombardref01_trim.l0, if_pos (by omega), e1, if_pos (by omega), if_pos (by omega), rd_nat, if_neg hz, if_pos (by omega), if_pos (by omega)]; rfl

theorem trim_is (l : List Int) (hd : Dig l) (hl : l.length < 1000000) : ∃ r, Is r (V l) ∧ r.length ≤ l.length ∧ Ev (fun k => lombardref01_trim.f k l) r := by
  obtain ⟨r, h1, h2, h3⟩ := trim_loop l hd hl l.length (Nat.le_refl _) (V_drop_len l)
  exact ⟨r, h1, h2, h3⟩

theorem of_loop : ∀ (j : Nat) (n : Int) (acc : List Int), 0 ≤ n → n < 18446744073709551616 → n < P j → acc.length + j ≤ 1000 →
    ∃ r, Is r n ∧ r.length ≤ j ∧ Ev (fun k => lombardref01_Of.l0 k n acc) (acc ++ r)
  | j, n, acc, h0, h1, h2, h3 => by
    by_cases hn : n > 0
    · obtain ⟨j, rfl⟩ : ∃ i, j = i + 1 := ⟨j - 1, by cases j with | zero => rw [P_zero] at h2; omega | succ i => rfl⟩
      rw [P_succ] at h2
      have e1 : Int.tdiv n 65536 = n / 65536 := Int.tdiv_eq_ediv_of_nonneg h0
      have e2 : Int.tmod n 65536 = n % 65536 := Int.tmod_eq_emod_of_nonneg h0
      have e3 : IntKind.u64.wrap (n / 65536) = n / 65536 := u64_id _ (by omega) (by omega)
      obtain ⟨r, hr, hl, hE⟩ := of_loop j (n / 65536) (acc ++ [n % 65536]) (by omega) (by omega) (by omega) (by simp; omega)
      refine ⟨n % 65536 :: r, ?_, by simp; omega, Ev.step (fun k => ?_) (by simpa using hE)⟩
      · have := hr.cons (d := n % 65536) (by omega) (by omega) (fun e => by omega)
        rwa [show n % 65536 + 65536 * (n / 65536) = n by omega] at this
      · rw [lombardref01_Of.l0, if_pos hn, if_pos (by omega), e1, e2, e3]
    · obtain rfl : n = 0 := by omega
      refine ⟨[], Is.nil, by simp, Ev.step (f := fun _ => some acc) (fun k => ?_) (by simpa using Ev.now acc)⟩
      rw [lombardref01_Of.l0, if_neg hn]

theorem of_is (n : Int) (h0 : 0 ≤ n) (h1 : n < 18446744073709551616) : ∃ r, Is r n ∧ r.length ≤ 4 ∧ Ev (fun k => lombardref01_Of.f k n) r := by
  obtain ⟨r, hr, hl, hE⟩ := of_loop 4 n [] h0 h1 (by unfold P; omega) (by decide)
  rw [List.nil_append] at hE
  exact ⟨r, hr, hl, hE⟩

theorem two_loop (hi : Int) (h0 : 0 ≤ hi) (h1 : hi < 18446744073709551616) : ∀ (j : Nat) (l : List Int), Dig l → l.length + j = 4 →
    ∃ r, Is r (V l + 18446744073709551616 * hi) ∧ r.length ≤ 8 ∧ Ev (fun k => lombardref01_Two.l0 k hi l) r
  | 0, l, hd, hj => by
    obtain ⟨t, ht, hl, hE⟩ := of_is hi h0 h1
    obtain ⟨r, hr, hl2, hE2⟩ := trim_is (l ++ t) (hd.append ht.norm.dig) (by simp; omega)
    rw [V_append, ht.val, show P l.length = 18446744073709551616 by rw [show l.length = 4 by omega]; decide] at hr
    refine ⟨r, hr, by simp at hl2; omega, Ev.step (f := fun k => (lombardref01_Of.f k hi).bind fun t117 => (if l.length + t117.length < 17592186044416 then ((lombardref01_trim.f k (l ++ t117)).bind fun t123 => (some t123)) else (none))) (fun k => ?_) ?_⟩
    · rw [lombardref01_Two.l0, if_neg (by omega)]
    · refine Ev.bind hE (Ev.congr (f := fun n => (lombardref01_trim.f n (l ++ t)).bind fun t123 => some t123) (fun k => by rw [if_pos (by omega)]) (Ev.bind hE2 (Ev.now r)))
  | j + 1, l, hd, hj => by
    obtain ⟨r, hr, hl, hE⟩ := two_loop hi h0 h1 j (l ++ [0]) (hd.append (Dig.one (by decide) (by decide))) (by simp; omega)
    rw [V_append, V_one, Int.mul_zero, Int.add_zero] at hr
    refine ⟨r, hr, hl, Ev.step (fun k => ?_) hE⟩
    rw [lombardref01_Two.l0, if_pos (by omega), if_pos (by omega)]

theorem two_is (hi lo : Int) (h0 : 0 ≤ hi) (h1 : hi < 18446744073709551616) (l0 : 0 ≤ lo) (l1 : lo < 18446744073709551616) :
    ∃ r, Is r (hi * 18446744073709551616 + lo) ∧ r.length ≤ 8 ∧ Ev (fun k => lombardref01_Two.f k hi lo) r := by
  obtain ⟨t, ht, hl, hE⟩ := of_is lo l0 l1
  obtain ⟨r, hr, hl2, hE2⟩ := two_loop hi h0 h1 (4 - t.length) t ht.norm.dig (by omega)
  rw [ht.val, show lo + 18446744073709551616 * hi = hi * 18446744073709551616 + lo by omega] at hr
  exact ⟨r, hr, hl2, Ev.bind hE hE2⟩

theorem compare_loop (a b : List Int) (ha : Dig a) (hb : Dig b) (hl : a.length = b.length) (hs : a.length < 1000000) : ∀ i : Nat, i ≤ a.length → V (a.drop i) = V (b.drop i) →
    ∃ c, (c < 0 ↔ V a < V b) ∧ (c = 0 ↔ V a = V b) ∧ -1 ≤ c ∧ c ≤ 1 ∧ Ev (fun k => lombardref01_Compare.l0 k a b ((i : Int) - 1)) c
  | 0, hi, hv => by
    have hv' : V a = V b := by simpa using hv
    refine ⟨0, by omega, by omega, by omega, by omega, Ev.step (f := fun _ => some 0) (fun k => ?_) (Ev.now _)⟩
    rw [lombardref01_Compare.l0, if_neg (by decide)]
  | i + 1, hi, hv => by
    have da := V_drop a i (by omega)
    have db := V_drop b i (by omega)
    have e0 : ((i + 1 : Nat) : Int) - 1 = (i : Int) := by omega
    have e1 : wrap64 ((i : Int) - 1) = (i : Int) - 1 := w64 _ (by omega) (by omega)
    rw [e0]
    by_cases h1 : a.getD i 0 < b.getD i 0
    · have := V_below ha hb i (by omega) (by omega) hv h1
      refine ⟨-1, by omega, by omega, by omega, by omega, Ev.step (f := fun _ => some (-1)) (fun k => ?_) (Ev.now _)⟩
      rw [lombardref01_Compare.l0, if_pos (by omega), if_pos (by omega), if_pos (by omega), if_pos (by omega), rd_nat, rd_nat, if_pos h1]
    · by_cases h2 : a.getD i 0 > b.getD i 0
      · have := V_below hb ha i (by omega) (by omega) hv.symm h2
        refine ⟨1, by omega, by omega, by omega, by omega, Ev.step (f := fun _ => some 1) (fun k => ?_) (Ev.now _)⟩
        rw [lombardref01_Compare.l0, if_pos (by omega), if_pos (by omega), if_pos (by omega), if_pos (by omega), rd_nat, rd_nat, if_neg h1, if_pos h2]
      · obtain ⟨c, c1, c2, c3, c4, hE⟩ := compare_loop a b ha hb hl hs i (by omega) (by rw [da, db, hv]; omega)
        refine ⟨c, c1, c2, c3, c4, Ev.step (fun k => ?_) hE⟩
        rw [lombardref01_Compare.l0, if_pos (by omega), if_pos (by omega), if_pos (by omega), if_pos (by omega), rd_nat, rd_nat, if_neg h1, if_neg h2, e1]

theorem compare_is {a b : List Int} {m n : Int} (ha : Is a m) (hb : Is b n) (la : a.length < 1000000) (lb : b.length < 1000000) :
    ∃ c, (c < 0 ↔ m < n) ∧ (c = 0 ↔ m = n) ∧ Ev (fun k => lombardref01_Compare.f k a b) c := by
  by_cases hl : (a.length : Int) = (b.length : Int)
  · obtain ⟨c, c1, c2, _, _, hE⟩ := compare_loop a b ha.norm.dig hb.norm.dig (by omega) la a.length (Nat.le_refl _) (by rw [V_drop_len, show a.length = b.length by omega, V_drop_len])
    rw [ha.val, hb.val] at c1 c2
    refine ⟨c, c1, c2, Ev.congr (fun k => ?_) hE⟩
    unfold lombardref01_Compare.f
    rw [if_pos hl, w64 _ (by omega) (by omega)]
  · refine ⟨(a.length : Int) - b.length, ?_, ?_, Ev.congr (fun k => ?_) (Ev.now _)⟩
    · constructor
      · intro h; exact ha.shorter hb (by omega)
      · intro h
        by_cases h2 : a.length < b.length
        · omega
        · have := hb.shorter ha (by omega); omega
    · constructor
      · intro h; omega
      · intro h
        have := ha.eq (h ▸ hb)
        subst this; omega
    · unfold lombardref01_Compare.f
      rw [if_neg hl, w64 _ (by omega) (by omega)]

theorem add_j1 (a b out : List Int) (c : Int) (i : Nat) (ha : Dig a) (hb : Dig b) (hc0 : 0 ≤ c) (hc1 : c ≤ 1) (hi : i < 1000000) (ho : out.length < 1000000) {r : List Int}
    (h : Ev (fun k => lombardref01_Add.l0 k a b (out ++ [(c + a.getD i 0 + b.getD i 0) % 65536]) ((c + a.getD i 0 + b.getD i 0) / 65536) ((i + 1 : Nat) : Int)) r) :
    Ev (fun k => lombardref01_Add.j1 k a b out c (i : Int) true) r := by
  have ga := ha.getD i
  have gb := hb.getD i
  refine Ev.step (fun k => ?_) h
  have e3 : wrap64 ((i : Int) + 1) = ((i + 1 : Nat) : Int) := by rw [w64 _ (by omega) (by omega)]; omega
  have md : ∀ x : Int, 0 ≤ x → x < 1000000000 → Int.tmod x 65536 = x % 65536 ∧ IntKind.u64.wrap (Int.tdiv x 65536) = x / 65536 ∧ IntKind.u64.wrap x = x := fun x h0 h1 =>
    ⟨Int.tmod_eq_emod_of_nonneg h0, by rw [Int.tdiv_eq_ediv_of_nonneg h0]; exact u64_id _ (by omega) (by omega), u64_id _ h0 (by omega)⟩
  rw [lombardref01_Add.j1, if_pos rfl]
  by_cases h1 : (i : Int) < (a.length : Int)
  · rw [if_pos h1, if_pos (by omega)]
    by_cases h2 : (i : Int) < (b.length : Int)
    · rw [if_pos h2, if_pos (by omega), rd_nat, rd_nat, (md (c + a.getD i 0) (by omega) (by omega)).2.2]
      obtain ⟨m1, m2, m3⟩ := md (c + a.getD i 0 + b.getD i 0) (by omega) (by omega)
      rw [m3, m1, m2, e3]
    · have z : b.getD i 0 = 0 := getD_none b i (by omega)
      rw [if_neg h2, if_pos (by omega), rd_nat, z, Int.add_zero]
      obtain ⟨m1, m2, m3⟩ := md (c + a.getD i 0) (by omega) (by omega)
      rw [m3, m1, m2, e3]
  · have za : a.getD i 0 = 0 := getD_none a i (by omega)
    rw [if_neg h1]
    by_cases h2 : (i : Int) < (b.length : Int)
    · rw [if_pos h2, if_pos (by omega), if_pos (by omega), rd_nat, za, Int.add_zero]
      obtain ⟨m1, m2, m3⟩ := md (c + b.getD i 0) (by omega) (by omega)
      rw [m3, m1, m2, e3]
    · have z : b.getD i 0 = 0 := getD_none b i (by omega)
      rw [if_neg h2, if_pos (by omega), z, za, Int.add_zero, Int.add_zero]
      obtain ⟨m1, m2, m3⟩ := md c (by omega) (by omega)
      rw [m1, m2, e3]

theorem add_step (a b out : List Int) (c : Int) (i : Nat) (ha : Dig a) (hb : Dig b) (hc0 : 0 ≤ c) (hc1 : c ≤ 1) (hi : i < 1000000) (ho : out.length < 1000000) (act : i < a.length ∨ i < b.length ∨ 0 < c) {r : List Int}
    (h : Ev (fun k => lombardref01_Add.l0 k a b (out ++ [(c + a.getD i 0 + b.getD i 0) % 65536]) ((c + a.getD i 0 + b.getD i 0) / 65536) ((i + 1 : Nat) : Int)) r) :
    Ev (fun k => lombardref01_Add.l0 k a b out c (i : Int)) r := by
  refine Ev.step (fun k => ?_) (add_j1 a b out c i ha hb hc0 hc1 hi ho h)
  rw [lombardref01_Add.l0]
  by_cases h1 : (i : Int) < (a.length : Int)
  · rw [if_pos h1]
  · rw [if_neg h1]
    by_cases h2 : (i : Int) < (b.length : Int)
    · rw [if_pos h2]
    · rw [if_neg h2, decide_eq_true (by omega)]

theorem add_loop (a b : List Int) (ha : Dig a) (hb : Dig b) (M : Nat) (hM : M < 900000) (la : a.length ≤ M) (lb : b.length ≤ M) : ∀ (j i : Nat) (out : List Int) (c : Int), M + 1 = i + j → out.length = i → Dig out → 0 ≤ c → c ≤ 1 →
    V out + c * P i = V (a.take i) + V (b.take i) → ∃ r, Is r (V a + V b) ∧ r.length ≤ M + 1 ∧ Ev (fun k => lombardref01_Add.l0 k a b out c (i : Int)) r
  | j, i, out, c, hj, ho, hd, hc0, hc1, hv => by
    by_cases act : i < a.length ∨ i < b.length ∨ 0 < c
    · obtain ⟨j, rfl⟩ : ∃ n, j = n + 1 := by
        cases j with
        | succ n => exact ⟨n, rfl⟩
        | zero =>
          exfalso
          have hcp : 0 < c := by omega
          rw [List.take_of_length_le (by omega), List.take_of_length_le (by omega)] at hv
          have h1 := V_lt ha
          have h2 := V_lt hb
          have h3 := P_mono la
          have h4 := P_mono lb
          have h5 := V_nonneg hd
          have h6 : P i = 65536 * P M := by rw [show i = M + 1 by omega, P_succ]
          have h7 : 1 * P i ≤ c * P i := Int.mul_le_mul_of_nonneg_right (by omega) (by have := P_pos i; omega)
          have h8 := P_pos M
          omega
      have ga := ha.getD i
      have gb := hb.getD i
      have e : (c + a.getD i 0 + b.getD i 0) / 65536 * P (i + 1) + P i * ((c + a.getD i 0 + b.getD i 0) % 65536) = P i * (c + a.getD i 0 + b.getD i 0) := by
        rw [P_succ, ← Int.mul_assoc, Int.mul_comm _ (P i), ← Int.mul_add]
        have : (c + a.getD i 0 + b.getD i 0) / 65536 * 65536 + (c + a.getD i 0 + b.getD i 0) % 65536 = c + a.getD i 0 + b.getD i 0 := by omega
        rw [this]
      obtain ⟨r, hr, hl, hE⟩ := add_loop a b ha hb M hM la lb j (i + 1) (out ++ [(c + a.getD i 0 + b.getD i 0) % 65536]) ((c + a.getD i 0 + b.getD i 0) / 65536) (by omega) (by simp; omega)
        (hd.append (Dig.one (by omega) (by omega))) (by omega) (by omega)
        (by rw [V_append, V_one, V_take_succ, V_take_succ, ho]
            have e2 : P i * (c + a.getD i 0 + b.getD i 0) = c * P i + P i * a.getD i 0 + P i * b.getD i 0 := by rw [Int.mul_add, Int.mul_add, Int.mul_comm (P i) c]
            omega)
      exact ⟨r, hr, hl, add_step a b out c i ha hb hc0 hc1 (by omega) (by omega) act hE⟩
    · obtain rfl : c = 0 := by omega
      rw [List.take_of_length_le (by omega), List.take_of_length_le (by omega), Int.zero_mul, Int.add_zero] at hv
      obtain ⟨r, hr, hl, hE⟩ := trim_is out hd (by omega)
      rw [hv] at hr
      refine ⟨r, hr, by omega, Ev.step (f := fun k => lombardref01_Add.j1 k a b out 0 (i : Int) false) (fun k => ?_) (Ev.step (f := fun k => (lombardref01_trim.f k out).bind fun t283 => (some t283)) (fun k => ?_) (Ev.bind hE (Ev.now r)))⟩
      · rw [lombardref01_Add.l0, if_neg (by omega), if_neg (by omega)]; rfl
      · rw [lombardref01_Add.j1, if_neg (by decide)]

theorem add_is {a b : List Int} {m n : Int} (ha : Is a m) (hb : Is b n) (M : Nat) (hM : M < 900000) (la : a.length ≤ M) (lb : b.length ≤ M) :
    ∃ r, Is r (m + n) ∧ r.length ≤ M + 1 ∧ Ev (fun k => lombardref01_Add.f k a b) r := by
  obtain ⟨r, hr, hl, hE⟩ := add_loop a b ha.norm.dig hb.norm.dig M hM la lb (M + 1) 0 [] 0 (by omega) rfl Dig.nil (by decide) (by decide) rfl
  rw [ha.val, hb.val] at hr
  exact ⟨r, hr, hl, hE⟩

theorem sub_step (a b out : List Int) (c : Int) (i : Nat) (ha : Dig a) (hb : Dig b) (hc0 : 0 ≤ c) (hc1 : c ≤ 1) (hi : i < 1000000) (ho : out.length < 1000000) (hia : i < a.length) {r : List Int}
    (h : Ev (fun k => lombardref01_Sub.l0 k a b (out ++ [(a.getD i 0 + 65536 - c - b.getD i 0) % 65536]) (1 - (a.getD i 0 + 65536 - c - b.getD i 0) / 65536) ((i + 1 : Nat) : Int)) r) :
    Ev (fun k => lombardref01_Sub.l0 k a b out c (i : Int)) r := by
  have ga := ha.getD i
  have gb := hb.getD i
  refine Ev.step (fun k => ?_) h
  have e3 : wrap64 ((i : Int) + 1) = ((i + 1 : Nat) : Int) := by rw [w64 _ (by omega) (by omega)]; omega
  have md : ∀ x : Int, 0 ≤ x → x < 1000000000 → Int.tmod x 65536 = x % 65536 ∧ IntKind.u64.wrap (Int.tdiv x 65536) = x / 65536 ∧ IntKind.u64.wrap x = x := fun x h0 h1 =>
    ⟨Int.tmod_eq_emod_of_nonneg h0, by rw [Int.tdiv_eq_ediv_of_nonneg h0]; exact u64_id _ (by omega) (by omega), u64_id _ h0 (by omega)⟩
  rw [lombardref01_Sub.l0, if_pos (by omega), if_pos (by omega), rd_nat]
  have w1 := (md (a.getD i 0 + 65536) (by omega) (by omega)).2.2
  have w2 := (md (a.getD i 0 + 65536 - c) (by omega) (by omega)).2.2
  obtain ⟨m1, m2, m3⟩ := md (a.getD i 0 + 65536 - c - b.getD i 0) (by omega) (by omega)
  have w4 : IntKind.u64.wrap (1 - (a.getD i 0 + 65536 - c - b.getD i 0) / 65536) = 1 - (a.getD i 0 + 65536 - c - b.getD i 0) / 65536 := u64_id _ (by omega) (by omega)
  by_cases h2 : (i : Int) < (b.length : Int)
  · rw [if_pos h2, if_pos (by omega), rd_nat, w1, w2, m3, m1, m2, w4, e3]
  · have z : b.getD i 0 = 0 := getD_none b i (by omega)
    rw [z, Int.sub_zero] at m1 m2 m3 w4
    rw [if_neg h2, if_pos (by omega), w1, w2, m1, m2, w4, e3, z, Int.sub_zero]

theorem sub_loop (a b : List Int) (ha : Dig a) (hb : Dig b) (la : a.length < 900000) (hle : V b ≤ V a) (hlen : b.length ≤ a.length) : ∀ (j i : Nat) (out : List Int) (c : Int), a.length = i + j → out.length = i → Dig out → 0 ≤ c → c ≤ 1 →
    V out - c * P i = V (a.take i) - V (b.take i) → ∃ r, Is r (V a - V b) ∧ r.length ≤ a.length ∧ Ev (fun k => lombardref01_Sub.l0 k a b out c (i : Int)) r
  | 0, i, out, c, hj, ho, hd, hc0, hc1, hv => by
    rw [List.take_of_length_le (by omega), List.take_of_length_le (by omega)] at hv
    have h1 := V_lt hd
    rw [ho] at h1
    obtain rfl : c = 0 := by
      by_cases h : c = 1
      · subst h; omega
      · omega
    rw [Int.zero_mul, Int.sub_zero] at hv
    obtain ⟨r, hr, hl, hE⟩ := trim_is out hd (by omega)
    rw [hv] at hr
    refine ⟨r, hr, by omega, Ev.step (f := fun k => (lombardref01_trim.f k out).bind fun t222 => (some t222)) (fun k => ?_) (Ev.bind hE (Ev.now r))⟩
    rw [lombardref01_Sub.l0, if_neg (by omega)]
  | j + 1, i, out, c, hj, ho, hd, hc0, hc1, hv => by
    have ga := ha.getD i
    have gb := hb.getD i
    have e : P i * ((a.getD i 0 + 65536 - c - b.getD i 0) % 65536) - (1 - (a.getD i 0 + 65536 - c - b.getD i 0) / 65536) * P (i + 1) = P i * (a.getD i 0 - c - b.getD i 0) := by
      rw [P_succ, ← Int.mul_assoc, Int.mul_comm _ (P i), ← Int.mul_sub]
      have : (a.getD i 0 + 65536 - c - b.getD i 0) % 65536 - (1 - (a.getD i 0 + 65536 - c - b.getD i 0) / 65536) * 65536 = a.getD i 0 - c - b.getD i 0 := by omega
      rw [this]
    have e2 : P i * (a.getD i 0 - c - b.getD i 0) = P i * a.getD i 0 - c * P i - P i * b.getD i 0 := by rw [Int.mul_sub, Int.mul_sub, Int.mul_comm (P i) c]
    obtain ⟨r, hr, hl, hE⟩ := sub_loop a b ha hb la hle hlen j (i + 1) (out ++ [(a.getD i 0 + 65536 - c - b.getD i 0) % 65536]) (1 - (a.getD i 0 + 65536 - c - b.getD i 0) / 65536) (by omega) (by simp; omega)
      (hd.append (Dig.one (by omega) (by omega))) (by omega) (by omega)
      (by rw [V_append, V_one, V_take_succ, V_take_succ, ho]; omega)
    exact ⟨r, hr, hl, sub_step a b out c i ha hb hc0 hc1 (by omega) (by omega) (by omega) hE⟩

theorem sub_is {a b : List Int} {m n : Int} (ha : Is a m) (hb : Is b n) (la : a.length < 900000) (hle : n ≤ m) :
    ∃ r, Is r (m - n) ∧ r.length ≤ a.length ∧ Ev (fun k => lombardref01_Sub.f k a b) r := by
  have hlen : b.length ≤ a.length := by
    by_cases h : b.length ≤ a.length
    · exact h
    · have := ha.shorter hb (by omega); omega
  obtain ⟨r, hr, hl, hE⟩ := sub_loop a b ha.norm.dig hb.norm.dig la (by rw [ha.val, hb.val]; exact hle) hlen a.length 0 [] 0 (by omega) rfl Dig.nil (by decide) (by decide) rfl
  rw [ha.val, hb.val] at hr
  exact ⟨r, hr, hl, hE⟩

end Go.Proofs.Ytjbpblcohlainaa.Print
