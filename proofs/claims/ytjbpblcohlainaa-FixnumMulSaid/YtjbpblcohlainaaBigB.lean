/- Shows what the printed product of the document's digit numbers tells. -/
import Derived.Test.YtjbpblcohlainaaBigA
import Derived.Test.YtjbpblcohlainaaPrintx8
namespace Go.Proofs.Ytjbpblcohlainaa.Print
open Go.RowKit Go.Proofs.YtjbpblcohlainaaW.PrintWords Go.Proofs.YtjbpblcohlainaaW.PrintLast Go.Proofs.YtjbpblcohlainaaW.PrintMore Go.Pm.Arith Go.Pm.Big
set_option linter.unusedVariables false
set_option linter.unusedSimpArgs false

theorem md_small (x : Int) (h0 : 0 ≤ x) (h1 : x < 10000000000) : Int.tmod x 65536 = x % 65536 ∧ IntKind.u64.wrap (Int.tdiv x 65536) = x / 65536 ∧ IntKind.u64.wrap x = x := by
  refine ⟨Int.tmod_eq_emod_of_nonneg h0, ?_, ?_⟩
  · rw [Int.tdiv_eq_ediv_of_nonneg h0, u64_wrap]; omega
  · rw [u64_wrap]; omega

theorem prod_small {x y : Int} (hx : 0 ≤ x ∧ x < 65536) (hy : 0 ≤ y ∧ y < 65536) : 0 ≤ x * y ∧ x * y ≤ 4294836225 := by
  refine ⟨Int.mul_nonneg hx.1 hy.1, ?_⟩
  have := Int.mul_le_mul (a := x) (b := y) (c := 65535) (d := 65535) (by omega) (by omega) hy.1 (by decide)
  simpa using this

theorem mul_step (a b out : List Int) (c : Int) (i k : Nat) (ai bk o : Int) (hai : a.getD i 0 = ai) (hbk : b.getD k 0 = bk) (hob : out.getD (i + k) 0 = o) (ga : 0 ≤ ai ∧ ai < 65536) (gb : 0 ≤ bk ∧ bk < 65536) (go : 0 ≤ o ∧ o < 65536)
    (hc0 : 0 ≤ c) (hc1 : c ≤ 65535) (hi : i < a.length) (la : a.length < 1000000) (hk : i + k < out.length) (hk2 : k < 1000000)
    (act : k < b.length ∨ 0 < c) {r : List Int}
    (h : Ev (fun n => lombardref01_Mul.l1 n a b (out.set (i + k) ((o + c + ai * bk) % 65536)) (i : Int) ((o + c + ai * bk) / 65536) ((k + 1 : Nat) : Int)) r) :
    Ev (fun n => lombardref01_Mul.l1 n a b out (i : Int) c (k : Int)) r := by
  obtain ⟨p0, p1⟩ := prod_small ga gb
  have c1 : 0 ≤ ((i + k : Nat) : Int) := by omega
  have c2 : ((i + k : Nat) : Int) < (out.length : Int) := by omega
  have c3 : 0 ≤ (i : Int) := by omega
  have c4 : (i : Int) < (a.length : Int) := by omega
  have c5 : 0 ≤ (k : Int) := by omega
  have c6 : ¬ (k : Int) < (b.length : Int) → decide (c > 0) = true ∧ b.length ≤ k := fun h1 => ⟨decide_eq_true (by omega), by omega⟩
  have b1 : 0 ≤ o + c ∧ o + c < 10000000000 := by omega
  have b2 : ai * bk < 10000000000 := by omega
  have b3 : 0 ≤ o + c + ai * bk ∧ o + c + ai * bk < 10000000000 := by omega
  have b4 : (i : Int) + k < 9223372036854775808 ∧ (k : Int) + 1 < 9223372036854775808 ∧ (i : Int) + k = ((i + k : Nat) : Int) ∧ (k : Int) + 1 = ((k + 1 : Nat) : Int) := by omega
  have b5 : -9223372036854775808 ≤ (i : Int) + k ∧ -9223372036854775808 ≤ (k : Int) + 1 := by omega
  have e1 : wrap64 ((i : Int) + (k : Int)) = ((i + k : Nat) : Int) := (w64 _ b5.1 b4.1).trans b4.2.2.1
  have e3 : wrap64 ((k : Int) + 1) = ((k + 1 : Nat) : Int) := (w64 _ b5.2 b4.2.1).trans b4.2.2.2
  refine Ev.step (f := fun n => lombardref01_Mul.j2 n a b out (i : Int) c (k : Int) true) (fun n => ?_) (Ev.step (fun n => ?_) h)
  · rw [lombardref01_Mul.l1]
    by_cases h1 : (k : Int) < (b.length : Int)
    · rw [if_pos h1]
    · rw [if_neg h1, (c6 h1).1]
  · rw [lombardref01_Mul.j2, if_pos rfl, e1, if_pos c1, if_pos c2]
    by_cases h1 : (k : Int) < (b.length : Int)
    · obtain ⟨m1, m2, m3⟩ := md_small (o + c + ai * bk) b3.1 b3.2
      rw [if_pos h1, if_pos c3, if_pos c4, if_pos c5, rd_nat, rd_nat, rd_nat, hai, hbk, hob, (md_small _ b1.1 b1.2).2.2, (md_small _ p0 b2).2.2, m3, m1, m2, e3, Int.toNat_natCast]
    · have z : bk = 0 := by rw [← hbk]; exact getD_none b k (c6 h1).2
      obtain ⟨n1, n2, n3⟩ := md_small (o + c) b1.1 b1.2
      rw [if_neg h1, rd_nat, hob, n3, n1, n2, e3, Int.toNat_natCast, z, Int.mul_zero, Int.add_zero]

theorem mul_inner (a b : List Int) (i : Nat) (ai : Int) (hai : a.getD i 0 = ai) (ga : 0 ≤ ai ∧ ai < 65536) (hb : Dig b) (hi : i < a.length) (la : a.length < 900000) (lb : b.length < 90000) (X : Int)
    (hX : X + ai * V b * P i < P (i + 1 + b.length)) : ∀ (j k : Nat) (out : List Int) (c : Int), b.length + 1 = k + j → Dig out → out.length = a.length + b.length + 1 → 0 ≤ c → c ≤ 65535 →
      V out + c * P (i + k) = X + ai * V (b.take k) * P i →
      ∃ out', Dig out' ∧ out'.length = a.length + b.length + 1 ∧ V out' = X + ai * V b * P i ∧
        ∀ r, Ev (fun n => lombardref01_Mul.l0 n a b out' ((i + 1 : Nat) : Int)) r → Ev (fun n => lombardref01_Mul.l1 n a b out (i : Int) c (k : Int)) r
  | j, k, out, c, hj, hd, hl, hc0, hc1, hv => by
    by_cases act : k < b.length ∨ 0 < c
    · obtain ⟨j, rfl⟩ : ∃ n, j = n + 1 := by
        cases j with
        | succ n => exact ⟨n, rfl⟩
        | zero =>
          exfalso
          rw [List.take_of_length_le (by omega)] at hv
          have h5 := V_nonneg hd
          have h6 : P (i + k) = P (i + 1 + b.length) := by rw [show i + k = i + 1 + b.length by omega]
          have h7 : 1 * P (i + k) ≤ c * P (i + k) := Int.mul_le_mul_of_nonneg_right (by omega) (by have := P_pos (i + k); omega)
          omega
      obtain ⟨bk, hbk⟩ : ∃ x, b.getD k 0 = x := ⟨_, rfl⟩
      obtain ⟨o, hob⟩ : ∃ x, out.getD (i + k) 0 = x := ⟨_, rfl⟩
      have gb : 0 ≤ bk ∧ bk < 65536 := hbk ▸ hb.getD k
      have go : 0 ≤ o ∧ o < 65536 := hob ▸ hd.getD (i + k)
      obtain ⟨p0, p1⟩ := prod_small ga gb
      have hik : i + k < out.length := by omega
      have es := V_set out (i + k) ((o + c + ai * bk) % 65536) hik
      rw [hob] at es
      have e1 : ai * V (b.take (k + 1)) * P i = ai * V (b.take k) * P i + ai * bk * P (i + k) := by
        rw [V_take_succ, hbk, Int.mul_add, Int.add_mul, P_add, Int.mul_comm (P k) bk, ← Int.mul_assoc, Int.mul_assoc (ai * bk), Int.mul_comm (P k) (P i)]
      have e2 : ((o + c + ai * bk) % 65536 - o) * P (i + k) + (o + c + ai * bk) / 65536 * P (i + (k + 1)) = c * P (i + k) + ai * bk * P (i + k) := by
        have e4 : P (i + (k + 1)) = 65536 * P (i + k) := P_succ (i + k)
        rw [e4, ← Int.mul_assoc, ← Int.add_mul, ← Int.add_mul]
        generalize ai * bk = ab at *
        have : (o + c + ab) % 65536 - o + (o + c + ab) / 65536 * 65536 = c + ab := by omega
        rw [this]
      have b0 : 0 ≤ (o + c + ai * bk) % 65536 ∧ (o + c + ai * bk) % 65536 < 65536 ∧ 0 ≤ (o + c + ai * bk) / 65536 ∧ (o + c + ai * bk) / 65536 ≤ 65535 := by
        generalize ai * bk = ab at *
        omega
      obtain ⟨out', d', l', v', hE⟩ := mul_inner a b i ai hai ga hb hi la lb X hX j (k + 1) (out.set (i + k) ((o + c + ai * bk) % 65536)) ((o + c + ai * bk) / 65536) (by omega)
        (hd.set _ b0.1 b0.2.1) (by rw [List.length_set]; exact hl) b0.2.2.1 b0.2.2.2 (by rw [es, e1]; omega)
      exact ⟨out', d', l', v', fun r hr => mul_step a b out c i k ai bk o hai hbk hob ga gb go hc0 hc1 hi (by omega) hik (by omega) act (hE r hr)⟩
    · obtain rfl : c = 0 := by omega
      rw [List.take_of_length_le (by omega), Int.zero_mul, Int.add_zero] at hv
      refine ⟨out, hd, hl, hv, fun r hr => Ev.step (f := fun n => lombardref01_Mul.j2 n a b out (i : Int) 0 (k : Int) false) (fun n => ?_) (Ev.step (fun n => ?_) hr)⟩
      · rw [lombardref01_Mul.l1, if_neg (by omega)]; rfl
      · have e3 : wrap64 ((i : Int) + 1) = ((i + 1 : Nat) : Int) := by rw [w64 _ (by omega) (by omega)]; omega
        rw [lombardref01_Mul.j2, if_neg (by decide), e3]

theorem mul_lt {x y p q : Int} (hx : 0 ≤ x) (hxp : x < p) (hy : 0 ≤ y) (hyq : y < q) : x * y < p * q := by
  have h1 : x * y ≤ x * q := Int.mul_le_mul_of_nonneg_left (by omega) hx
  have h2 : x * q ≤ (p - 1) * q := Int.mul_le_mul_of_nonneg_right (by omega) (by omega)
  rw [Int.sub_mul, Int.one_mul] at h2
  omega

theorem mul_loop (a b : List Int) (ha : Dig a) (hb : Dig b) (la : a.length < 90000) (lb : b.length < 90000) : ∀ (j i : Nat) (out : List Int), a.length = i + j → Dig out → out.length = a.length + b.length + 1 → V out = V (a.take i) * V b →
    ∃ r, Is r (V a * V b) ∧ r.length ≤ a.length + b.length + 1 ∧ Ev (fun n => lombardref01_Mul.l0 n a b out (i : Int)) r
  | 0, i, out, hj, hd, hl, hv => by
    rw [List.take_of_length_le (by omega)] at hv
    obtain ⟨r, hr, hrl, hE⟩ := trim_is out hd (by omega)
    rw [hv] at hr
    refine ⟨r, hr, by omega, Ev.step (f := fun n => (lombardref01_trim.f n out).bind fun t139 => (some t139)) (fun n => ?_) (Ev.bind hE (Ev.now r))⟩
    rw [lombardref01_Mul.l0, if_neg (by omega)]
  | j + 1, i, out, hj, hd, hl, hv => by
    have e1 : V (a.take i) * V b + a.getD i 0 * V b * P i = V (a.take (i + 1)) * V b := by
      rw [V_take_succ, Int.add_mul, Int.mul_assoc, Int.mul_comm (V b) (P i), ← Int.mul_assoc, Int.mul_comm (a.getD i 0) (P i)]
    have hX : V (a.take i) * V b + a.getD i 0 * V b * P i < P (i + 1 + b.length) := by
      rw [e1, P_add]
      have h1 := V_lt (ha.take (i + 1))
      rw [List.length_take, Nat.min_eq_left (by omega)] at h1
      exact mul_lt (V_nonneg (ha.take _)) h1 (V_nonneg hb) (V_lt hb)
    obtain ⟨out', d', l', v', hE⟩ := mul_inner a b i _ rfl (ha.getD i) hb (by omega) (by omega) lb _ hX (b.length + 1) 0 out 0 (by omega) hd hl (by decide) (by decide) (by rw [Int.zero_mul, Int.add_zero, hv, List.take_zero]; show _ = _ + a.getD i 0 * 0 * P i; rw [Int.mul_zero, Int.zero_mul, Int.add_zero])
    rw [e1] at v'
    obtain ⟨r, hr, hrl, hE2⟩ := mul_loop a b ha hb la lb j (i + 1) out' (by omega) d' l' v'
    refine ⟨r, hr, hrl, Ev.step (fun n => ?_) (hE r hE2)⟩
    rw [lombardref01_Mul.l0, if_pos (by omega)]; rfl

theorem mul_is2 {a b : List Int} {m n : Int} (ha : Is a m) (hb : Is b n) (la : a.length < 90000) (lb : b.length < 90000) :
    ∃ r, Is r (m * n) ∧ r.length ≤ a.length + b.length + 1 ∧ Ev (fun k => lombardref01_Mul.f k a b) r := by
  obtain ⟨r, hr, hl, hE⟩ := mul_loop a b ha.norm.dig hb.norm.dig la lb a.length 0 (List.replicate (a.length + b.length + 1) 0) (by omega) (Dig.zeros _) (by simp) (by rw [V_zeros, List.take_zero]; show _ = 0 * _; rw [Int.zero_mul])
  rw [ha.val, hb.val] at hr
  refine ⟨r, hr, hl, Ev.congr (fun k => ?_) hE⟩
  have e1 : wrap64 ((a.length : Int) + (b.length : Int)) = (a.length : Int) + b.length := w64 _ (by omega) (by omega)
  have e2 : wrap64 ((a.length : Int) + (b.length : Int) + 1) = ((a.length + b.length + 1 : Nat) : Int) := by rw [w64 _ (by omega) (by omega)]; omega
  unfold lombardref01_Mul.f
  rw [e1, e2, if_pos (by omega), Int.toNat_natCast, if_pos (by omega)]; rfl

end Go.Proofs.Ytjbpblcohlainaa.Print
