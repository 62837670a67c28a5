/- Shows, in plain whole numbers, that the program and the document find the same wrong with an agreement, a trade, and two trades. -/
import Derived.Test.YtidinbjehfodoaaPmArith
import Derived.Test.YtidinbjehfodoaaGx9
namespace Go.Proofs.Ytidinbjehfodoaa
open Go Go.Pm Go.Pm.Arith
set_option linter.unusedVariables false
set_option linter.unusedSimpArgs false

theorem i64_wrap (n : Int) : IntKind.i64.wrap n = (n + 9223372036854775808) % 18446744073709551616 - 9223372036854775808 := by
  simp only [IntKind.wrap, IntKind.bits, IntKind.signed]; simp; omega
theorem i64_id (n : Int) (h₀ : -9223372036854775808 ≤ n) (h₁ : n < 9223372036854775808) : IntKind.i64.wrap n = n := by rw [i64_wrap]; omega
def inI64 (a : Int) : Prop := -9223372036854775808 ≤ a ∧ a < 9223372036854775808
theorem in64 {a : Int} (h : inK .i64 a) : -9223372036854775808 ≤ a ∧ a < 9223372036854775808 := by
  obtain ⟨h1, h2⟩ := h; simp [IntKind.min, IntKind.max, IntKind.signed, IntKind.bits] at h1 h2; omega
theorem next64 (i : Nat) (h : i < 1000000000000000) : IntKind.i64.wrap ((i : Int) + 1) = ((i + 1 : Nat) : Int) := by rw [i64_id _ (by omega) (by omega)]; omega

def dayAt (l : List api_Reset) (i : Nat) : Int := (l.getD i default).Day
def rtAt (l : List api_Reset) (i : Nat) : Int := (l.getD i default).Rate

theorem nth_at (l : List api_Reset) (n : Nat) : nth l (n : Int) = l.getD n default := rfl

def chk (l : List api_Reset) (i : Nat) : Int :=
  if ¬ (0 ≤ dayAt l i ∧ dayAt l i ≤ 200000) ∨ (0 < i ∧ dayAt l i ≤ dayAt l (i - 1)) then 10 else if rtAt l i < -1000000 ∨ rtAt l i > 1000000 then 1 else 0

def chks (l : List api_Reset) : Nat → Nat → Int
  | 0, i => 0
  | j + 1, i => if chk l i = 0 then chks l j (i + 1) else chk l i

def checkOf (l : List api_Reset) : Int := if l.length = 0 then 6 else if l.length > 64 then 2 else chks l l.length 0

theorem wpred (i : Nat) (h : 0 < i) (h2 : i < 1000) : IntKind.i64.wrap ((i : Int) - 1) = ((i - 1 : Nat) : Int) := by rw [i64_id _ (by omega) (by omega)]; omega

theorem check_step (l : List api_Reset) (i : Nat) (h : i < l.length) (hl : l.length ≤ 64) :
    accrue_Check.r0 l (i : Int) = (if chk l i = 0 then some (.inl ((i + 1 : Nat) : Int)) else some (.inr (.inl (chk l i)))) ∧
    lombardref03_Check.r0 l (i : Int) = (if chk l i = 0 then some (.inl ((i + 1 : Nat) : Int)) else some (.inr (.inl (chk l i)))) := by
  have lt : (i : Int) < (l.length : Int) := by omega
  have w : IntKind.i64.wrap ((i : Int) + 1) = ((i + 1 : Nat) : Int) := next64 i (by omega)
  have g : ∀ b : Bool, ((!b) = false ∧ (decide ((i : Int) > 0)) = true → (0 : Int) ≤ (IntKind.wrap .i64 ((i : Int) - 1)) ∧ (IntKind.wrap .i64 ((i : Int) - 1)) < (List.length l : Int)) := fun b hb => by
    have := of_decide_eq_true hb.2
    rw [wpred i (by omega) (by omega)]; omega
  have c1 : ∀ b : Bool, b = (decide (dayAt l i ≥ 0) && decide (dayAt l i ≤ 200000)) → (((!b) || ((decide ((i : Int) > 0)) && (decide ((dayAt l i) ≤ ((nth l (IntKind.wrap .i64 ((i : Int) - 1))).Day))))) = true ↔ (¬ (0 ≤ dayAt l i ∧ dayAt l i ≤ 200000) ∨ (0 < i ∧ dayAt l i ≤ dayAt l (i - 1)))) := fun b hb => by
    subst hb
    by_cases hi : 0 < i
    · rw [wpred i hi (by omega), nth_at]
      show (_ || (_ && decide (dayAt l i ≤ dayAt l (i - 1)))) = true ↔ _
      simp only [Bool.or_eq_true, Bool.and_eq_true, Bool.not_eq_true', Bool.and_eq_false_iff, decide_eq_true_eq, decide_eq_false_iff_not]
      omega
    · have z : ¬ (i : Int) > 0 := by omega
      simp only [Bool.or_eq_true, Bool.and_eq_true, Bool.not_eq_true', Bool.and_eq_false_iff, decide_eq_true_eq, decide_eq_false_iff_not, z, false_and, or_false]
      omega
  constructor
  · unfold accrue_Check.r0 accrue_Check.b0 calendar_Good.f chk
    rw [if_pos (decide_eq_true lt), if_pos (by omega), nth_at, Option.bind_some, if_pos (g _)]
    have c := c1 _ rfl
    have dd : (l.getD i default).Day = dayAt l i := rfl
    have rr : (l.getD i default).Rate = rtAt l i := rfl
    rw [dd, rr, w]
    by_cases k : ¬ (0 ≤ dayAt l i ∧ dayAt l i ≤ 200000) ∨ (0 < i ∧ dayAt l i ≤ dayAt l (i - 1))
    · rw [if_pos (c.2 k), if_pos k, if_neg (by decide)]
    · rw [if_neg (fun h => k (c.1 h)), if_neg k]
      by_cases k2 : rtAt l i < -1000000 ∨ rtAt l i > 1000000
      · rw [if_pos (by simpa using k2), if_pos k2, if_neg (by decide)]
      · rw [if_neg (by simpa using k2), if_neg k2, if_pos rfl]
  · unfold lombardref03_Check.r0 lombardref03_Check.b0 lombardref02_Good.f lombardref03_rated.f chk
    rw [if_pos (decide_eq_true lt), if_pos (by omega), nth_at, Option.bind_some, if_pos (fun _ => by omega), if_pos (g _)]
    have c := c1 _ rfl
    have dd : (l.getD i default).Day = dayAt l i := rfl
    have rr : (l.getD i default).Rate = rtAt l i := rfl
    rw [dd, rr, w]
    by_cases k : ¬ (0 ≤ dayAt l i ∧ dayAt l i ≤ 200000) ∨ (0 < i ∧ dayAt l i ≤ dayAt l (i - 1))
    · rw [if_pos (c.2 k), if_pos k, if_neg (by decide)]
    · rw [if_neg (fun h => k (c.1 h)), if_neg k, if_pos (by omega), Option.bind_some]
      by_cases k2 : rtAt l i < -1000000 ∨ rtAt l i > 1000000
      · rw [if_pos (by simp; omega), if_pos k2, if_neg (by decide)]
      · rw [if_neg (by simp; omega), if_neg k2, if_pos rfl]

theorem check_loop (l : List api_Reset) (hl : l.length ≤ 64) : ∀ (j i : Nat), l.length = i + j →
    ∃ o, (match o with | .inl x => x | .inr _ => 0) = chks l j i ∧ loop (accrue_Check.r0 l) (i : Int) = some o ∧ loop (lombardref03_Check.r0 l) (i : Int) = some o
  | 0, i, h => by
    refine ⟨.inr (), rfl, loop_end ?_, loop_end ?_⟩
    · unfold accrue_Check.r0 accrue_Check.b0; rw [if_neg (by simp; omega)]
    · unfold lombardref03_Check.r0 lombardref03_Check.b0; rw [if_neg (by simp; omega)]
  | j + 1, i, h => by
    obtain ⟨s1, s2⟩ := check_step l i (by omega) hl
    unfold chks
    by_cases c : chk l i = 0
    · rw [if_pos c] at s1 s2 ⊢
      obtain ⟨o, h1, h2, h3⟩ := check_loop l hl j (i + 1) (by omega)
      exact ⟨o, h1, by rw [loop_next s1, h2], by rw [loop_next s2, h3]⟩
    · rw [if_neg c] at s1 s2 ⊢
      exact ⟨_, rfl, loop_end s1, loop_end s2⟩

theorem check_is (l : List api_Reset) : accrue_Check.f l = some (checkOf l) ∧ lombardref03_Check.f l = some (checkOf l) := by
  unfold accrue_Check.f lombardref03_Check.f checkOf
  simp only [beq_iff_eq, decide_eq_true_eq]
  by_cases c1 : l.length = 0
  · rw [if_pos (show (l.length : Int) = 0 by omega), if_pos c1]; exact ⟨rfl, if_pos (by omega)⟩
  · rw [if_neg (show ¬ (l.length : Int) = 0 by omega), if_neg c1, if_neg (show ¬ (l.length : Int) = 0 by omega)]
    by_cases c2 : l.length > 64
    · rw [if_pos (show (l.length : Int) > 64 by omega), if_pos c2]; exact ⟨rfl, if_pos (by omega)⟩
    · rw [if_neg (show ¬ (l.length : Int) > 64 by omega), if_neg c2, if_neg (show ¬ (l.length : Int) > 64 by omega)]
      obtain ⟨o, h1, h2, h3⟩ := check_loop l (by omega) l.length 0 (by omega)
      have h2' : loop (accrue_Check.r0 l) 0 = some o := h2
      have h3' : loop (lombardref03_Check.r0 l) 0 = some o := h3
      rw [h2', h3', ← h1]
      cases o <;> exact ⟨rfl, rfl⟩

theorem resets_loop (l : List api_Reset) (hl : l.length < 100000000000000) : ∀ (j i : Nat), l.length = i + j → loop (lombardref23_Resets.r0 l l) (i : Int) = some (.inr ())
  | 0, i, h => loop_end (by unfold lombardref23_Resets.r0 lombardref23_Resets.b0; rw [if_neg (by simp; omega)])
  | j + 1, i, h => by
    have g : (0 : Int) ≤ (i : Int) ∧ (i : Int) < (l.length : Int) := by omega
    have w : IntKind.i64.wrap ((i : Int) + 1) = ((i + 1 : Nat) : Int) := by rw [i64_id _ (by omega) (by omega)]; omega
    have s1 : lombardref23_Resets.r0 l l (i : Int) = some (.inl ((i + 1 : Nat) : Int)) := by
      unfold lombardref23_Resets.r0 lombardref23_Resets.b0
      rw [if_pos (decide_eq_true g.2), if_pos g, if_pos g, if_neg (by simp), w]
    rw [loop_next s1, resets_loop l hl j (i + 1) (by omega)]

theorem resets_self (l : List api_Reset) (hl : l.length < 100000000000000) : lombardref23_Resets.f l l = some true := by
  unfold lombardref23_Resets.f
  have := resets_loop l hl l.length 0 (by omega)
  have h : loop (lombardref23_Resets.r0 l l) 0 = _ := this
  rw [if_neg (by simp), h]; rfl

theorem resets_len {x : api_Trade} (hx : api_Trade.bd x) : x.Resets.length < 8796093022208 := by
  have := hx.2.2.2.2.2.2.2.2.1.1
  unfold reach at this
  omega

theorem in23 (x a b : Int) : lombardref23_in.f x a b = some (decide (a ≤ x ∧ x ≤ b)) := by
  unfold lombardref23_in.f
  congr 1
  by_cases h : a ≤ x ∧ x ≤ b
  · rw [decide_eq_true h]; simp; omega
  · rw [decide_eq_false h]; simp; omega

theorem good02 (x : Int) : lombardref02_Good.f x = some (decide (0 ≤ x ∧ x ≤ 200000)) := by
  unfold lombardref02_Good.f
  congr 1
  by_cases h : 0 ≤ x ∧ x ≤ 200000
  · rw [decide_eq_true h]; simp; omega
  · rw [decide_eq_false h]; simp; omega

theorem goodCal (x : Int) : calendar_Good.f x = some (decide (0 ≤ x ∧ x ≤ 200000)) := good02 x

theorem who_is (x : Int) : trade_Fill_1.f x = some (decide (1 ≤ x ∧ x ≤ 32)) := by
  unfold trade_Fill_1.f
  congr 1
  by_cases h : 1 ≤ x ∧ x ≤ 32
  · rw [decide_eq_true h]; simp; omega
  · rw [decide_eq_false h]; simp; omega

theorem and_then {p : Prop} [Decidable p] {m : Option Bool} {b : Bool} (hm : m = some b) : ∃ c, (if p then m else some default) = some c ∧ (p → c = b) := by
  by_cases h : p
  · exact ⟨b, by rw [if_pos h, hm], fun _ => rfl⟩
  · exact ⟨default, by rw [if_neg h], fun k => absurd k h⟩

def termsOf (f : api_Fill) : Int :=
  if ¬ (1 ≤ f.Basket ∧ f.Basket ≤ 64) ∨ ¬ (1 ≤ f.Amount ∧ f.Amount ≤ 1125899906842624) ∨ ¬ (-1000000 ≤ f.Rate ∧ f.Rate ≤ 1000000) then 1
  else if ¬ (0 ≤ f.Start ∧ f.Start ≤ 200000) ∨ (f.End ≠ 0 ∧ (¬ (0 ≤ f.End ∧ f.End ≤ 200000) ∨ ¬ (1 ≤ f.End - f.Start ∧ f.End - f.Start ≤ 3660))) then 10 else 0

def fillOf (f : api_Fill) : Int :=
  if ¬ (1 ≤ f.Lender ∧ f.Lender ≤ 32) ∨ ¬ (1 ≤ f.Borrower ∧ f.Borrower ≤ 32) then 22 else if f.Lender = f.Borrower then 32 else termsOf f

theorem terms_is (f : api_Fill) : lombardref23_Terms.f f = some (termsOf f) := by
  unfold lombardref23_Terms.f termsOf
  rw [in23, Option.bind_some]
  obtain ⟨c2, e2, k2⟩ := and_then (p := (!decide (1 ≤ f.Basket ∧ f.Basket ≤ 64)) = false) (in23 f.Amount 1 1125899906842624)
  rw [e2, Option.bind_some]
  obtain ⟨c3, e3, k3⟩ := and_then (p := ((!decide (1 ≤ f.Basket ∧ f.Basket ≤ 64)) || !c2) = false) (in23 f.Rate (-1000000) 1000000)
  rw [e3, Option.bind_some]
  have t1 : ((!decide (1 ≤ f.Basket ∧ f.Basket ≤ 64)) || !c2 || !c3) = true ↔ (¬ (1 ≤ f.Basket ∧ f.Basket ≤ 64) ∨ ¬ (1 ≤ f.Amount ∧ f.Amount ≤ 1125899906842624) ∨ ¬ (-1000000 ≤ f.Rate ∧ f.Rate ≤ 1000000)) := by
    by_cases a : 1 ≤ f.Basket ∧ f.Basket ≤ 64
    · rw [decide_eq_true a] at k2 k3 ⊢
      rw [k2 rfl] at k3 ⊢
      by_cases b : 1 ≤ f.Amount ∧ f.Amount ≤ 1125899906842624
      · rw [decide_eq_true b] at k3 ⊢
        rw [k3 rfl]
        simp; omega
      · rw [decide_eq_false b]; simp; omega
    · rw [decide_eq_false a]; simp; omega
  by_cases t : ((!decide (1 ≤ f.Basket ∧ f.Basket ≤ 64)) || !c2 || !c3) = true
  · rw [if_pos t, if_pos (t1.1 t)]
  · rw [if_neg t, if_neg (fun h => t (t1.2 h)), good02, Option.bind_some]
    obtain ⟨c4, e4, k4⟩ := and_then (p := (!decide (0 ≤ f.Start ∧ f.Start ≤ 200000)) = false ∧ (f.End != 0) = true) (good02 f.End)
    rw [e4, Option.bind_some]
    obtain ⟨c5, e5, k5⟩ := and_then (p := (!decide (0 ≤ f.Start ∧ f.Start ≤ 200000)) = false ∧ (f.End != 0) = true ∧ (!c4) = false) (in23 (IntKind.wrap .i64 (f.End - f.Start)) 1 3660)
    rw [e5, Option.bind_some]
    have t2 : ((!decide (0 ≤ f.Start ∧ f.Start ≤ 200000)) || f.End != 0 && (!c4 || !c5)) = true ↔ (¬ (0 ≤ f.Start ∧ f.Start ≤ 200000) ∨ (f.End ≠ 0 ∧ (¬ (0 ≤ f.End ∧ f.End ≤ 200000) ∨ ¬ (1 ≤ f.End - f.Start ∧ f.End - f.Start ≤ 3660)))) := by
      by_cases s : 0 ≤ f.Start ∧ f.Start ≤ 200000
      · rw [decide_eq_true s] at k4 k5 ⊢
        by_cases z : f.End = 0
        · rw [z]; simp; omega
        · have z' : (f.End != 0) = true := by simpa using z
          rw [z'] at k4 k5 ⊢
          rw [k4 ⟨rfl, rfl⟩] at k5 ⊢
          by_cases e : 0 ≤ f.End ∧ f.End ≤ 200000
          · rw [decide_eq_true e] at k5 ⊢
            rw [k5 ⟨rfl, rfl, rfl⟩, i64_id _ (by omega) (by omega)]
            simp; omega
          · rw [decide_eq_false e]; simp; omega
      · rw [decide_eq_false s]; simp; omega
    by_cases t3 : ((!decide (0 ≤ f.Start ∧ f.Start ≤ 200000)) || f.End != 0 && (!c4 || !c5)) = true
    · rw [if_pos t3, if_pos (t2.1 t3)]
    · rw [if_neg t3, if_neg (fun h => t3 (t2.2 h))]

theorem two_who (a b : Int) (f : Int → Option Bool) (hf : ∀ x, f x = some (decide (1 ≤ x ∧ x ≤ 32))) (m : Option Int) :
    ((f a).bind fun t1 => (if (!t1) = false then f b else some default).bind fun t3 => if ((!t1) || (!t3)) = true then some 22 else m) = if ¬ (1 ≤ a ∧ a ≤ 32) ∨ ¬ (1 ≤ b ∧ b ≤ 32) then some 22 else m := by
  rw [hf, Option.bind_some]
  by_cases g : 1 ≤ a ∧ a ≤ 32
  · rw [decide_eq_true g, hf]
    simp only [Bool.not_true, if_true, Option.bind_some, Bool.false_or]
    by_cases g2 : 1 ≤ b ∧ b ≤ 32
    · rw [decide_eq_true g2, if_neg (by decide), if_neg (by omega)]
    · rw [decide_eq_false g2, if_pos (by decide), if_pos (.inr g2)]
  · rw [decide_eq_false g]
    simp only [Bool.not_false, Bool.true_eq_false, if_false, Option.bind_some, Bool.true_or, if_true]
    rw [if_pos (.inl g)]

theorem fill_is (f : api_Fill) : trade_Fill.f f = some (fillOf f) := by
  unfold trade_Fill.f fillOf
  rw [two_who f.Lender f.Borrower trade_Fill_1.f who_is]
  split
  · rfl
  · by_cases c : f.Lender = f.Borrower
    · rw [if_pos (by simpa using c), if_pos c]
    · rw [if_neg (by simpa using c), if_neg c]
      unfold termsOf
      by_cases a : ¬ (1 ≤ f.Basket ∧ f.Basket ≤ 64) ∨ ¬ (1 ≤ f.Amount ∧ f.Amount ≤ 1125899906842624) ∨ ¬ (-1000000 ≤ f.Rate ∧ f.Rate ≤ 1000000)
      · rw [if_pos (by simp only [Bool.or_eq_true, decide_eq_true_eq]; omega), if_pos a]
      · rw [if_neg (by simp only [Bool.or_eq_true, decide_eq_true_eq]; omega), if_neg a, goodCal, Option.bind_some]
        obtain ⟨c4, e4, k4⟩ := and_then (p := (!decide (0 ≤ f.Start ∧ f.Start ≤ 200000)) = false ∧ (f.End != 0) = true) (goodCal f.End)
        rw [e4, Option.bind_some]
        have t2 : ((!decide (0 ≤ f.Start ∧ f.Start ≤ 200000)) || ((f.End != 0) && (((!c4) || (decide (f.End ≤ f.Start))) || (decide ((IntKind.wrap .i64 (f.End - f.Start)) > 3660))))) = true ↔ (¬ (0 ≤ f.Start ∧ f.Start ≤ 200000) ∨ (f.End ≠ 0 ∧ (¬ (0 ≤ f.End ∧ f.End ≤ 200000) ∨ ¬ (1 ≤ f.End - f.Start ∧ f.End - f.Start ≤ 3660)))) := by
          by_cases s : 0 ≤ f.Start ∧ f.Start ≤ 200000
          · rw [decide_eq_true s] at k4 ⊢
            by_cases z : f.End = 0
            · rw [z]; simp; omega
            · have z' : (f.End != 0) = true := by simpa using z
              rw [z'] at k4 ⊢
              rw [k4 ⟨rfl, rfl⟩]
              by_cases e : 0 ≤ f.End ∧ f.End ≤ 200000
              · rw [decide_eq_true e, i64_id _ (by omega) (by omega)]
                simp; omega
              · rw [decide_eq_false e]; simp; omega
          · rw [decide_eq_false s]; simp; omega
        by_cases t3 : ((!decide (0 ≤ f.Start ∧ f.Start ≤ 200000)) || ((f.End != 0) && (((!c4) || (decide (f.End ≤ f.Start))) || (decide ((IntKind.wrap .i64 (f.End - f.Start)) > 3660))))) = true
        · rw [if_pos t3, if_pos (t2.1 t3)]
        · rw [if_neg t3, if_neg (fun h => t3 (t2.2 h))]

def tradeOf (x : api_Trade) : Int :=
  if ¬ (1 ≤ x.ID ∧ x.ID ≤ 1125899906842624) ∨ ¬ (1 ≤ x.Twin ∧ x.Twin ≤ 1125899906842624) ∨ ¬ (1 ≤ x.Side ∧ x.Side ≤ 2) ∨ ¬ (1 ≤ x.Stage ∧ x.Stage ≤ 5) then 1
  else if (x.Side = 1 ∧ x.Twin - x.ID ≠ 1) ∨ (x.Side = 2 ∧ x.ID - x.Twin ≠ 1) then 32
  else if checkOf x.Resets ≠ 0 then checkOf x.Resets else if dayAt x.Resets 0 ≠ x.Start then 10
  else if ¬ (1 ≤ x.Member ∧ x.Member ≤ 32) then 22 else termsOf ⟨0, 0, x.Basket, x.Amount, rtAt x.Resets 0, x.Start, x.End⟩

theorem check_len {l : List api_Reset} (h : checkOf l = 0) : 0 < l.length := by
  unfold checkOf at h
  by_cases c : l.length = 0
  · rw [if_pos c] at h; omega
  · omega

theorem ref_check_is (x : api_Trade) (hx : api_Trade.bd x) : lombardref23_Check.f x = some (tradeOf x) := by
  have hi : inI64 x.ID := in64 hx.1
  have ht : inI64 x.Twin := in64 hx.2.1
  unfold inI64 at hi ht
  unfold lombardref23_Check.f tradeOf
  rw [in23, Option.bind_some]
  obtain ⟨c2, e2, k2⟩ := and_then (p := (!decide (1 ≤ x.ID ∧ x.ID ≤ 1125899906842624)) = false) (in23 x.Twin 1 1125899906842624)
  rw [e2, Option.bind_some]
  obtain ⟨c3, e3, k3⟩ := and_then (p := ((!decide (1 ≤ x.ID ∧ x.ID ≤ 1125899906842624)) || !c2) = false) (in23 x.Side 1 2)
  rw [e3, Option.bind_some]
  obtain ⟨c4, e4, k4⟩ := and_then (p := ((!decide (1 ≤ x.ID ∧ x.ID ≤ 1125899906842624)) || !c2 || !c3) = false) (in23 x.Stage 1 5)
  rw [e4, Option.bind_some]
  have t1 : (((!decide (1 ≤ x.ID ∧ x.ID ≤ 1125899906842624)) || !c2 || !c3) || !c4) = true ↔ (¬ (1 ≤ x.ID ∧ x.ID ≤ 1125899906842624) ∨ ¬ (1 ≤ x.Twin ∧ x.Twin ≤ 1125899906842624) ∨ ¬ (1 ≤ x.Side ∧ x.Side ≤ 2) ∨ ¬ (1 ≤ x.Stage ∧ x.Stage ≤ 5)) := by
    by_cases a : 1 ≤ x.ID ∧ x.ID ≤ 1125899906842624
    · rw [decide_eq_true a] at k2 k3 k4 ⊢
      rw [k2 rfl] at k3 k4 ⊢
      by_cases b : 1 ≤ x.Twin ∧ x.Twin ≤ 1125899906842624
      · rw [decide_eq_true b] at k3 k4 ⊢
        rw [k3 rfl] at k4 ⊢
        by_cases d : 1 ≤ x.Side ∧ x.Side ≤ 2
        · rw [decide_eq_true d] at k4 ⊢
          rw [k4 rfl]
          by_cases e : 1 ≤ x.Stage ∧ x.Stage ≤ 5
          · rw [decide_eq_true e]; simp; omega
          · rw [decide_eq_false e]; simp; omega
        · rw [decide_eq_false d]; simp; omega
      · rw [decide_eq_false b]; simp; omega
    · rw [decide_eq_false a]; simp; omega
  by_cases t : (((!decide (1 ≤ x.ID ∧ x.ID ≤ 1125899906842624)) || !c2 || !c3) || !c4) = true
  · rw [if_pos t, if_pos (t1.1 t)]
  · have n1 : ¬ (¬ (1 ≤ x.ID ∧ x.ID ≤ 1125899906842624) ∨ ¬ (1 ≤ x.Twin ∧ x.Twin ≤ 1125899906842624) ∨ ¬ (1 ≤ x.Side ∧ x.Side ≤ 2) ∨ ¬ (1 ≤ x.Stage ∧ x.Stage ≤ 5)) := fun h => t (t1.2 h)
    rw [if_neg t, if_neg n1]
    have w1 : IntKind.i64.wrap (x.Twin - x.ID) = x.Twin - x.ID := i64_id _ (by omega) (by omega)
    have w2 : IntKind.i64.wrap (x.ID - x.Twin) = x.ID - x.Twin := i64_id _ (by omega) (by omega)
    rw [w1, w2]
    by_cases s : (x.Side = 1 ∧ x.Twin - x.ID ≠ 1) ∨ (x.Side = 2 ∧ x.ID - x.Twin ≠ 1)
    · rw [if_pos (by simpa using s), if_pos s]
    · rw [if_neg (by simpa using s), if_neg s, (check_is x.Resets).2, Option.bind_some]
      by_cases z : checkOf x.Resets = 0
      · have ps := check_len z
        have e0 : (nth x.Resets 0).Day = dayAt x.Resets 0 := rfl
        have e1 : (nth x.Resets 0).Rate = rtAt x.Resets 0 := rfl
        rw [if_neg (show ¬ ((checkOf x.Resets != 0) = true) by simpa using z), if_neg (show ¬ (checkOf x.Resets ≠ 0) from fun h => h z), if_pos (by omega), e0, e1]
        by_cases d : dayAt x.Resets 0 = x.Start
        · rw [if_neg (show ¬ ((dayAt x.Resets 0 != x.Start) = true) by simpa using d), if_neg (show ¬ (dayAt x.Resets 0 ≠ x.Start) from fun h => h d), in23, Option.bind_some]
          by_cases m : 1 ≤ x.Member ∧ x.Member ≤ 32
          · rw [if_neg (show ¬ ((!decide (1 ≤ x.Member ∧ x.Member ≤ 32)) = true) by rw [decide_eq_true m]; decide), if_neg (show ¬ ¬ (1 ≤ x.Member ∧ x.Member ≤ 32) from fun h => h m), if_pos (by omega), terms_is]; rfl
          · rw [if_pos (show (!decide (1 ≤ x.Member ∧ x.Member ≤ 32)) = true by rw [decide_eq_false m]; decide), if_pos m]
        · rw [if_pos (show (dayAt x.Resets 0 != x.Start) = true by simpa using d), if_pos d]
      · rw [if_pos (show (checkOf x.Resets != 0) = true by simpa using z), if_pos z]

theorem prog_check_is (x : api_Trade) (hx : api_Trade.bd x) : trade_Check.f x = some (tradeOf x) := by
  have hi : inI64 x.ID := in64 hx.1
  have ht : inI64 x.Twin := in64 hx.2.1
  have hm : inI64 x.Member := in64 hx.2.2.1
  unfold inI64 at hi ht hm
  unfold trade_Check.f tradeOf
  have t1 : (((((((decide (x.ID < 1)) || (decide (x.Twin < 1))) || (decide (x.ID > 1125899906842624))) || (decide (x.Twin > 1125899906842624))) || ((x.Side != 1) && (x.Side != 2))) || (decide (x.Stage < 1))) || (decide (x.Stage > 5))) = true ↔
      (¬ (1 ≤ x.ID ∧ x.ID ≤ 1125899906842624) ∨ ¬ (1 ≤ x.Twin ∧ x.Twin ≤ 1125899906842624) ∨ ¬ (1 ≤ x.Side ∧ x.Side ≤ 2) ∨ ¬ (1 ≤ x.Stage ∧ x.Stage ≤ 5)) := by
    simp only [Bool.or_eq_true, Bool.and_eq_true, decide_eq_true_eq, bne_iff_ne, ne_eq]
    omega
  by_cases t : (¬ (1 ≤ x.ID ∧ x.ID ≤ 1125899906842624) ∨ ¬ (1 ≤ x.Twin ∧ x.Twin ≤ 1125899906842624) ∨ ¬ (1 ≤ x.Side ∧ x.Side ≤ 2) ∨ ¬ (1 ≤ x.Stage ∧ x.Stage ≤ 5))
  · rw [if_pos (t1.2 t), if_pos t]
  · rw [if_neg (fun h => t (t1.1 h)), if_neg t]
    have w1 : IntKind.i64.wrap (x.ID + 1) = x.ID + 1 := i64_id _ (by omega) (by omega)
    have w2 : IntKind.i64.wrap (x.ID - 1) = x.ID - 1 := i64_id _ (by omega) (by omega)
    rw [w1, w2]
    have t2 : (((x.Side == 1) && (x.Twin != (x.ID + 1))) || ((x.Side == 2) && (x.Twin != (x.ID - 1)))) = true ↔ ((x.Side = 1 ∧ x.Twin - x.ID ≠ 1) ∨ (x.Side = 2 ∧ x.ID - x.Twin ≠ 1)) := by
      simp only [Bool.or_eq_true, Bool.and_eq_true, beq_iff_eq, bne_iff_ne, ne_eq]
      omega
    by_cases s : (x.Side = 1 ∧ x.Twin - x.ID ≠ 1) ∨ (x.Side = 2 ∧ x.ID - x.Twin ≠ 1)
    · rw [if_pos (t2.2 s), if_pos s]
    · rw [if_neg (fun h => s (t2.1 h)), if_neg s, (check_is x.Resets).1, Option.bind_some]
      by_cases z : checkOf x.Resets = 0
      · have ps := check_len z
        have e0 : (nth x.Resets 0).Day = dayAt x.Resets 0 := rfl
        have e1 : (nth x.Resets 0).Rate = rtAt x.Resets 0 := rfl
        rw [if_neg (show ¬ ((checkOf x.Resets != 0) = true) by simpa using z), if_neg (show ¬ (checkOf x.Resets ≠ 0) from fun h => h z), if_pos (by omega), e0, e1]
        by_cases d : dayAt x.Resets 0 = x.Start
        · rw [if_neg (show ¬ ((dayAt x.Resets 0 != x.Start) = true) by simpa using d), if_neg (show ¬ (dayAt x.Resets 0 ≠ x.Start) from fun h => h d), if_pos (by omega), fill_is, Option.bind_some]
          congr 1
          unfold fillOf
          simp only
          by_cases m : 1 ≤ x.Member ∧ x.Member ≤ 32
          · have tm : Int.tmod x.Member 32 = x.Member % 32 := Int.tmod_eq_emod_of_nonneg (by omega)
            have w3 : IntKind.i64.wrap (x.Member % 32 + 1) = x.Member % 32 + 1 := i64_id _ (by omega) (by omega)
            rw [tm, w3, if_neg (by omega), if_neg (by omega), if_neg (by omega)]
            rfl
          · rw [if_pos (.inl m), if_pos m]
        · rw [if_pos (show (dayAt x.Resets 0 != x.Start) = true by simpa using d), if_pos d]
      · rw [if_pos (show (checkOf x.Resets != 0) = true by simpa using z), if_pos z]

theorem same_step (a b : List api_Reset) (hl : a.length = b.length) (hs : a.length < 100000000000000) (i : Nat) (h : i < a.length) :
    (if ((a.getD i default).Day = (b.getD i default).Day ∧ (a.getD i default).Rate = (b.getD i default).Rate) then slices_Equal_api_Reset.r0 a b (i : Int) = some (.inl ((i + 1 : Nat) : Int)) ∧ lombardref23_Resets.r0 a b (i : Int) = some (.inl ((i + 1 : Nat) : Int))
      else slices_Equal_api_Reset.r0 a b (i : Int) = some (.inr (.inl false)) ∧ lombardref23_Resets.r0 a b (i : Int) = some (.inr (.inl false))) := by
  have g : (0 : Int) ≤ (i : Int) ∧ (i : Int) < (a.length : Int) := by omega
  have g' : (0 : Int) ≤ (i : Int) ∧ (i : Int) < (b.length : Int) := by omega
  have w := next64 i (by omega)
  unfold slices_Equal_api_Reset.r0 slices_Equal_api_Reset.b0 lombardref23_Resets.r0 lombardref23_Resets.b0
  simp only [if_pos (decide_eq_true g.2), if_pos g, if_pos g', nth_at, w]
  by_cases c : (a.getD i default).Day = (b.getD i default).Day ∧ (a.getD i default).Rate = (b.getD i default).Rate
  · rw [if_pos c, if_neg (by simpa using c)]; exact ⟨rfl, rfl⟩
  · rw [if_neg c, if_pos (by
      rw [Bool.not_eq_true', Bool.and_eq_false_iff]
      simp only [beq_eq_false_iff_ne, ne_eq]
      omega)]
    exact ⟨rfl, rfl⟩

theorem same_loop (a b : List api_Reset) (hl : a.length = b.length) (hs : a.length < 100000000000000) : ∀ (j i : Nat), a.length = i + j →
    ∃ o : Bool ⊕ Unit, loop (slices_Equal_api_Reset.r0 a b) (i : Int) = some o ∧ loop (lombardref23_Resets.r0 a b) (i : Int) = some o
  | 0, i, h => ⟨.inr (), loop_end (by unfold slices_Equal_api_Reset.r0 slices_Equal_api_Reset.b0; rw [if_neg (by simp; omega)]), loop_end (by unfold lombardref23_Resets.r0 lombardref23_Resets.b0; rw [if_neg (by simp; omega)])⟩
  | j + 1, i, h => by
    have k := same_step a b hl hs i (by omega)
    split at k
    · obtain ⟨o, h1, h2⟩ := same_loop a b hl hs j (i + 1) (by omega)
      exact ⟨o, by rw [loop_next k.1, h1], by rw [loop_next k.2, h2]⟩
    · exact ⟨_, loop_end k.1, loop_end k.2⟩

theorem equal_is (a b : List api_Reset) (hs : a.length < 100000000000000) : ∃ r, slices_Equal_api_Reset.f a b = some r ∧ lombardref23_Resets.f a b = some r := by
  unfold slices_Equal_api_Reset.f lombardref23_Resets.f
  by_cases c : a.length = b.length
  · obtain ⟨o, h1, h2⟩ := same_loop a b c hs a.length 0 (by omega)
    have h1' : loop (slices_Equal_api_Reset.r0 a b) 0 = some o := h1
    have h2' : loop (lombardref23_Resets.r0 a b) 0 = some o := h2
    rw [if_neg (by rw [c]; simp), if_neg (by rw [c]; simp), h1', h2']
    cases o <;> exact ⟨_, rfl, rfl⟩
  · rw [if_pos (by simp; omega), if_pos (by simp; omega)]
    exact ⟨_, rfl, rfl⟩

theorem twins_is (x y : api_Trade) (hx : x.Resets.length < 100000000000000) : ∃ r, trade_Twins.f x y = some r ∧ lombardref23_Twins.f x y = some r := by
  obtain ⟨r, h1, h2⟩ := equal_is x.Resets y.Resets hx
  unfold trade_Twins.f lombardref23_Twins.f
  rw [h1, h2, Bool.beq_comm (a := x.ID) (b := y.Twin), Bool.beq_comm (a := y.ID) (b := x.Twin)]
  have e : ((y.Twin == x.ID) && (x.Twin == y.ID)) = ((x.Twin == y.ID) && (y.Twin == x.ID)) := Bool.and_comm _ _
  rw [e]
  split <;> exact ⟨_, rfl, rfl⟩

end Go.Proofs.Ytidinbjehfodoaa

