/- Shows, in plain whole numbers, the interest of a span of days, the program's day by day and the document's piece by piece. -/
import Derived.Test.YtlgfdldonoaahaaPuRun
namespace Go.Proofs.Ytlgfdldonoaahaa
open Go Go.Pm Go.Pm.Arith Go.Pm.Big
set_option linter.unusedVariables false
set_option linter.unusedSimpArgs false

/-- The rate of a day. -/
noncomputable def rateAt (l : List api_Reset) (d : Int) : Int := match accrue_Rate.f l d with | some r => r.1 | none => 0

theorem rateAt_is {l : List api_Reset} {d : Int} (h : Fine l) : ∃ b, accrue_Rate.f l d = some (rateAt l d, b) := by
  obtain ⟨c, hc, e⟩ := rate_is l d h
  refine ⟨(rt l c).2, ?_⟩
  unfold rateAt
  rw [e]

theorem rateAt_cut {l : List api_Reset} {d : Int} (h : Fine l) {c : Nat} (hc : Cut l d c) : rateAt l d = (rt l c).1 := by
  obtain ⟨e, he, e2⟩ := rate_is l d h
  unfold rateAt
  rw [e2, hc.uniq he]

theorem rateAt_in {l : List api_Reset} {d : Int} (h : Fine l) : -1000000 ≤ rateAt l d ∧ rateAt l d ≤ 1000000 := by
  obtain ⟨c, hc, e⟩ := rate_is l d h
  rw [rateAt_cut h hc]
  unfold rt
  by_cases z : c = 0
  · rw [if_pos z]; exact ⟨by decide, by decide⟩
  · rw [if_neg z]; exact h.rate _ (by have := hc.le; omega)

/-- The rates of n days from x on, in a sum. -/
noncomputable def S (l : List api_Reset) (x : Int) : Nat → Int
  | 0 => 0
  | n + 1 => S l x n + rateAt l (x + n)

theorem S_in {l : List api_Reset} (h : Fine l) (x : Int) : ∀ n : Nat, -(1000000 * (n : Int)) ≤ S l x n ∧ S l x n ≤ 1000000 * (n : Int)
  | 0 => by simp [S]
  | n + 1 => by
    have ih := S_in h x n
    have r := rateAt_in (d := x + n) h
    unfold S
    omega

theorem S_add (l : List api_Reset) (x : Int) (m : Nat) : ∀ n : Nat, S l x (m + n) = S l x m + S l (x + m) n
  | 0 => by simp [S]
  | n + 1 => by
    have ih := S_add l x m n
    show S l x (m + n) + rateAt l (x + ((m + n : Nat) : Int)) = S l x m + (S l (x + m) n + rateAt l (x + m + n))
    rw [ih, show x + ((m + n : Nat) : Int) = x + m + n by omega]; omega

theorem S_const {l : List api_Reset} {x r : Int} : ∀ n : Nat, (∀ u : Nat, u < n → rateAt l (x + u) = r) → S l x n = r * n
  | 0, _ => by simp [S]
  | n + 1, h => by
    have ih := S_const n (fun u hu => h u (by omega))
    unfold S
    rw [ih, h n (by omega), show ((n + 1 : Nat) : Int) = n + 1 by omega, Int.mul_add]; omega

theorem prod_S {l : List api_Reset} (h : Fine l) {a : Int} (ha : 0 ≤ a ∧ a ≤ 1125899906842624) (x : Int) {n : Nat} (hn : n ≤ 3660) : -4120793659044003840000000 ≤ a * S l x n ∧ a * S l x n ≤ 4120793659044003840000000 := by
  have s := S_in h x n
  have b2 := mul_in (x := a) (y := S l x n) (X := 1125899906842624) (Y := 3660000000) (by omega) (by omega)
  omega

theorem run_loop (a : Int) (l : List api_Reset) (x y : Int) (h : Fine l) (ha : 0 ≤ a ∧ a ≤ 1125899906842624) (hx : 0 ≤ x) (hy : y ≤ 200000) (hxy : x ≤ y) (hd : y - x ≤ 3660) :
    ∀ (j i : Nat) (U R : Int), (y - x).toNat = i + j → U = a * S l x i / 360000000 → R = a * S l x i % 360000000 →
    loop (accrue_Run.r0 a l y) (x + i, U, R) = some (.inr (a * S l x (i + j) / 360000000, a * S l x (i + j) % 360000000))
  | 0, i, U, R, hj, hU, hR => by
    subst hU hR
    refine loop_end ?_
    unfold accrue_Run.r0 accrue_Run.b0
    rw [if_neg (by simp; omega)]; rfl
  | j + 1, i, U, R, hj, hU, hR => by
    have b0 := prod_S h ha x (n := i) (by omega)
    have b1 := prod_S h ha x (n := i + 1) (by omega)
    have e : a * S l x (i + 1) = a * S l x i + a * rateAt l (x + i) := by
      show a * (S l x i + rateAt l (x + i)) = _
      rw [Int.mul_add]
    have r := rateAt_in (d := x + i) h
    have g : goodAR a (rateAt l (x + i)) := ⟨ha.1, ha.2, r.1, r.2⟩
    have pb := day_bound g
    obtain ⟨b, hb⟩ := rateAt_is (d := x + i) h
    have w : IntKind.i64.wrap (x + i + 1) = x + ((i + 1 : Nat) : Int) := by rw [i64_id _ (by omega) (by omega)]; omega
    have D : dayOf U R a (rateAt l (x + i)) = (a * S l x (i + 1) / 360000000, a * S l x (i + 1) % 360000000, 0) := by
      unfold dayOf
      rw [if_pos ⟨g, by omega, by omega⟩, e]
      generalize a * rateAt l (x + i) = p at *
      generalize a * S l x i = q at *
      by_cases c : p % 360000000 + R ≥ 360000000
      · rw [if_pos c, if_pos (by unfold inI64; omega)]
        refine Prod.ext (by simp only; omega) (Prod.ext (by simp only; omega) rfl)
      · rw [if_neg c, if_pos (by unfold inI64; omega)]
        refine Prod.ext (by simp only; omega) (Prod.ext (by simp only; omega) rfl)
    have key : accrue_Run.r0 a l y (x + i, U, R) = some (.inl (x + ((i + 1 : Nat) : Int), a * S l x (i + 1) / 360000000, a * S l x (i + 1) % 360000000)) := by
      unfold accrue_Run.r0 accrue_Run.b0
      simp only
      rw [if_pos (decide_eq_true (by omega)), hb, Option.bind_some]
      simp only
      rw [day_is _ _ _ _ (by unfold inI64; omega) (by unfold inI64; omega), Option.bind_some, D, w]
      rfl
    rw [loop_next key, show i + (j + 1) = i + 1 + j by omega]
    exact run_loop a l x y h ha hx hy hxy hd j (i + 1) _ _ (by omega) rfl rfl

def goodSpan (l : List api_Reset) (x y : Int) : Prop := 0 ≤ x ∧ x ≤ 200000 ∧ 0 ≤ y ∧ y ≤ 200000 ∧ x ≤ y ∧ y - x ≤ 3660 ∧ dayAt l 0 ≤ x
instance (l : List api_Reset) (x y : Int) : Decidable (goodSpan l x y) := by unfold goodSpan; exact inferInstance

def runErr (a : Int) (l : List api_Reset) (x y : Int) : Int :=
  if checkOf l ≠ 0 then checkOf l else if ¬ goodSpan l x y then 10 else if ¬ (0 ≤ a ∧ a ≤ 1125899906842624) then 1 else 0

theorem span_test {l : List api_Reset} {x y : Int} (hx : inI64 x) (hy : inI64 y) (h : 0 < l.length) (f : Int → Option Bool) (hf : ∀ d, f d = some ((decide (d ≥ 0)) && (decide (d ≤ 200000)))) :
    ∃ p q, f x = some p ∧ (if (!p) = false then f y else some default) = some q ∧
      ((((((!p) || (!q)) || (decide (x > y))) || (decide ((IntKind.wrap .i64 (y - x)) > 3660))) = false → (0 : Int) ≤ 0 ∧ 0 < (List.length l : Int))) ∧
      ((((((!p) || (!q)) || (decide (x > y))) || (decide ((IntKind.wrap .i64 (y - x)) > 3660))) || (decide (x < ((nth l 0).Day)))) = true ↔ ¬ goodSpan l x y) := by
  unfold inI64 at hx hy
  by_cases hp : 0 ≤ x ∧ x ≤ 200000
  · have e1 : ((decide (x ≥ 0)) && (decide (x ≤ 200000))) = true := by simp; omega
    refine ⟨true, _, by rw [hf, e1], by rw [if_pos (by rfl), hf], fun _ => by omega, ?_⟩
    by_cases hq : 0 ≤ y ∧ y ≤ 200000
    · have e2 : ((decide (y ≥ 0)) && (decide (y ≤ 200000))) = true := by simp; omega
      rw [e2, i64_id _ (by omega) (by omega)]
      have e3 : (nth l 0).Day = dayAt l 0 := rfl
      rw [e3]
      unfold goodSpan
      simp only [Bool.not_true, Bool.false_or, Bool.or_eq_true, decide_eq_true_eq]
      omega
    · have e2 : ((decide (y ≥ 0)) && (decide (y ≤ 200000))) = false := by simp; omega
      rw [e2]
      unfold goodSpan
      simp
      omega
  · have e1 : ((decide (x ≥ 0)) && (decide (x ≤ 200000))) = false := by simp; omega
    refine ⟨false, default, by rw [hf, e1], by rw [if_neg (by decide)], fun _ => by omega, ?_⟩
    unfold goodSpan
    simp
    omega

theorem run_is (a : Int) (l : List api_Reset) (x y : Int) (hx : inI64 x) (hy : inI64 y) :
    accrue_Run.f a l x y = some (if runErr a l x y = 0 then (⟨a * S l x (y - x).toNat / 360000000, a * S l x (y - x).toNat % 360000000⟩, 0) else (⟨0, 0⟩, runErr a l x y)) := by
  unfold accrue_Run.f runErr
  rw [(check_is l).1, Option.bind_some]
  by_cases z : checkOf l = 0
  · have h := fine_of z
    obtain ⟨p, q, e1, e2, e3, e4⟩ := span_test hx hy h.pos calendar_Good.f (fun d => rfl)
    rw [if_neg (by simp [z]), e1, Option.bind_some, e2, Option.bind_some, if_pos e3]
    simp only [z, ne_eq, not_true_eq_false, if_false]
    by_cases g : goodSpan l x y
    · rw [if_neg (fun h => (e4.1 h) g)]
      by_cases ha : 0 ≤ a ∧ a ≤ 1125899906842624
      · have g' := g
        unfold goodSpan at g'
        have L := run_loop a l x y h ha (by omega) (by omega) (by omega) (by omega) (y - x).toNat 0 0 0 (by omega) (by simp [S]) (by simp [S])
        rw [Nat.zero_add] at L
        rw [show x + ((0 : Nat) : Int) = x by omega] at L
        rw [if_neg (by simp; omega), L, Option.bind_some]
        simp [g, ha]
      · rw [if_pos (by simp; omega)]
        simp [g, ha]
    · rw [if_pos (e4.2 g)]
      simp [g]
  · rw [if_pos (by simpa using z), if_pos z, if_neg z]

/-- How far the pieces before k reach. -/
def ends (l : List api_Reset) (x y : Int) (k : Nat) : Int := if k < l.length then min (max (dayAt l k) x) y else y

theorem ref_span_loop (l : List api_Reset) (x y : Int) (h : Fine l) (hx : 0 ≤ x) (hy : y ≤ 200000) (hxy : x ≤ y) (hd : y - x ≤ 3660) : ∀ (j k : Nat), l.length = k + j →
    loop (lombardref03_Between.r0 l x y) (S l x (ends l x y k - x).toNat, (k : Int)) = some (S l x (y - x).toNat)
  | 0, k, hk => by
    have e : ends l x y k = y := by unfold ends; rw [if_neg (by omega)]
    rw [e]
    refine loop_end ?_
    unfold lombardref03_Between.r0 lombardref03_Between.b0
    rw [if_neg (by simp; omega)]
  | j + 1, k, hk => by
    have few := h.few
    have ih := ref_span_loop l x y h hx hy hxy hd j (k + 1) (by omega)
    have w : IntKind.i64.wrap ((k : Int) + 1) = ((k + 1 : Nat) : Int) := next64 k (by omega)
    have dk := h.day k (by omega)
    have rk := h.rate k (by omega)
    obtain ⟨to, hto⟩ : ∃ to, to = (if k + 1 < l.length ∧ dayAt l (k + 1) < y then dayAt l (k + 1) else y) := ⟨_, rfl⟩
    obtain ⟨from', hfrom⟩ : ∃ f, f = max (dayAt l k) x := ⟨_, rfl⟩
    have to_in : 0 ≤ to ∧ to ≤ y := by
      rw [hto]; split
      · rename_i c
        have := h.day (k + 1) c.1; omega
      · omega
    have A : (if ((decide (((k + 1 : Nat) : Int) < (List.length l : Int))) && (decide ((dayAt l (k + 1)) < y))) = true then
        if (0 : Int) ≤ ((k + 1 : Nat) : Int) ∧ ((k + 1 : Nat) : Int) < (List.length l : Int) then some (dayAt l (k + 1)) else none
      else some y) = some to := by
      rw [hto]
      by_cases c : k + 1 < l.length ∧ dayAt l (k + 1) < y
      · rw [if_pos c, if_pos (by simp; omega), if_pos (by omega)]
      · rw [if_neg c, if_neg (by simp; omega)]
    have B : (if (decide (dayAt l k < x)) = true then some x else some (dayAt l k)) = some from' := by
      rw [hfrom]
      by_cases c : dayAt l k < x
      · rw [if_pos (decide_eq_true c)]; congr 1; omega
      · rw [if_neg (by simpa using c)]; congr 1; omega
    have key0 : lombardref03_Between.r0 l x y (S l x (ends l x y k - x).toNat, (k : Int)) =
        if to > from' then some (.inl (IntKind.wrap .i64 (S l x (ends l x y k - x).toNat + IntKind.wrap .i64 (rtAt l k * IntKind.wrap .i64 (to - from'))), ((k + 1 : Nat) : Int))) else some (.inl (S l x (ends l x y k - x).toNat, ((k + 1 : Nat) : Int))) := by
      unfold lombardref03_Between.r0 lombardref03_Between.b0
      simp only
      have dd : (l.getD k default).Day = dayAt l k := rfl
      have rr : (l.getD k default).Rate = rtAt l k := rfl
      have dd1 : (l.getD (k + 1) default).Day = dayAt l (k + 1) := rfl
      rw [if_pos (decide_eq_true (by omega)), if_pos (by omega), w, if_pos (fun h => by have := of_decide_eq_true h; omega), nth_at, nth_at, dd, dd1, rr, A, Option.bind_some, B, Option.bind_some]
      by_cases c : to > from'
      · rw [if_pos c, if_pos (decide_eq_true c), if_pos (by omega)]
      · rw [if_neg c, if_neg (by simpa using c)]
    by_cases c : to > from'
    · rw [if_pos c] at key0
      have ek : ends l x y k = from' := by unfold ends; rw [if_pos (by omega), ← hfrom]; omega
      have ek1 : ends l x y (k + 1) = to := by
        unfold ends
        by_cases c1 : k + 1 < l.length
        · rw [if_pos c1]
          by_cases c2 : dayAt l (k + 1) < y
          · rw [if_pos ⟨c1, c2⟩] at hto; omega
          · rw [if_neg (fun h => c2 h.2)] at hto; omega
        · rw [if_neg (fun h => c1 h.1)] at hto; rw [if_neg c1]; omega
      have cst : S l (x + (((from' - x).toNat : Nat) : Int)) (to - from').toNat = rtAt l k * (((to - from').toNat : Nat) : Int) := by
        refine S_const _ (fun u hu => ?_)
        have cut : Cut l (x + (((from' - x).toNat : Nat) : Int) + u) (k + 1) := by
          refine ⟨by omega, fun m hm => ?_, fun m hm hm2 => ?_⟩
          · by_cases e : m = k
            · subst e; omega
            · have := h.sort (k := m) (m := k) (by omega) (by omega); omega
          · have lt : dayAt l (k + 1) ≤ dayAt l m := by
              by_cases e : m = k + 1
              · subst e; omega
              · have := h.sort (k := k + 1) (m := m) (by omega) hm2; omega
            by_cases c2 : dayAt l (k + 1) < y
            · rw [if_pos ⟨by omega, c2⟩] at hto; omega
            · rw [if_neg (fun h => c2 h.2)] at hto; omega
        rw [rateAt_cut h cut]
        unfold rt
        rw [if_neg (by omega), Nat.add_sub_cancel]
      have sa := S_add l x (from' - x).toNat (to - from').toNat
      rw [cst, show (from' - x).toNat + (to - from').toNat = (to - x).toNat by omega] at sa
      have b1 := S_in h x (from' - x).toNat
      have b2 := S_in h x (to - x).toNat
      have b3 := mul_in (x := rtAt l k) (y := to - from') (X := 1000000) (Y := 3660) (by omega) (by omega)
      rw [ek, i64_id (to - from') (by omega) (by omega), i64_id (rtAt l k * (to - from')) (by omega) (by omega)] at key0
      rw [show (((to - from').toNat : Nat) : Int) = to - from' by omega] at sa
      rw [← sa, i64_id _ (by omega) (by omega)] at key0
      rw [ek, loop_next key0]
      rw [ek1] at ih
      exact ih
    · rw [if_neg c] at key0
      have ek : ends l x y (k + 1) = ends l x y k := by
        unfold ends
        rw [if_pos (show k < l.length by omega)]
        by_cases c1 : k + 1 < l.length
        · have nx := h.next k c1
          rw [if_pos c1]
          by_cases c2 : dayAt l (k + 1) < y
          · rw [if_pos ⟨c1, c2⟩] at hto; omega
          · rw [if_neg (fun h => c2 h.2)] at hto; omega
        · rw [if_neg (fun h => c1 h.1)] at hto; rw [if_neg c1]; omega
      rw [loop_next key0]
      rw [ek] at ih
      exact ih

theorem ref_between_is (a : Int) (l : List api_Reset) (x y : Int) (ha64 : inI64 a) (hx : inI64 x) (hy : inI64 y) :
    lombardref03_Between.f a l x y = some (if runErr a l x y = 0 then (a * S l x (y - x).toNat / 360000000, 0) else (0, runErr a l x y)) := by
  unfold lombardref03_Between.f runErr
  rw [(check_is l).2, Option.bind_some, Option.bind_some]
  by_cases z : checkOf l = 0
  · have h := fine_of z
    obtain ⟨p, q, e1, e2, e3, e4⟩ := span_test hx hy h.pos lombardref02_Good.f (fun d => rfl)
    rw [if_neg (by simp [z]), e1, Option.bind_some, e2, Option.bind_some, if_pos e3]
    simp only [z, ne_eq, not_true_eq_false, if_false]
    by_cases g : goodSpan l x y
    · rw [if_neg (fun h => (e4.1 h) g)]
      have am : lombardref03_Amount.f a = some (decide (0 ≤ a ∧ a ≤ 1125899906842624)) := by
        unfold lombardref03_Amount.f
        congr 1
        by_cases c : 0 ≤ a ∧ a ≤ 1125899906842624
        · rw [decide_eq_true c]; simp; omega
        · rw [decide_eq_false c]; simp; omega
      rw [am, Option.bind_some]
      by_cases ha : 0 ≤ a ∧ a ≤ 1125899906842624
      · have g' := g
        unfold goodSpan at g'
        have e0 : ends l x y 0 = x := by unfold ends; rw [if_pos h.pos]; omega
        have L := ref_span_loop l x y h (by omega) (by omega) (by omega) (by omega) l.length 0 (by omega)
        rw [e0, show (x - x).toNat = 0 by omega] at L
        have L' : loop (lombardref03_Between.r0 l x y) (0, 0) = some (S l x (y - x).toNat) := L
        have pb := prod_S h ha x (n := (y - x).toNat) (by omega)
        have sb := S_in h x (y - x).toNat
        rw [if_neg (by simp [ha]), L', Option.bind_some, ref_muldiv_is _ _ _ _ (by omega) (by omega) (by omega), md_floor _ _ _ ha.1 (by decide) (by omega) (by omega)]
        simp [g, ha]
      · rw [if_pos (by simp [ha])]
        simp [g, ha]
    · rw [if_pos (e4.2 g)]
      simp [g]
  · rw [if_pos (by simpa using z), if_pos z, if_neg z]

theorem between_is (a : Int) (l : List api_Reset) (x y : Int) (hx : inI64 x) (hy : inI64 y) :
    accrue_Between.f a l x y = some (if runErr a l x y = 0 then (a * S l x (y - x).toNat / 360000000, 0) else (0, runErr a l x y)) := by
  unfold accrue_Between.f
  rw [run_is a l x y hx hy, Option.bind_some]
  by_cases c : runErr a l x y = 0
  · rw [if_pos c, if_pos c]
  · rw [if_neg c, if_neg c]

theorem runErr_zero {a : Int} {l : List api_Reset} {x y : Int} (h : runErr a l x y = 0) : Fine l ∧ goodSpan l x y ∧ 0 ≤ a ∧ a ≤ 1125899906842624 := by
  unfold runErr at h
  by_cases z : checkOf l = 0
  · rw [if_neg (fun k => k z)] at h
    by_cases g : goodSpan l x y
    · rw [if_neg (fun k => k g)] at h
      by_cases ha : 0 ≤ a ∧ a ≤ 1125899906842624
      · exact ⟨fine_of z, g, ha.1, ha.2⟩
      · rw [if_pos ha] at h; omega
    · rw [if_pos g] at h; omega
  · rw [if_pos z] at h; exact absurd h z

end Go.Proofs.Ytlgfdldonoaahaa

