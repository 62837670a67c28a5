/- The pure machine, part N: states as lists, steps over these, joins, loops, calls, a function's contract. Conditions: none (definitions and lemmas alone). -/
import Derived.Test.YtidinbjehfodoaaPmH
import Derived.Test.YtidinbjehfodoaaPmM
namespace Go.Pm
open Go
set_option linter.unusedVariables false
set_option linter.unusedSimpArgs false

def iter {α β : Type} (f : α → Option (α ⊕ β)) : Nat → α → Option β
  | 0, _ => none
  | k + 1, a => match f a with
    | none => none
    | some (.inl a') => iter f k a'
    | some (.inr b) => some b

theorem iter_mono {α β : Type} {f : α → Option (α ⊕ β)} : ∀ {k m : Nat} {a : α} {b : β}, iter f k a = some b → k ≤ m → iter f m a = some b
  | 0, _, _, _, h, _ => by cases h
  | k + 1, 0, _, _, _, hm => by omega
  | k + 1, m + 1, a, b, h, hm => by
    simp only [iter] at h ⊢
    cases hf : f a with
    | none => rw [hf] at h; cases h
    | some s =>
      rw [hf] at h
      cases s with
      | inl a' => exact iter_mono h (by omega)
      | inr b' => exact h

theorem iter_det {α β : Type} {f : α → Option (α ⊕ β)} {k m : Nat} {a : α} {b c : β} (h : iter f k a = some b) (h' : iter f m a = some c) : b = c := by
  have h1 := iter_mono h (Nat.le_max_left k m)
  have h2 := iter_mono h' (Nat.le_max_right k m)
  rw [h1] at h2; cases h2; rfl

open Classical in
/-- What a loop comes to: none, if a round has no answer, or there is no end. -/
noncomputable def loop {α β : Type} (f : α → Option (α ⊕ β)) (a : α) : Option β :=
  match iter f 4611686018427387904 a with
  | some b => some b
  | none => if h : ∃ b k, iter f k a = some b then some h.choose else none

theorem loop_of {α β : Type} {f : α → Option (α ⊕ β)} {a : α} {b : β} {k : Nat} (h : iter f k a = some b) : loop f a = some b := by
  unfold loop
  cases hi : iter f 4611686018427387904 a with
  | some c => rw [iter_det hi h]
  | none =>
    have hex : ∃ b k, iter f k a = some b := ⟨b, k, h⟩
    simp only []
    rw [dif_pos hex]
    obtain ⟨m, hm⟩ := hex.choose_spec
    rw [iter_det hm h]

theorem loop_some {α β : Type} {f : α → Option (α ⊕ β)} {a : α} {b : β} (h : loop f a = some b) : ∃ k, iter f k a = some b := by
  unfold loop at h
  cases hi : iter f 4611686018427387904 a with
  | some c => rw [hi] at h; cases h; exact ⟨_, hi⟩
  | none =>
    rw [hi] at h
    simp only [] at h
    by_cases hex : ∃ b k, iter f k a = some b
    · rw [dif_pos hex] at h; cases h; exact hex.choose_spec
    · rw [dif_neg hex] at h; cases h

theorem loop_eq {α β : Type} (f : α → Option (α ⊕ β)) (a : α) : loop f a = (f a).bind fun s => match s with | .inl a' => loop f a' | .inr b => some b := by
  cases hf : f a with
  | none =>
    cases hl : loop f a with
    | none => rfl
    | some b =>
      obtain ⟨k, hk⟩ := loop_some hl
      cases k with
      | zero => cases hk
      | succ k => simp only [iter, hf] at hk; cases hk
  | some s =>
    cases s with
    | inr b => exact loop_of (k := 1) (by simp only [iter, hf])
    | inl a' =>
      simp only [Option.bind_some]
      cases hl : loop f a' with
      | some b => obtain ⟨k, hk⟩ := loop_some hl; exact loop_of (k := k + 1) (by simp only [iter, hf]; exact hk)
      | none =>
        cases hl2 : loop f a with
        | none => rfl
        | some b =>
          obtain ⟨k, hk⟩ := loop_some hl2
          cases k with
          | zero => cases hk
          | succ k => simp only [iter, hf] at hk; rw [loop_of hk] at hl; cases hl

theorem loop_next {α β : Type} {f : α → Option (α ⊕ β)} {a a' : α} (h : f a = some (.inl a')) : loop f a = loop f a' := by rw [loop_eq, h]; rfl
theorem loop_end {α β : Type} {f : α → Option (α ⊕ β)} {a : α} {b : β} (h : f a = some (.inr b)) : loop f a = some b := by rw [loop_eq, h]; rfl

theorem chk {α : Type} {p : Prop} [Decidable p] {m : Option α} {r : α} (h : (if p then m else none) = some r) : p ∧ m = some r := by
  by_cases hp : p
  · rw [if_pos hp] at h; exact ⟨hp, h⟩
  · rw [if_neg hp] at h; cases h
theorem bnd1 {α β : Type} {m : Option α} {f : α → Option β} {r : β} (h : m.bind f = some r) : ∃ a, m = some a ∧ f a = some r := by
  cases m with
  | none => cases h
  | some a => exact ⟨a, rfl, h⟩

def lks : List (Nat × Option AV) → Nat → Option AV
  | [], _ => none
  | (k, x) :: l, i => cond (Nat.beq i k) x (lks l i)
def lkt : List (Nat × Option Tok) → Nat → Option Tok
  | [], _ => none
  | (k, x) :: l, i => cond (Nat.beq i k) x (lkt l i)

def mkSt (sl : List (Nat × Option AV)) (tk : List (Nat × Option Tok)) (n : Nat) : St := ⟨lks sl, lkt tk, fun k => n ≤ k⟩

theorem St.ext' {a b : St} (h1 : ∀ i, a.sl i = b.sl i) (h2 : ∀ k, a.tk k = b.tk k) (h3 : ∀ k, a.free k ↔ b.free k) : a = b := by
  obtain ⟨s, t, f⟩ := a
  obtain ⟨s', t', f'⟩ := b
  obtain rfl : s = s' := funext h1
  obtain rfl : t = t' := funext h2
  obtain rfl : f = f' := funext fun k => propext (h3 k)
  rfl

theorem lks_cons (k : Nat) (x : Option AV) (l : List (Nat × Option AV)) (i : Nat) : lks ((k, x) :: l) i = if i = k then x else lks l i := by
  simp only [lks]
  by_cases e : i = k
  · subst e; rw [Nat.beq_refl]; simp
  · rw [if_neg e, show Nat.beq i k = false from by rw [← Bool.not_eq_true]; exact fun h => e (Nat.eq_of_beq_eq_true h)]; rfl
theorem lkt_cons (k : Nat) (x : Option Tok) (l : List (Nat × Option Tok)) (i : Nat) : lkt ((k, x) :: l) i = if i = k then x else lkt l i := by
  simp only [lkt]
  by_cases e : i = k
  · subst e; rw [Nat.beq_refl]; simp
  · rw [if_neg e, show Nat.beq i k = false from by rw [← Bool.not_eq_true]; exact fun h => e (Nat.eq_of_beq_eq_true h)]; rfl
theorem lkt_append (a b : List (Nat × Option Tok)) (i : Nat) : lkt (a ++ b) i = match lkp a i with | some u => u | none => lkt b i := by
  induction a with
  | nil => rfl
  | cons p a ih =>
    obtain ⟨k, x⟩ := p
    rw [List.cons_append, lkt_cons, ih]
    simp only [lkp]
    by_cases e : i = k <;> simp [e]

variable {sl : List (Nat × Option AV)} {tk : List (Nat × Option Tok)} {n : Nat}

theorem mk_out (d : Nat) (v : Option AV) (ts : List (Nat × Option Tok)) (m : Nat) : (mkSt sl tk n).out (some d) ⟨v, ts, List.range' n m⟩ = mkSt ((d, v) :: sl) (ts ++ tk) (n + m) := by
  refine St.ext' (fun i => ?_) (fun k => ?_) (fun k => ?_)
  · simp only [St.out, mkSt, lks_cons]
  · simp only [St.out, mkSt, lkt_append]; cases lkp ts k <;> rfl
  · simp only [St.out, mkSt, List.mem_range'_1]; omega
theorem mk_out0 (v : Option AV) (ts : List (Nat × Option Tok)) (m : Nat) : (mkSt sl tk n).out none ⟨v, ts, List.range' n m⟩ = mkSt sl (ts ++ tk) (n + m) := by
  refine St.ext' (fun i => ?_) (fun k => ?_) (fun k => ?_)
  · simp only [St.out, mkSt]
  · simp only [St.out, mkSt, lkt_append]; cases lkp ts k <;> rfl
  · simp only [St.out, mkSt, List.mem_range'_1]; omega
theorem mk_skip (d : Nat) : (mkSt sl tk n).skip (some d) = mkSt ((d, some (.imm (.val undef))) :: sl) tk n := by
  refine St.ext' (fun i => ?_) (fun k => rfl) (fun k => Iff.rfl)
  simp only [St.skip, St.set, mkSt, lks_cons]

/-- The operation's test is met. -/
def Met (ops : Array Oper) (σ : St) (g : Option (Nat × Bool)) (ok : Bool) : Prop :=
  match g with
  | none => ok = true
  | some (j, want) => ∃ oj dj v, ops[j]? = some oj ∧ oj.dst = some dj ∧ σ.sl dj = some (.imm (.val v)) ∧ (asB v == some want) = ok

section
variable {P : Program} {ops : Array Oper} {l : List Oper} {σ σ' : St} {ms : List Stp} {o : Oper} {d m : Nat} {fp : List Nat}

theorem Run.go {out : Out} (hg : Met ops σ o.guard true) (h : OpL P o σ fp out) (hu : ∀ k, k ∈ out.use → σ.free k) (k : Run P ops l (σ.out o.dst out) ms σ') : Run P ops (o :: l) σ ((fp, .out out) :: ms) σ' := by
  cases he : o.guard with
  | none => exact .step he h hu k
  | some p =>
    obtain ⟨j, want⟩ := p
    rw [he] at hg
    obtain ⟨oj, dj, b, h1, h2, h3, h4⟩ := hg
    exact .yes he h1 h2 h3 h4 h hu k

/-- A value. -/
theorem Run.v {v : AV} (hd : o.dst = some d) (hg : Met ops (mkSt sl tk n) o.guard true) (h : OpL P o (mkSt sl tk n) fp ⟨some v, [], []⟩) (k : Run P ops l (mkSt ((d, some v) :: sl) tk n) ms σ') :
    Run P ops (o :: l) (mkSt sl tk n) ((fp, .out ⟨some v, [], []⟩) :: ms) σ' := by
  refine .go hg h (fun k hk => by cases hk) ?_
  rw [hd]
  have := mk_out (sl := sl) (tk := tk) (n := n) d (some v) [] 0
  simp only [List.range'_zero, List.nil_append, Nat.add_zero] at this
  rw [this]; exact k
/-- A value that nobody keeps. -/
theorem Run.v0 {v : AV} (hd : o.dst = none) (hg : Met ops (mkSt sl tk n) o.guard true) (h : OpL P o (mkSt sl tk n) fp ⟨some v, [], []⟩) (k : Run P ops l (mkSt sl tk n) ms σ') :
    Run P ops (o :: l) (mkSt sl tk n) ((fp, .out ⟨some v, [], []⟩) :: ms) σ' := by
  refine .go hg h (fun k hk => by cases hk) ?_
  rw [hd]
  have := mk_out0 (sl := sl) (tk := tk) (n := n) (some v) [] 0
  simp only [List.range'_zero, List.nil_append, Nat.add_zero] at this
  rw [this]; exact k
/-- A value, and a new token. -/
theorem Run.t {v : AV} {ts : List (Nat × Option Tok)} (hd : o.dst = some d) (hg : Met ops (mkSt sl tk n) o.guard true) (h : OpL P o (mkSt sl tk n) fp ⟨some v, ts, [n]⟩) (k : Run P ops l (mkSt ((d, some v) :: sl) (ts ++ tk) (n + 1)) ms σ') :
    Run P ops (o :: l) (mkSt sl tk n) ((fp, .out ⟨some v, ts, [n]⟩) :: ms) σ' := by
  refine .go hg h (fun k hk => by simp at hk; subst hk; exact Nat.le_refl _) ?_
  rw [hd]
  have := mk_out (sl := sl) (tk := tk) (n := n) d (some v) ts 1
  rw [show List.range' n 1 = [n] from rfl] at this
  rw [this]; exact k
/-- A value, and many tokens. -/
theorem Run.c {v : AV} {ts : List (Nat × Option Tok)} (hd : o.dst = some d) (hg : Met ops (mkSt sl tk n) o.guard true) (h : OpL P o (mkSt sl tk n) fp ⟨some v, ts, List.range' n m⟩) (k : Run P ops l (mkSt ((d, some v) :: sl) (ts ++ tk) (n + m)) ms σ') :
    Run P ops (o :: l) (mkSt sl tk n) ((fp, .out ⟨some v, ts, List.range' n m⟩) :: ms) σ' := by
  refine .go hg h (fun k hk => by rw [List.mem_range'_1] at hk; exact hk.1) ?_
  rw [hd, mk_out]; exact k
theorem Run.c0 {v : AV} {ts : List (Nat × Option Tok)} (hd : o.dst = none) (hg : Met ops (mkSt sl tk n) o.guard true) (h : OpL P o (mkSt sl tk n) fp ⟨some v, ts, List.range' n m⟩) (k : Run P ops l (mkSt sl (ts ++ tk) (n + m)) ms σ') :
    Run P ops (o :: l) (mkSt sl tk n) ((fp, .out ⟨some v, ts, List.range' n m⟩) :: ms) σ' := by
  refine .go hg h (fun k hk => by rw [List.mem_range'_1] at hk; exact hk.1) ?_
  rw [hd, mk_out0]; exact k
/-- A store. -/
theorem Run.s {ts : List (Nat × Option Tok)} (hd : o.dst = none) (hg : Met ops (mkSt sl tk n) o.guard true) (h : OpL P o (mkSt sl tk n) fp ⟨none, ts, []⟩) (k : Run P ops l (mkSt sl (ts ++ tk) n) ms σ') :
    Run P ops (o :: l) (mkSt sl tk n) ((fp, .out ⟨none, ts, []⟩) :: ms) σ' := by
  refine .go hg h (fun k hk => by cases hk) ?_
  rw [hd]
  have := mk_out0 (sl := sl) (tk := tk) (n := n) none ts 0
  simp only [List.range'_zero, Nat.add_zero] at this
  rw [this]; exact k
/-- It is left out. -/
theorem Run.x (hd : o.dst = some d) (hg : Met ops (mkSt sl tk n) o.guard false) (k : Run P ops l (mkSt ((d, some (.imm (.val undef))) :: sl) tk n) ms σ') : Run P ops (o :: l) (mkSt sl tk n) (([], .skip) :: ms) σ' := by
  cases he : o.guard with
  | none => rw [he] at hg; cases hg
  | some p =>
    obtain ⟨j, want⟩ := p
    rw [he] at hg
    obtain ⟨oj, dj, b, h1, h2, h3, h4⟩ := hg
    refine .no he h1 h2 h3 h4 ?_
    rw [hd, mk_skip]; exact k
theorem Run.x0 (hd : o.dst = none) (hg : Met ops (mkSt sl tk n) o.guard false) (k : Run P ops l (mkSt sl tk n) ms σ') : Run P ops (o :: l) (mkSt sl tk n) (([], .skip) :: ms) σ' := by
  cases he : o.guard with
  | none => rw [he] at hg; cases hg
  | some p =>
    obtain ⟨j, want⟩ := p
    rw [he] at hg
    obtain ⟨oj, dj, b, h1, h2, h3, h4⟩ := hg
    refine .no he h1 h2 h3 h4 ?_
    rw [hd]; exact k

theorem met {j dj : Nat} {want b : Bool} {oj : Oper} (h1 : ops[j]? = some oj) (h2 : oj.dst = some dj) (h3 : σ.sl dj = some (.imm (.val (.bool b)))) (h4 : b = want) : Met ops σ (some (j, want)) true :=
  ⟨oj, dj, _, h1, h2, h3, by simp [h4, asB]⟩
theorem unmet {j dj : Nat} {want b : Bool} {oj : Oper} (h1 : ops[j]? = some oj) (h2 : oj.dst = some dj) (h3 : σ.sl dj = some (.imm (.val (.bool b)))) (h4 : b = !want) : Met ops σ (some (j, want)) false :=
  ⟨oj, dj, _, h1, h2, h3, by cases want <;> simp [h4, asB]⟩
theorem unmetU {j dj : Nat} {want : Bool} {oj : Oper} (h1 : ops[j]? = some oj) (h2 : oj.dst = some dj) (h3 : σ.sl dj = some (.imm (.val undef))) : Met ops σ (some (j, want)) false :=
  ⟨oj, dj, _, h1, h2, h3, rfl⟩

/-- New keys are free. -/
def usesOk (n : Nat) (ms : List Stp) : Bool := ms.all fun m => m.2.use.all fun k => Nat.ble n k

theorem usesOk_free (h : usesOk n ms = true) : ∀ (q : Nat) (m : Stp), ms[q]? = some m → ∀ k, k ∈ m.2.use → (mkSt sl tk n).free k := by
  intro q m hm k hk
  simp only [usesOk, List.all_eq_true] at h
  exact Nat.le_of_ble_eq_true (h m (List.mem_of_getElem? hm) k hk)

variable {KK : Px → St → Prop}

theorem W.drawM {id : Nat} (bs : List (List Nat)) (hr : Run P ops ops.toList (mkSt sl tk n) ms σ') (hm : P.follows .mixedOrders = true) (h1 : befOk ops bs = true) (h2 : indep ops ms bs = true) (h3 : usesOk n ms = true) (hK : KK .normal σ') : W P (.region id ops true) (mkSt sl tk n) KK :=
  .draw bs hm hr hK h1 h2 (usesOk_free h3)

def AllS (f : Nat → Option AV) : List (Nat × Option AV) → Prop
  | [] => True
  | (i, x) :: r => f i = x ∧ AllS f r
def AllT (f : Nat → Option Tok) : List (Nat × Option Tok) → Prop
  | [] => True
  | (i, x) :: r => f i = x ∧ AllT f r

theorem AllS.out {f : Nat → Option AV} : ∀ {l : List (Nat × Option AV)}, AllS f l → ∀ i x, lks l i = some x → f i = some x
  | [], _, _, _, h => by cases h
  | (k, y) :: l, h, i, x, hx => by
    rw [lks_cons] at hx
    by_cases e : i = k
    · rw [if_pos e] at hx; rw [e, h.1, hx]
    · rw [if_neg e] at hx; exact AllS.out h.2 i x hx
theorem AllT.out {f : Nat → Option Tok} : ∀ {l : List (Nat × Option Tok)}, AllT f l → ∀ i x, lkt l i = some x → f i = some x
  | [], _, _, _, h => by cases h
  | (k, y) :: l, h, i, x, hx => by
    rw [lkt_cons] at hx
    by_cases e : i = k
    · rw [if_pos e] at hx; rw [e, h.1, hx]
    · rw [if_neg e] at hx; exact AllT.out h.2 i x hx

theorem Gives.mk {sl' : List (Nat × Option AV)} {tk' : List (Nat × Option Tok)} {n' : Nat} (h1 : AllS (lks sl) sl') (h2 : AllT (lkt tk) tk') (h3 : Nat.ble n n' = true) : Gives (mkSt sl tk n) (mkSt sl' tk' n') :=
  fun cx g a w h => ⟨g, h.weaken _ (fun i x hx => h1.out i x hx) (fun k t ht => h2.out k t ht) (fun k hk => Nat.le_trans (Nat.le_of_ble_eq_true h3) hk)⟩

theorem Gives.entry {xs : List X} {sl' : List (Nat × Option AV)} {tk' : List (Nat × Option Tok)} (h1 : AllS (fun i => (imps xs 0).1[i]?) sl') (h2 : AllT (fun k => lkp (imps xs 0).2.1 k) tk') : Gives (Pm.entry xs) (mkSt sl' tk' 1000) :=
  fun cx g a w h => ⟨g, h.weaken _ (fun i x hx => h1.out i x hx) (fun k t ht => h2.out k t ht) (fun k hk => hk)⟩

inductive To (e0 : Px) (τ : St) : Px → St → Prop where
  | mk {σ : St} : Gives σ τ → To e0 τ e0 σ

end
end Go.Pm
