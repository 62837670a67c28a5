/- Shows, in plain lists, what a stable sort is, and that there is but one. -/
import Derived.Test.YtlgfdldonoaahaaPmArith
import Derived.Test.YtlgfdldonoaahaaPmS
namespace Go.Proofs.Ytlgfdldonoaahaa
set_option linter.unusedVariables false
set_option linter.unusedSimpArgs false

/-- An order of keys. -/
structure Ord {K : Type} (lt : K → K → Prop) : Prop where
  irrefl : ∀ a, ¬ lt a a
  trans : ∀ a b c, lt a b → lt b c → lt a c
  tri : ∀ a b, lt a b ∨ a = b ∨ lt b a

section
variable {α K : Type} {κ : α → K} {lt : K → K → Prop}

theorem Ord.le_trans (O : Ord lt) {a b c : K} (h1 : ¬ lt b a) (h2 : ¬ lt c b) : ¬ lt c a := fun h => by
  rcases O.tri a b with q | q | q
  · exact h2 (O.trans _ _ _ h q)
  · subst q; exact h2 h
  · exact h1 q
theorem Ord.lt_le (O : Ord lt) {a b c : K} (h1 : lt a b) (h2 : ¬ lt c b) : lt a c := by
  rcases O.tri b c with q | q | q
  · exact O.trans _ _ _ h1 q
  · subst q; exact h1
  · exact (h2 q).elim
theorem Ord.le_lt (O : Ord lt) {a b c : K} (h1 : ¬ lt b a) (h2 : lt b c) : lt a c := by
  rcases O.tri a b with q | q | q
  · exact O.trans _ _ _ q h2
  · subst q; exact h2
  · exact (h1 q).elim
theorem Ord.asymm (O : Ord lt) {a b : K} (h : lt a b) : ¬ lt b a := fun q => O.irrefl a (O.trans _ _ _ h q)

def Srt (κ : α → K) (lt : K → K → Prop) (l : List α) : Prop := l.Pairwise fun x y => ¬ lt (κ y) (κ x)
theorem srt_one (x : α) : Srt κ lt [x] := by unfold Srt; simp
theorem srt_append {A B : List α} : Srt κ lt (A ++ B) ↔ Srt κ lt A ∧ Srt κ lt B ∧ ∀ x ∈ A, ∀ y ∈ B, ¬ lt (κ y) (κ x) := List.pairwise_append
theorem set_at' (P : List α) (x y : α) (S : List α) {i : Nat} (h : P.length = i) : (P ++ x :: S).set (Int.toNat (i : Int)) y = P ++ y :: S := by
  subst h
  rw [Int.toNat_natCast, List.set_append_right _ _ (Nat.le_refl _), Nat.sub_self]; rfl
end
section
variable {α K : Type} [DecidableEq K] {κ : α → K} {lt : K → K → Prop}

def of (κ : α → K) (k : K) (l : List α) : List α := l.filter fun x => decide (κ x = k)
/-- M is L, put in order, what is alike left in its order. -/
def Sg (κ : α → K) (lt : K → K → Prop) (L M : List α) : Prop := Srt κ lt M ∧ ∀ k, of κ k M = of κ k L

theorem of_append (k : K) (l m : List α) : of κ k (l ++ m) = of κ k l ++ of κ k m := List.filter_append ..
theorem of_cons (k : K) (x : α) (l : List α) : of κ k (x :: l) = if κ x = k then x :: of κ k l else of κ k l := by
  unfold of; rw [List.filter_cons]; simp
theorem mem_of {k : K} {x : α} {l : List α} : x ∈ of κ k l ↔ x ∈ l ∧ κ x = k := by unfold of; simp [List.mem_filter]
theorem same_mem {L M : List α} (h : ∀ k, of κ k M = of κ k L) (x : α) : x ∈ M ↔ x ∈ L := by
  have := h (κ x)
  constructor
  · intro hx; have : x ∈ of κ (κ x) L := by rw [← this]; exact mem_of.2 ⟨hx, rfl⟩
    exact (mem_of.1 this).1
  · intro hx; have : x ∈ of κ (κ x) M := by rw [this]; exact mem_of.2 ⟨hx, rfl⟩
    exact (mem_of.1 this).1

/-- There is but one. -/
theorem sg_uniq (O : Ord lt) : ∀ (M M' : List α), Srt κ lt M → Srt κ lt M' → (∀ k, of κ k M = of κ k M') → M = M'
  | [], [], _, _, _ => rfl
  | [], y :: T', _, _, h => by have := (same_mem h y).2 List.mem_cons_self; cases this
  | x :: T, [], _, _, h => by have := (same_mem h x).1 List.mem_cons_self; cases this
  | x :: T, y :: T', h1, h2, h => by
    obtain ⟨a1, a2⟩ := List.pairwise_cons.1 h1
    obtain ⟨b1, b2⟩ := List.pairwise_cons.1 h2
    have e : κ x = κ y := by
      have hy := (same_mem h y).2 List.mem_cons_self
      have hx := (same_mem h x).1 List.mem_cons_self
      have c1 : ¬ lt (κ y) (κ x) := by
        rcases List.mem_cons.1 hy with q | q
        · rw [q]; exact O.irrefl _
        · exact a1 y q
      have c2 : ¬ lt (κ x) (κ y) := by
        rcases List.mem_cons.1 hx with q | q
        · rw [q]; exact O.irrefl _
        · exact b1 x q
      rcases O.tri (κ x) (κ y) with q | q | q
      · exact (c2 q).elim
      · exact q
      · exact (c1 q).elim
    have hk := h (κ x)
    rw [of_cons, of_cons, if_pos rfl, if_pos e.symm] at hk
    injection hk with e1 e2
    subst e1
    rw [sg_uniq O T T' a2 b2 (fun k => by
      have hk := h k
      rw [of_cons, of_cons] at hk
      split at hk
      · injection hk
      · exact hk)]

theorem sg_refl {L : List α} (h : Srt κ lt L) : Sg κ lt L L := ⟨h, fun _ => rfl⟩
/-- What came of what came. -/
theorem sg_trans {L L' M : List α} (h : Sg κ lt L' M) (h' : ∀ k, of κ k L' = of κ k L) : Sg κ lt L M := ⟨h.1, fun k => (h.2 k).trans (h' k)⟩

/-- Two parts that were exchanged before they were put in order. -/
theorem sg_sym (O : Ord lt) {L1 L2 R1 R2 M1 M2 : List α} (hL : Srt κ lt (L1 ++ L2)) (hR : Srt κ lt (R1 ++ R2)) (h1 : Sg κ lt (L1 ++ R1) M1) (h2 : Sg κ lt (L2 ++ R2) M2)
    (a : ∀ x ∈ L1, ∀ y ∈ R2, ¬ lt (κ y) (κ x)) (b : ∀ x ∈ R1, ∀ y ∈ L2, lt (κ x) (κ y)) : Sg κ lt ((L1 ++ L2) ++ (R1 ++ R2)) (M1 ++ M2) := by
  obtain ⟨l1, l2, l3⟩ := srt_append.1 hL
  obtain ⟨r1, r2, r3⟩ := srt_append.1 hR
  refine ⟨srt_append.2 ⟨h1.1, h2.1, fun x hx y hy => ?_⟩, fun k => ?_⟩
  · rcases List.mem_append.1 ((same_mem h1.2 x).1 hx) with hx | hx <;> rcases List.mem_append.1 ((same_mem h2.2 y).1 hy) with hy | hy
    · exact l3 x hx y hy
    · exact a x hx y hy
    · exact O.asymm (b x hx y hy)
    · exact r3 x hx y hy
  · rw [of_append, h1.2 k, h2.2 k]
    simp only [of_append, List.append_assoc]
    congr 1
    rw [← List.append_assoc, ← List.append_assoc]
    congr 1
    by_cases c : of κ k R1 = []
    · rw [c]; simp
    · by_cases c2 : of κ k L2 = []
      · rw [c2]; simp
      · exfalso
        obtain ⟨x, hx⟩ := List.exists_mem_of_ne_nil _ c
        obtain ⟨y, hy⟩ := List.exists_mem_of_ne_nil _ c2
        have := b x (mem_of.1 hx).1 y (mem_of.1 hy).1
        rw [(mem_of.1 hx).2, (mem_of.1 hy).2] at this
        exact O.irrefl _ this

/-- One more at the end of what is in order goes ahead of what is greater. -/
theorem sg_insert (O : Ord lt) {A B : List α} {x : α} (h : Srt κ lt (A ++ B)) (a : ∀ y ∈ A, ¬ lt (κ x) (κ y)) (b : ∀ y ∈ B, lt (κ x) (κ y)) : Sg κ lt ((A ++ B) ++ [x]) (A ++ x :: B) := by
  obtain ⟨h1, h2, h3⟩ := srt_append.1 h
  refine ⟨srt_append.2 ⟨h1, List.pairwise_cons.2 ⟨fun y hy => O.asymm (b y hy), h2⟩, fun y hy z hz => ?_⟩, fun k => ?_⟩
  · rcases List.mem_cons.1 hz with e | e
    · rw [e]; exact a y hy
    · exact h3 y hy z e
  · simp only [of_append, List.append_assoc]
    congr 1
    rw [of_cons, of_cons]
    split
    · rename_i e
      have : of κ k B = [] := by
        by_cases c : of κ k B = []
        · exact c
        · exfalso
          obtain ⟨y, hy⟩ := List.exists_mem_of_ne_nil _ c
          have := b y (mem_of.1 hy).1
          rw [(mem_of.1 hy).2, e] at this
          exact O.irrefl _ this
      rw [this]; rfl
    · have : of κ k ([] : List α) = [] := rfl
      rw [this, List.append_nil]
/-- One more ahead of what is in order goes behind what is lesser. -/
theorem sg_front (O : Ord lt) {A B : List α} {x : α} (h : Srt κ lt (A ++ B)) (a : ∀ y ∈ A, lt (κ y) (κ x)) (b : ∀ y ∈ B, ¬ lt (κ y) (κ x)) : Sg κ lt (x :: (A ++ B)) (A ++ x :: B) := by
  obtain ⟨h1, h2, h3⟩ := srt_append.1 h
  refine ⟨srt_append.2 ⟨h1, List.pairwise_cons.2 ⟨b, h2⟩, fun y hy z hz => ?_⟩, fun k => ?_⟩
  · rcases List.mem_cons.1 hz with e | e
    · rw [e]; exact O.asymm (a y hy)
    · exact h3 y hy z e
  · rw [of_append, of_cons, of_cons, of_append]
    split
    · rename_i e
      have : of κ k A = [] := by
        by_cases c : of κ k A = []
        · exact c
        · exfalso
          obtain ⟨y, hy⟩ := List.exists_mem_of_ne_nil _ c
          have := a y (mem_of.1 hy).1
          rw [(mem_of.1 hy).2, e] at this
          exact O.irrefl _ this
      rw [this]; rfl
    · rfl

/-! ### a search by halves -/
theorem bsearch {β : Type} {f : Int × Int → Option ((Int × Int) ⊕ β)} {res : Nat → β} {p : Nat → Prop} [DecidablePred p] (lo hi : Nat)
    (step : ∀ i j : Nat, lo ≤ i → i < j → j ≤ hi → f ((i : Int), (j : Int)) = if p ((i + j) / 2) then some (.inl ((((i + j) / 2 + 1 : Nat) : Int), (j : Int))) else some (.inl ((i : Int), (((i + j) / 2 : Nat) : Int))))
    (stop : ∀ i : Nat, lo ≤ i → i ≤ hi → f ((i : Int), (i : Int)) = some (.inr (res i)))
    (mono : ∀ i j : Nat, lo ≤ i → i ≤ j → j < hi → p j → p i) : ∀ (n i j : Nat), j ≤ i + n → lo ≤ i → i ≤ j → j ≤ hi → (∀ k, lo ≤ k → k < i → p k) → (∀ k, j ≤ k → k < hi → ¬ p k) →
    ∃ r : Nat, lo ≤ r ∧ r ≤ hi ∧ (∀ k, lo ≤ k → k < r → p k) ∧ (∀ k, r ≤ k → k < hi → ¬ p k) ∧ Pm.loop f ((i : Int), (j : Int)) = some (res r)
  | n, i, j, hn, h1, h2, h3, a, b => by
    by_cases c : i < j
    · obtain ⟨n, rfl⟩ : ∃ m, n = m + 1 := ⟨n - 1, by omega⟩
      have st := step i j h1 c h3
      by_cases q : p ((i + j) / 2)
      · rw [if_pos q] at st
        rw [Pm.loop_next st]
        exact bsearch lo hi step stop mono n ((i + j) / 2 + 1) j (by omega) (by omega) (by omega) h3 (fun k k1 k2 => mono k ((i + j) / 2) k1 (by omega) (by omega) q) b
      · rw [if_neg q] at st
        rw [Pm.loop_next st]
        exact bsearch lo hi step stop mono n i ((i + j) / 2) (by omega) h1 (by omega) (by omega) a (fun k k1 k2 hp => q (mono ((i + j) / 2) k (by omega) k1 k2 hp))
    · obtain rfl : i = j := by omega
      exact ⟨i, h1, h3, a, b, Pm.loop_end (stop i h1 h3)⟩

/-! ### places -/
section
theorem st_nth [Inhabited α] (P : List α) (x : α) (S : List α) {i : Nat} (h : P.length = i) : Pm.nth (P ++ x :: S) (i : Int) = x := by
  subst h
  show (P ++ x :: S).getD (Int.toNat (P.length : Int)) default = x
  rw [Int.toNat_natCast, List.getD_eq_getElem?_getD, List.getElem?_append_right (Nat.le_refl _), Nat.sub_self]; rfl
/-- Two neighbours, exchanged. -/
theorem swap_next (P : List α) (x y : α) (S : List α) {i j : Nat} (h : P.length = i) (hj : j = i + 1) :
    ((P ++ x :: y :: S).set (Int.toNat (j : Int)) x).set (Int.toNat (i : Int)) y = P ++ y :: x :: S ∧ ((P ++ x :: y :: S).set (Int.toNat (i : Int)) y).set (Int.toNat (j : Int)) x = P ++ y :: x :: S := by
  subst hj
  have e : ∀ a : α, ∀ T : List α, P ++ a :: T = (P ++ [a]) ++ T := fun a T => by simp
  constructor
  · rw [e x (y :: S), set_at' (P ++ [x]) y x S (by simp [h]), ← e, set_at' P x y (x :: S) h]
  · rw [set_at' P x y (y :: S) h, e y (y :: S), set_at' (P ++ [y]) y x S (by simp [h]), ← e]
/-- Two apart. -/
theorem swap_far (P : List α) (x : α) (Q : List α) (y : α) (S : List α) {i j : Nat} (h : P.length = i) (hj : j = i + 1 + Q.length) :
    ((P ++ x :: (Q ++ y :: S)).set (Int.toNat (i : Int)) y).set (Int.toNat (j : Int)) x = P ++ y :: (Q ++ x :: S) := by
  subst hj
  have e : ∀ a b : α, ∀ T : List α, P ++ a :: (Q ++ b :: T) = (P ++ a :: Q) ++ b :: T := fun a b T => by simp
  rw [set_at' P x y (Q ++ y :: S) h, e, set_at' (P ++ y :: Q) y x S (by simp; omega), ← e]
end
end
end Go.Proofs.Ytlgfdldonoaahaa

