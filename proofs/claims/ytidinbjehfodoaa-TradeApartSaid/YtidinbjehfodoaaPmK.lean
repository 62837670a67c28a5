/- The pure machine, part K: what goes in and out of a call (X), what a contract says (Spec), how values come in. Conditions: none (definitions and lemmas alone). -/
import Derived.Test.YtidinbjehfodoaaPmJ
namespace Go.Pm
open Go
set_option linter.unusedVariables false
set_option linter.unusedSimpArgs false

/-- Values as they are handed over: data; a row, or a variable, that is handed over with all rights. -/
inductive X where
  | imm (x : T)
  | xown (e : TypeId) (sz : Nat) (es : List (List T))
  | xbox (cs : List X)
  | agg (cs : List X)
  | tup (vs : List X)
  | fn (f : Nat) (cap : List X)

def blkL (v : Value) : List Nat :=
  match hblk v with
  | some b => [b]
  | none => []

mutual
inductive RepX (S : Nat → Prop) (w : World) : X → Value → List Nat → Prop where
  | imm (x : T) (v : Value) : RepT S w x v → RepX S w (.imm x) v []
  | xown (e : TypeId) (sz : Nat) (es : List (List T)) (v : Value) (xs : List Value) : w.ownsRow 0 e sz v es.length xs → (∀ e ∈ es, e.length = sz) →
      (∀ i j, i < es.length → j < sz → RepT S w ((es.getD i []).getD j default) (xs.getD (i * sz + j) undef)) → (∀ u ∈ xs, One u) → RepX S w (.xown e sz es) v (blkL v)
  | xbox (cs : List X) (b : Nat) (C : Array Value) (e : TypeId) (F : List Nat) : w.heap[b]? = some (.cells C e (0, 0)) → RepXs S w cs C.toList F → RepX S w (.xbox cs) (.pointer (some ⟨b, 0, none⟩)) (b :: F)
  | agg (cs : List X) (vs : Array Value) (F : List Nat) : RepXs S w cs vs.toList F → RepX S w (.agg cs) (.agg vs) F
  | tup (cs : List X) (vs : Array Value) (F : List Nat) : RepXs S w cs vs.toList F → RepX S w (.tup cs) (.tuple vs) F
  | fn (f : Nat) (cap : List X) (vs : Array Value) (F : List Nat) : RepXs S w cap vs.toList F → RepX S w (.fn f cap) (.func (.func f) #[] vs) F
inductive RepXs (S : Nat → Prop) (w : World) : List X → List Value → List Nat → Prop where
  | nil : RepXs S w [] [] []
  | cons (x : X) (xs : List X) (v : Value) (vs : List Value) (F F' : List Nat) : RepX S w x v F → RepXs S w xs vs F' → RepXs S w (x :: xs) (v :: vs) (F ++ F')
end

/-- Of some of the values: what they are then. -/
inductive RepSs (S : Nat → Prop) (w : World) : List (Option X) → List Value → List Nat → Prop where
  | nil : RepSs S w [] [] []
  | none (ss : List (Option X)) (v : Value) (vs : List Value) (F : List Nat) : RepSs S w ss vs F → RepSs S w (none :: ss) (v :: vs) F
  | some (x : X) (ss : List (Option X)) (v : Value) (vs : List Value) (F F' : List Nat) : RepX S w x v F → RepSs S w ss vs F' → RepSs S w (some x :: ss) (v :: vs) (F ++ F')

/-- What a call leaves. -/
structure Post (S : Nat → Prop) (w : World) (F : List Nat) (vs : List Value) (r : X) (ss : List (Option X)) (v : Value) (w' : World) (S' : Nat → Prop) (Fr' Fs : List Nat) : Prop where
  more : ∀ b, S b → S' b
  new : ∀ b, S' b → b < w'.heap.size ∧ (S b ∨ b ∈ F ∨ w.heap.size ≤ b)
  res : RepX S' w' r v Fr'
  sts : RepSs S' w' ss vs Fs
  nodup : (Fr' ++ Fs).Nodup
  own : ∀ b, b ∈ Fr' ++ Fs → b < w'.heap.size ∧ ¬ S' b ∧ (b ∈ F ∨ w.heap.size ≤ b)
  frame : Pm.Fr (fun b => b ∈ F) w w'

/-- THE CONTRACT: called with values that are xs, function f returns a value that is r; and the arguments with rights are ss then. -/
def Spec (P : Program) (f : FuncId) (xs : List X) (r : X) (ss : List (Option X)) : Prop :=
  ∀ (S : Nat → Prop) (w : World) (vs : Array Value) (F : List Nat), (∀ b, S b → b < w.heap.size) → RepXs S w xs vs.toList F → F.Nodup → (∀ b, b ∈ F → b < w.heap.size ∧ ¬ S b) →
    Calls P f vs w fun e w' => ∃ v S' Fr' Fs, e = .returned v ∧ Post S w F vs.toList r ss v w' S' Fr' Fs

mutual
/-- A value that comes in, as the call's own: its abstract value, its tokens (from key k on), the next key. -/
def imp : X → Nat → AV × List (Nat × Tok) × Nat
  | .imm x, k => (.imm x, [], k)
  | .xown e sz es, k => (.own k, [(k, .rows e sz es false)], k + 1)
  | .xbox cs, k =>
    let r := imps cs (k + 1)
    (.ptr k 0, (k, .box r.1) :: r.2.1, r.2.2)
  | .agg cs, k =>
    let r := imps cs k
    (.agg r.1, r.2.1, r.2.2)
  | .tup cs, k =>
    let r := imps cs k
    (.tup r.1, r.2.1, r.2.2)
  | .fn f cs, k =>
    let r := imps cs k
    (.fn f r.1, r.2.1, r.2.2)
def imps : List X → Nat → List AV × List (Nat × Tok) × Nat
  | [], k => ([], [], k)
  | x :: l, k =>
    let r := imp x k
    let q := imps l r.2.2
    (r.1 :: q.1, r.2.1 ++ q.2.1, q.2.2)
end

/-- What is known of tokens that came in. -/
structure Came (g' : Gh) (w : World) (toks : List (Nat × Tok)) (k n : Nat) (F : List Nat) : Prop where
  tok : ∀ q t, (q, t) ∈ toks → k ≤ q ∧ q < n ∧ TokRep g' w q t ∧ t.frozen = false ∧ g'.used q ∧ ∀ b, hblk (g'.hv q) = some b → b ∈ F
  inj : ∀ q q' t t' b, (q, t) ∈ toks → (q', t') ∈ toks → hblk (g'.hv q) = some b → hblk (g'.hv q') = some b → q = q'
  key : ∀ q t t', (q, t) ∈ toks → (q, t') ∈ toks → t = t'

def Gh.only (g g' : Gh) (k n : Nat) : Prop := g.Le g' ∧ g'.S = g.S ∧ ∀ q, g'.used q → g.used q ∨ (k ≤ q ∧ q < n)

theorem Gh.only.trans {a b c : Gh} {k m n : Nat} (h : a.only b k m) (h' : b.only c m n) (h1 : k ≤ m) (h2 : m ≤ n) : a.only c k n :=
  ⟨h.1.trans h'.1, h'.2.1.trans h.2.1, fun q hq => (h'.2.2 q hq).elim (fun x => (h.2.2 q x).imp id (fun y => ⟨y.1, by omega⟩)) (fun y => .inr ⟨by omega, y.2⟩)⟩

theorem Came.mono {g g' : Gh} {w : World} {toks : List (Nat × Tok)} {k n k' n' : Nat} {F F' : List Nat} (h : Came g w toks k n F) (hg : g.Le g') (hk : k' ≤ k) (hn : n ≤ n') (hF : ∀ b, b ∈ F → b ∈ F') : Came g' w toks k' n' F' where
  tok := fun q t hq => by
    obtain ⟨h1, h2, h3, h4, h5, h6⟩ := h.tok q t hq
    refine ⟨by omega, by omega, h3.mono h5 hg (fun _ _ => rfl) (fun _ _ => rfl), h4, hg.used q h5, fun b hb => hF b (h6 b (by rw [← hg.hv q h5]; exact hb))⟩
  inj := fun q q' t t' b hq hq' hb hb' => by
    have h5 := (h.tok q t hq).2.2.2.2.1
    have h5' := (h.tok q' t' hq').2.2.2.2.1
    rw [hg.hv q h5] at hb; rw [hg.hv q' h5'] at hb'
    exact h.inj q q' t t' b hq hq' hb hb'
  key := h.key

theorem Came.append {g : Gh} {w : World} {t1 t2 : List (Nat × Tok)} {k m n : Nat} {F1 F2 : List Nat} (h1 : Came g w t1 k m F1) (h2 : Came g w t2 m n F2) (hkm : k ≤ m) (hmn : m ≤ n) (hd : ∀ b, b ∈ F1 → b ∉ F2) :
    Came g w (t1 ++ t2) k n (F1 ++ F2) where
  tok := fun q t hq => by
    rcases List.mem_append.1 hq with hq | hq
    · obtain ⟨a1, a2, a3, a4, a5, a6⟩ := h1.tok q t hq
      exact ⟨a1, by omega, a3, a4, a5, fun b hb => List.mem_append.2 (.inl (a6 b hb))⟩
    · obtain ⟨a1, a2, a3, a4, a5, a6⟩ := h2.tok q t hq
      exact ⟨by omega, a2, a3, a4, a5, fun b hb => List.mem_append.2 (.inr (a6 b hb))⟩
  inj := fun q q' t t' b hq hq' hb hb' => by
    rcases List.mem_append.1 hq with hq | hq <;> rcases List.mem_append.1 hq' with hq' | hq'
    · exact h1.inj q q' t t' b hq hq' hb hb'
    · exact (hd b ((h1.tok q t hq).2.2.2.2.2 b hb) ((h2.tok q' t' hq').2.2.2.2.2 b hb')).elim
    · exact (hd b ((h1.tok q' t' hq').2.2.2.2.2 b hb') ((h2.tok q t hq).2.2.2.2.2 b hb)).elim
    · exact h2.inj q q' t t' b hq hq' hb hb'
  key := fun q t t' hq hq' => by
    rcases List.mem_append.1 hq with hq | hq <;> rcases List.mem_append.1 hq' with hq' | hq'
    · exact h1.key q t t' hq hq'
    · have := (h1.tok q t hq).2.1; have := (h2.tok q t' hq').1; omega
    · have := (h1.tok q t' hq').2.1; have := (h2.tok q t hq).1; omega
    · exact h2.key q t t' hq hq'

theorem Came.nil (g : Gh) (w : World) (k n : Nat) (F : List Nat) : Came g w [] k n F where
  tok := fun q t hq => by cases hq
  inj := fun q q' t t' b hq => by cases hq
  key := fun q t t' hq => by cases hq

theorem Came.one {g : Gh} {w : World} {k : Nat} {t : Tok} {F : List Nat} (h1 : TokRep g w k t) (h2 : t.frozen = false) (h3 : g.used k) (h4 : ∀ b, hblk (g.hv k) = some b → b ∈ F) : Came g w [(k, t)] k (k + 1) F where
  tok := fun q t' hq => by
    simp only [List.mem_singleton, Prod.mk.injEq] at hq
    obtain ⟨rfl, rfl⟩ := hq
    exact ⟨Nat.le_refl _, by omega, h1, h2, h3, h4⟩
  inj := fun q q' t t' b hq hq' _ _ => by
    simp only [List.mem_singleton, Prod.mk.injEq] at hq hq'
    rw [hq.1, hq'.1]
  key := fun q t t' hq hq' => by
    simp only [List.mem_singleton, Prod.mk.injEq] at hq hq'
    rw [hq.2, hq'.2]

mutual
theorem imp_le : ∀ (x : X) (k : Nat), k ≤ (imp x k).2.2
  | .imm _, k => Nat.le_refl _
  | .xown _ _ _, k => Nat.le_succ _
  | .xbox cs, k => by have := imps_le cs (k + 1); simp only [imp]; omega
  | .agg cs, k => by have := imps_le cs k; simp only [imp]; omega
  | .tup cs, k => by have := imps_le cs k; simp only [imp]; omega
  | .fn _ cs, k => by have := imps_le cs k; simp only [imp]; omega
theorem imps_le : ∀ (xs : List X) (k : Nat), k ≤ (imps xs k).2.2
  | [], k => Nat.le_refl _
  | x :: xs, k => by have := imp_le x k; have := imps_le xs (imp x k).2.2; simp only [imps]; omega
end

mutual
theorem imp_rep {w : World} : ∀ (x : X) (g : Gh) (k : Nat) (v : Value) (F : List Nat), RepX g.S w x v F → F.Nodup → (∀ q, k ≤ q → q < (imp x k).2.2 → ¬ g.used q) →
    k ≤ (imp x k).2.2 ∧ ∃ g', g.only g' k (imp x k).2.2 ∧ RepA g' w (imp x k).1 v ∧ Came g' w (imp x k).2.1 k (imp x k).2.2 F
  | .imm x, g, k, v, F, h, _, _ => by
    cases h with
    | imm _ _ h => exact ⟨Nat.le_refl _, g, ⟨Gh.Le.refl g, rfl, fun q hq => .inl hq⟩, .imm x v h, Came.nil _ _ _ _ _⟩
  | .xown e sz es, g, k, v, F, h, _, hk => by
    cases h with
    | xown _ _ _ _ xs h1 h2 h3 h4 =>
      have hnk := hk k (Nat.le_refl _) (Nat.lt_succ_self _)
      have hle := g.put_le k v hnk
      refine ⟨Nat.le_succ _, g.put k v, ⟨hle, rfl, fun q hq => hq.elim (fun e => .inr (by simp only [imp]; omega)) .inl⟩, ?_, ?_⟩
      · have := RepA.own (g := g.put k v) (w := w) k (.inl rfl)
        rwa [Gh.put_same] at this
      · refine Came.one (.rows e sz es false xs (by rw [Gh.put_same]; exact h1) h2 (fun i j hi hj => h3 i j hi hj) h4 (fun hf => by cases hf)) rfl (.inl rfl) (fun b hb => ?_)
        rw [Gh.put_same] at hb
        simp [blkL, hb]
  | .xbox cs, g, k, v, F, h, hn, hk => by
    cases h with
    | xbox _ b C e F h1 h2 =>
      have hnk := hk k (Nat.le_refl _) (by have := imps_le cs (k + 1); simp only [imp]; omega)
      have hle := g.put_le k (.pointer (some ⟨b, 0, none⟩)) hnk
      rw [List.nodup_cons] at hn
      obtain ⟨e1, g', ho, hA, hc⟩ := imps_rep cs (g.put k (.pointer (some ⟨b, 0, none⟩))) (k + 1) C.toList F h2 hn.2 (fun q hq hq2 hu => hu.elim (by omega) (hk q (by omega) (by simp only [imp]; exact hq2)))
      have hv : g'.hv k = .pointer (some ⟨b, 0, none⟩) := by rw [ho.1.hv k (.inl rfl), Gh.put_same]
      have hu : g'.used k := ho.1.used k (.inl rfl)
      refine ⟨by simp only [imp]; omega, g', ⟨hle.trans ho.1, ho.2.1, fun q hq => (ho.2.2 q hq).elim (fun x => x.elim (fun e => .inr (by simp only [imp]; omega)) .inl) (fun x => .inr (by simp only [imp]; omega))⟩, ?_, ?_⟩
      · exact .ptr k 0 b hu hv
      · simp only [imp]
        have h0 : Came g' w [(k, .box (imps cs (k + 1)).1)] k (k + 1) [b] := Came.one (.box _ b C e hv h1 (by have := hA.1; simp only [Array.length_toList] at this; omega) (fun i hi => by
          have := hA.2 i hi
          rwa [toList_getD] at this)) rfl hu (fun b' hb' => by rw [hv] at hb'; simp only [hblk, Option.some.injEq] at hb'; simp [hb'])
        exact h0.append hc (Nat.le_succ _) e1 (fun b' hb' hb2 => by simp at hb'; subst hb'; exact hn.1 hb2)
  | .agg cs, g, k, v, F, h, hn, hk => by
    cases h with
    | agg _ vs F h1 =>
      obtain ⟨e1, g', ho, hA, hc⟩ := imps_rep cs g k vs.toList F h1 hn hk
      refine ⟨e1, g', ho, .agg _ vs (by have := hA.1; simp only [Array.length_toList] at this; omega) (fun i hi => ?_), hc⟩
      have := hA.2 i hi; rwa [toList_getD] at this
  | .tup cs, g, k, v, F, h, hn, hk => by
    cases h with
    | tup _ vs F h1 =>
      obtain ⟨e1, g', ho, hA, hc⟩ := imps_rep cs g k vs.toList F h1 hn hk
      refine ⟨e1, g', ho, .tup _ vs (by have := hA.1; simp only [Array.length_toList] at this; omega) (fun i hi => ?_), hc⟩
      have := hA.2 i hi; rwa [toList_getD] at this
  | .fn f cs, g, k, v, F, h, hn, hk => by
    cases h with
    | fn _ _ vs F h1 =>
      obtain ⟨e1, g', ho, hA, hc⟩ := imps_rep cs g k vs.toList F h1 hn hk
      refine ⟨e1, g', ho, .fn f _ vs (by have := hA.1; simp only [Array.length_toList] at this; omega) (fun i hi => ?_), hc⟩
      have := hA.2 i hi; rwa [toList_getD] at this
theorem imps_rep {w : World} : ∀ (xs : List X) (g : Gh) (k : Nat) (vs : List Value) (F : List Nat), RepXs g.S w xs vs F → F.Nodup → (∀ q, k ≤ q → q < (imps xs k).2.2 → ¬ g.used q) →
    k ≤ (imps xs k).2.2 ∧ ∃ g', g.only g' k (imps xs k).2.2 ∧ ((imps xs k).1.length = vs.length ∧ ∀ i, i < (imps xs k).1.length → RepA g' w ((imps xs k).1.getD i default) (vs.getD i undef)) ∧ Came g' w (imps xs k).2.1 k (imps xs k).2.2 F
  | [], g, k, vs, F, h, _, _ => by
    cases h with
    | nil => exact ⟨Nat.le_refl _, g, ⟨Gh.Le.refl g, rfl, fun q hq => .inl hq⟩, ⟨rfl, fun i hi => by simp [imps] at hi⟩, Came.nil _ _ _ _ _⟩
  | x :: xs, g, k, vs, F, h, hn, hk => by
    cases h with
    | cons _ _ v vs F1 F2 h1 h2 =>
      rw [List.nodup_append] at hn
      obtain ⟨n1, n2, n3⟩ := hn
      obtain ⟨e1, g1, ho1, hA1, hc1⟩ := imp_rep x g k v F1 h1 n1 (fun q hq hq2 => hk q hq (by have := imps_le xs (imp x k).2.2; simp only [imps]; omega))
      have h2' : RepXs g1.S w xs vs F2 := by rw [ho1.2.1]; exact h2
      obtain ⟨e2, g2, ho2, hA2, hc2⟩ := imps_rep xs g1 (imp x k).2.2 vs F2 h2' n2 (fun q hq hq2 hu => (ho1.2.2 q hu).elim (hk q (by omega) (by simp only [imps]; exact hq2)) (fun y => by omega))
      refine ⟨by simp only [imps]; omega, g2, ?_, ?_, ?_⟩
      · simp only [imps]; exact ho1.trans ho2 e1 e2
      · simp only [imps]
        refine ⟨by simp [hA2.1], fun i hi => ?_⟩
        cases i with
        | zero => simpa using hA1.mono ho2.1 (fun _ _ => rfl)
        | succ i => simpa using hA2.2 i (by simpa using hi)
      · simp only [imps]
        exact (hc1.mono ho2.1 (Nat.le_refl _) (Nat.le_refl _) (fun _ x => x)).append hc2 e1 e2 (fun b hb1 hb2 => n3 b hb1 b hb2 rfl)
end

end Go.Pm
