/- The pure machine, part B: the abstract state, the relation SR between it and the machine's frame and world, and how each kind of change keeps it. Conditions: none (definitions and lemmas alone). -/
import Derived.Below
import Derived.Test.YtidinbjehfodoaaPmA
namespace Go.Pm
open Go
set_option linter.unusedVariables false
set_option linter.unusedSimpArgs false

structure St where
  sl : Nat → Option AV
  tk : Nat → Option Tok
  free : Nat → Prop

def St.set (σ : St) (d : Nat) (x : AV) : St := { σ with sl := fun i => if i = d then some x else σ.sl i }
def St.clr (σ : St) (d : Nat) : St := { σ with sl := fun i => if i = d then none else σ.sl i }
def St.tok (σ : St) (k : Nat) (t : Tok) : St := { σ with tk := fun i => if i = k then some t else σ.tk i }
def St.rem (σ : St) (k : Nat) : St := { σ with tk := fun i => if i = k then none else σ.tk i }
def St.fr (σ : St) (f : Nat → Prop) : St := { σ with free := f }

/-- Of what was there nothing has turned but the blocks of F. -/
structure Fr (F : Nat → Prop) (w w' : World) : Prop where
  os : w'.os = w.os
  tape : w'.tape = w.tape
  output : w'.output = w.output
  size : w.heap.size ≤ w'.heap.size
  block : ∀ k, k < w.heap.size → ¬ F k → w'.heap[k]? = w.heap[k]?

theorem Fr.refl (F : Nat → Prop) (w : World) : Fr F w w := ⟨rfl, rfl, rfl, Nat.le_refl _, fun _ _ _ => rfl⟩
theorem Fr.trans {F : Nat → Prop} {a b c : World} (h : Fr F a b) (k : Fr F b c) : Fr F a c :=
  ⟨k.os.trans h.os, k.tape.trans h.tape, k.output.trans h.output, Nat.le_trans h.size k.size, fun i hi hf => (k.block i (Nat.lt_of_lt_of_le hi h.size) hf).trans (h.block i hi hf)⟩
theorem Fr.mono {F G : Nat → Prop} {a b : World} (h : Fr F a b) (hf : ∀ k, k < a.heap.size → F k → G k) : Fr G a b :=
  ⟨h.os, h.tape, h.output, h.size, fun i hi hg => h.block i hi (fun x => hg (hf i hi x))⟩
/-- A step that only turns blocks that are newer than w0, or of F. -/
theorem Fr.step {F G : Nat → Prop} {w0 w w' : World} (h : Fr F w0 w) (k : Fr G w w') (hg : ∀ b, b < w0.heap.size → G b → F b) : Fr F w0 w' :=
  ⟨k.os.trans h.os, k.tape.trans h.tape, k.output.trans h.output, Nat.le_trans h.size k.size,
   fun i hi hf => (k.block i (Nat.lt_of_lt_of_le hi h.size) (fun x => hf (hg i hi x))).trans (h.block i hi hf)⟩

theorem Fr.alloc (w : World) (o : Obj) : Fr (fun _ => False) w (w.alloc o) :=
  ⟨rfl, rfl, rfl, by simp, fun k hk _ => RowKit.Below.heap_alloc w o k hk⟩
theorem Fr.drew (w : World) : Fr (fun _ => False) w w.drew := ⟨rfl, rfl, rfl, Nat.le_refl _, fun _ _ _ => rfl⟩
theorem Fr.setCell (w : World) (p : Addr) (u : Value) : Fr (fun b => b = p.block) w (w.setCell p u) :=
  ⟨rfl, rfl, rfl, by simp [World.setCell], fun k _ hf => RowKit.Below.heap_setCell w p u k hf⟩
theorem Fr.grown {w w' : World} {row : Option Nat} (h : w.grownBy w' row) : Fr (fun b => row = some b) w w' :=
  ⟨h.os, h.tape, h.output, h.size, fun k hk hf => h.block k hk (fun e => hf e.symm)⟩

/-- What a call began with: the blocks that are stable (S0), the world, the blocks that are the call's to write (F0), how many slots, and its arguments. -/
structure Cx where
  S0 : Nat → Prop
  w0 : World
  F0 : Nat → Prop
  n : Nat
  ent : List (AV × Value)

structure SR (cx : Cx) (g : Gh) (σ : St) (a : Act) (w : World) : Prop where
  size : a.tmps.size = cx.n
  defers : a.defers = []
  sl : ∀ i x, σ.sl i = some x → RepA g w x (a.tmps.getD i undef)
  tk : ∀ k t, σ.tk k = some t → TokRep g w k t
  used : ∀ k, g.used k → ¬ σ.free k
  key : ∀ k t, σ.tk k = some t → g.used k
  inj : ∀ k k' t t' b, σ.tk k = some t → σ.tk k' = some t' → hblk (g.hv k) = some b → hblk (g.hv k') = some b → k = k'
  live : ∀ k t b, σ.tk k = some t → t.frozen = false → hblk (g.hv k) = some b → ¬ g.S b ∧ (cx.w0.heap.size ≤ b ∨ cx.F0 b)
  blk : ∀ k t b, σ.tk k = some t → hblk (g.hv k) = some b → b < w.heap.size
  stab : ∀ b, g.S b → b < w.heap.size
  frame : Fr cx.F0 cx.w0 w
  old : ∀ b, cx.S0 b → g.S b
  grew : ∀ b, g.S b → cx.S0 b ∨ cx.F0 b ∨ cx.w0.heap.size ≤ b
  ent : ∀ p, p ∈ cx.ent → RepA g w p.1 p.2 ∧ ∀ k, k ∈ p.1.keys → k < 1000
  low : ∀ k, k < 1000 → ¬ σ.free k

section
variable {cx : Cx} {g : Gh} {σ : St} {a : Act} {w : World}

theorem getD_setIfInBounds (A : Array Value) (d i : Nat) (v : Value) (hd : d < A.size) : (A.setIfInBounds d v).getD i undef = if i = d then v else A.getD i undef := by
  simp only [Array.getD_eq_getD_getElem?, Array.getElem?_setIfInBounds]
  by_cases h : d = i
  · subst h; simp [hd]
  · have h' : i ≠ d := fun e => h e.symm
    simp [h, h']

theorem SR.put (h : SR cx g σ a w) (d : Nat) (hd : d < cx.n) (x : AV) (v : Value) (hx : RepA g w x v) : SR cx g (σ.set d x) (a.put (some d) v) w := by
  have hs : d < a.tmps.size := by rw [h.size]; exact hd
  refine { h with size := ?_, defers := h.defers, sl := ?_ }
  · simp [Act.put, h.size]
  · intro i y hy
    simp only [Act.put, getD_setIfInBounds _ _ _ _ hs]
    simp only [St.set] at hy
    by_cases e : i = d
    · rw [if_pos e] at hy ⊢
      cases hy; exact hx
    · rw [if_neg e] at hy ⊢
      exact h.sl i y hy

theorem SR.putNone (h : SR cx g σ a w) (d : Nat) (hd : d < cx.n) (v : Value) : SR cx g (σ.clr d) (a.put (some d) v) w := by
  have hs : d < a.tmps.size := by rw [h.size]; exact hd
  refine { h with size := ?_, defers := h.defers, sl := ?_ }
  · simp [Act.put, h.size]
  · intro i y hy
    simp only [Act.put, getD_setIfInBounds _ _ _ _ hs]
    simp only [St.clr] at hy
    by_cases e : i = d
    · rw [if_pos e] at hy; cases hy
    · rw [if_neg e] at hy ⊢
      exact h.sl i y hy

/-- Forgetting. -/
theorem SR.weaken (h : SR cx g σ a w) (σ' : St) (hs : ∀ i x, σ'.sl i = some x → σ.sl i = some x) (ht : ∀ k t, σ'.tk k = some t → σ.tk k = some t) (hb : ∀ k, σ'.free k → σ.free k) : SR cx g σ' a w :=
  { h with
    sl := fun i x hx => h.sl i x (hs i x hx)
    tk := fun k t hk => h.tk k t (ht k t hk)
    used := fun k hk hf => h.used k hk (hb k hf)
    low := fun k hk hf => h.low k hk (hb k hf)
    key := fun k t hk => h.key k t (ht k t hk)
    inj := fun k k' t t' b h1 h2 => h.inj k k' t t' b (ht _ _ h1) (ht _ _ h2)
    live := fun k t b h1 => h.live k t b (ht _ _ h1)
    blk := fun k t b h1 => h.blk k t b (ht _ _ h1) }

/-- The one law of change: new ghost, new world, new tokens. -/
theorem SR.move (h : SR cx g σ a w) (g' : Gh) (w' : World) (tk' : Nat → Option Tok) (free' : Nat → Prop) (hg : g.Le g') (hbnd : ∀ k, g'.used k → ¬ free' k)
    (hst : ∀ b, g.S b → w'.heap[b]? = w.heap[b]?) (hfr : Fr cx.F0 cx.w0 w')
    (htk : ∀ k t, tk' k = some t → TokRep g' w' k t) (hkey : ∀ k t, tk' k = some t → g'.used k)
    (hinj : ∀ k k' t t' b, tk' k = some t → tk' k' = some t' → hblk (g'.hv k) = some b → hblk (g'.hv k') = some b → k = k')
    (hlive : ∀ k t b, tk' k = some t → t.frozen = false → hblk (g'.hv k) = some b → ¬ g'.S b ∧ (cx.w0.heap.size ≤ b ∨ cx.F0 b))
    (hblk' : ∀ k t b, tk' k = some t → hblk (g'.hv k) = some b → b < w'.heap.size)
    (hstab : ∀ b, g'.S b → b < w'.heap.size) (hgrew : ∀ b, g'.S b → g.S b ∨ cx.F0 b ∨ cx.w0.heap.size ≤ b)
    (hlow : ∀ k, free' k → σ.free k) : SR cx g' ⟨σ.sl, tk', free'⟩ a w' where
  size := h.size
  defers := h.defers
  sl := fun i x hx => (h.sl i x hx).mono hg hst
  tk := htk
  used := hbnd
  key := hkey
  inj := hinj
  live := hlive
  blk := hblk'
  stab := hstab
  frame := hfr
  old := fun b hb => hg.S b (h.old b hb)
  grew := fun b hb => (hgrew b hb).elim (h.grew b) .inr
  ent := fun p hp => ⟨(h.ent p hp).1.mono hg hst, (h.ent p hp).2⟩
  low := fun k hk hf => h.low k hk (hlow k hf)

/-- Keys from the base on are free. -/
theorem SR.fresh (h : SR cx g σ a w) {k : Nat} (hk : σ.free k) : σ.tk k = none := by
  cases e : σ.tk k with
  | none => rfl
  | some t => exact (h.used k (h.key k t e) hk).elim

/-- The world has grown (or something has been drawn): no token has turned. -/
theorem SR.world (h : SR cx g σ a w) {w' : World} (hf : Fr (fun _ => False) w w') : SR cx g σ a w' := by
  have hold : ∀ b, b < w.heap.size → w'.heap[b]? = w.heap[b]? := fun b hb => hf.block b hb (fun x => x)
  refine h.move g w' σ.tk σ.free (Gh.Le.refl g) h.used (fun b hb => hold b (h.stab b hb)) (h.frame.step hf (fun _ _ x => x.elim)) ?_ h.key h.inj h.live
    (fun k t b hk hb => Nat.lt_of_lt_of_le (h.blk k t b hk hb) hf.size) (fun b hb => Nat.lt_of_lt_of_le (h.stab b hb) hf.size) (fun b hb => .inl hb) (fun _ x => x)
  intro k t hk
  exact (h.tk k t hk).mono (h.key k t hk) (Gh.Le.refl g) (fun b hb => hold b (h.stab b hb)) (fun b hb => hold b (h.blk k t b hk hb))

def Gh.put (g : Gh) (k : Nat) (v : Value) : Gh := { g with hv := fun i => if i = k then v else g.hv i, used := fun i => i = k ∨ g.used i }

theorem Gh.put_le (g : Gh) (k : Nat) (v : Value) (hk : ¬ g.used k) : g.Le (g.put k v) where
  S := fun _ h => h
  hv := fun i hi => by simp only [Gh.put]; exact if_neg (fun e : i = k => hk (e ▸ hi))
  used := fun _ h => .inr h

theorem Gh.put_same (g : Gh) (k : Nat) (v : Value) : (g.put k v).hv k = v := by simp [Gh.put]
theorem Gh.put_other (g : Gh) (k : Nat) (v : Value) (i : Nat) (h : i ≠ k) : (g.put k v).hv i = g.hv i := by simp [Gh.put, h]

/-- A new token, its block new (or none, or that of a token j that goes). -/
theorem SR.newTok (h : SR cx g σ a w) {w' : World} {G : Nat → Prop} (hf : Fr G w w') (k : Nat) (hk : σ.free k) (v : Value) (t : Tok) (gone : Nat → Prop)
    (ht : TokRep (g.put k v) w' k t) (hfz : t.frozen = false)
    (hb : ∀ b, hblk v = some b → b < w'.heap.size ∧ (w.heap.size ≤ b ∨ ∃ j tj, gone j ∧ σ.tk j = some tj ∧ tj.frozen = false ∧ hblk (g.hv j) = some b))
    (hG : ∀ b, b < w.heap.size → G b → ∃ j tj, gone j ∧ σ.tk j = some tj ∧ tj.frozen = false ∧ hblk (g.hv j) = some b)
    (tk' : Nat → Option Tok) (free' : Nat → Prop) (hfree : ∀ i, free' i → σ.free i ∧ i ≠ k) (htk' : ∀ i u, tk' i = some u → (i = k ∧ u = t) ∨ (i ≠ k ∧ ¬ gone i ∧ σ.tk i = some u)) :
    SR cx (g.put k v) ⟨σ.sl, tk', free'⟩ a w' := by
  have hle : g.Le (g.put k v) := g.put_le k v (fun hu => h.used k hu hk)
  have hGS : ∀ b, g.S b → w'.heap[b]? = w.heap[b]? := by
    intro b hb'
    have hlt := h.stab b hb'
    refine hf.block b hlt (fun hG' => ?_)
    obtain ⟨j, tj, _, hj, hfz', hbj⟩ := hG b hlt hG'
    exact (h.live j tj b hj hfz' hbj).1 hb'
  have hkeep : ∀ i u b, σ.tk i = some u → ¬ gone i → hblk (g.hv i) = some b → w'.heap[b]? = w.heap[b]? := by
    intro i u b hi hgi hbi
    have hlt := h.blk i u b hi hbi
    refine hf.block b hlt (fun hG' => ?_)
    obtain ⟨j, tj, hgj, hj, _, hbj⟩ := hG b hlt hG'
    exact hgi ((h.inj i j u tj b hi hj hbi hbj) ▸ hgj)
  have hnew : ∀ i u b, σ.tk i = some u → ¬ gone i → hblk (g.hv i) = some b → hblk v ≠ some b := by
    intro i u b hi hgi hbi hv
    rcases (hb b hv).2 with hge | ⟨j, tj, hgj, hj, _, hbj⟩
    · have := h.blk i u b hi hbi; omega
    · exact hgi ((h.inj i j u tj b hi hj hbi hbj) ▸ hgj)
  refine h.move (g.put k v) w' tk' free' hle (fun i hi hf' => hi.elim (hfree i hf').2 (fun hu => h.used i hu (hfree i hf').1)) hGS ?_ ?_ ?_ ?_ ?_ ?_ (fun b hb' => Nat.lt_of_lt_of_le (h.stab b hb') hf.size) (fun b hb' => .inl hb') (fun i hi => (hfree i hi).1)
  · refine h.frame.step hf (fun b hb0 hGb => ?_)
    obtain ⟨j, tj, _, hj, hfz', hbj⟩ := hG b (Nat.lt_of_lt_of_le hb0 h.frame.size) hGb
    rcases (h.live j tj b hj hfz' hbj).2 with h' | h'
    · omega
    · exact h'
  · intro i u hi
    rcases htk' i u hi with ⟨rfl, rfl⟩ | ⟨hne, hgi, hi'⟩
    · exact ht
    · refine (h.tk i u hi').mono (h.key i u hi') hle hGS (fun b hb' => hkeep i u b hi' hgi hb')
  · intro i u hi
    rcases htk' i u hi with ⟨rfl, rfl⟩ | ⟨hne, hgi, hi'⟩
    · exact .inl rfl
    · exact .inr (h.key i u hi')
  · intro i i' u u' b hi hi' hbi hbi'
    rcases htk' i u hi with ⟨rfl, rfl⟩ | ⟨hne, hgi, hti⟩ <;> rcases htk' i' u' hi' with ⟨rfl, rfl⟩ | ⟨hne', hgi', hti'⟩
    · rfl
    · rw [Gh.put_same] at hbi; rw [Gh.put_other _ _ _ _ hne'] at hbi'
      exact (hnew i' u' b hti' hgi' hbi' hbi).elim
    · rw [Gh.put_same] at hbi'; rw [Gh.put_other _ _ _ _ hne] at hbi
      exact (hnew i u b hti hgi hbi hbi').elim
    · rw [Gh.put_other _ _ _ _ hne] at hbi; rw [Gh.put_other _ _ _ _ hne'] at hbi'
      exact h.inj i i' u u' b hti hti' hbi hbi'
  · intro i u b hi hfi hbi
    rcases htk' i u hi with ⟨rfl, rfl⟩ | ⟨hne, hgi, hti⟩
    · rw [Gh.put_same] at hbi
      rcases (hb b hbi).2 with hge | ⟨j, tj, _, hj, hfz', hbj⟩
      · exact ⟨fun hS => by have := h.stab b hS; omega, .inl (Nat.le_trans h.frame.size hge)⟩
      · exact h.live j tj b hj hfz' hbj
    · rw [Gh.put_other _ _ _ _ hne] at hbi
      exact h.live i u b hti hfi hbi
  · intro i u b hi hbi
    rcases htk' i u hi with ⟨rfl, rfl⟩ | ⟨hne, hgi, hti⟩
    · rw [Gh.put_same] at hbi; exact (hb b hbi).1
    · rw [Gh.put_other _ _ _ _ hne] at hbi
      exact Nat.lt_of_lt_of_le (h.blk i u b hti hbi) hf.size

/-- A token's content turns; its block stays its own. -/
theorem SR.setTok (h : SR cx g σ a w) {w' : World} (k : Nat) (t t' : Tok) (hk : σ.tk k = some t) (hfz : t.frozen = false)
    (hf : Fr (fun b => hblk (g.hv k) = some b) w w') (ht : TokRep g w' k t') : SR cx g (σ.tok k t') a w' := by
  have hGS : ∀ b, g.S b → w'.heap[b]? = w.heap[b]? := fun b hb => hf.block b (h.stab b hb) (fun e => (h.live k t b hk hfz e).1 hb)
  have hcases : ∀ i u, (σ.tok k t').tk i = some u → (i = k ∧ u = t') ∨ (i ≠ k ∧ σ.tk i = some u) := by
    intro i u hi
    simp only [St.tok] at hi
    by_cases e : i = k
    · rw [if_pos e] at hi; cases hi; exact .inl ⟨e, rfl⟩
    · rw [if_neg e] at hi; exact .inr ⟨e, hi⟩
  have hold : ∀ i u, (σ.tok k t').tk i = some u → ∃ u', σ.tk i = some u' ∧ (u.frozen = false → u'.frozen = false) := by
    intro i u hi
    rcases hcases i u hi with ⟨rfl, rfl⟩ | ⟨_, hi'⟩
    · exact ⟨t, hk, fun _ => hfz⟩
    · exact ⟨u, hi', id⟩
  refine h.move g w' (σ.tok k t').tk σ.free (Gh.Le.refl g) h.used hGS ?_ ?_ ?_ ?_ ?_ ?_ (fun b hb => Nat.lt_of_lt_of_le (h.stab b hb) hf.size) (fun b hb => .inl hb) (fun _ x => x)
  · refine h.frame.step hf (fun b hb0 e => ?_)
    rcases (h.live k t b hk hfz e).2 with h' | h'
    · omega
    · exact h'
  · intro i u hi
    rcases hcases i u hi with ⟨rfl, rfl⟩ | ⟨hne, hi'⟩
    · exact ht
    · refine (h.tk i u hi').mono (h.key i u hi') (Gh.Le.refl g) hGS (fun b hb => ?_)
      exact hf.block b (h.blk i u b hi' hb) (fun e => hne (h.inj i k u t b hi' hk hb e))
  · intro i u hi
    obtain ⟨u', hu', _⟩ := hold i u hi
    exact h.key i u' hu'
  · intro i i' u u' b hi hi' hbi hbi'
    obtain ⟨x, hx, _⟩ := hold i u hi
    obtain ⟨x', hx', _⟩ := hold i' u' hi'
    exact h.inj i i' x x' b hx hx' hbi hbi'
  · intro i u b hi hfi hbi
    obtain ⟨x, hx, hfx⟩ := hold i u hi
    exact h.live i x b hx (hfx hfi) hbi
  · intro i u b hi hbi
    obtain ⟨x, hx, _⟩ := hold i u hi
    exact Nat.lt_of_lt_of_le (h.blk i x b hx hbi) hf.size

/-- A row is never written again: it becomes immutable data. -/
theorem SR.freeze (h : SR cx g σ a w) (k e sz : Nat) (es : List (List T)) (frz : Bool) (hk : σ.tk k = some (.rows e sz es frz)) :
    SR cx { g with S := fun b => g.S b ∨ hblk (g.hv k) = some b } (σ.tok k (.rows e sz es true)) a w := by
  have hle : g.Le { g with S := fun b => g.S b ∨ hblk (g.hv k) = some b } := ⟨fun _ x => .inl x, fun _ _ => rfl, fun _ x => x⟩
  have hcases : ∀ i u, (σ.tok k (.rows e sz es true)).tk i = some u → (i = k ∧ u = .rows e sz es true) ∨ (i ≠ k ∧ σ.tk i = some u) := by
    intro i u hi
    simp only [St.tok] at hi
    by_cases e : i = k
    · rw [if_pos e] at hi; cases hi; exact .inl ⟨e, rfl⟩
    · rw [if_neg e] at hi; exact .inr ⟨e, hi⟩
  have hold : ∀ i u, (σ.tok k (.rows e sz es true)).tk i = some u → ∃ u', σ.tk i = some u' := by
    intro i u hi
    rcases hcases i u hi with ⟨rfl, rfl⟩ | ⟨_, hi'⟩
    · exact ⟨_, hk⟩
    · exact ⟨u, hi'⟩
  refine h.move _ w (σ.tok k (.rows e sz es true)).tk σ.free hle h.used (fun _ _ => rfl) h.frame ?_ ?_ ?_ ?_ ?_ ?_ ?_ (fun _ x => x)
  · intro i u hi
    rcases hcases i u hi with ⟨rfl, rfl⟩ | ⟨hne, hi'⟩
    · have hr := (h.tk i _ hk).mono (h.key i _ hk) hle (fun _ _ => rfl) (fun _ _ => rfl)
      cases hr with
      | rows e sz es frz xs h1 h2 h3 h4 h5 => exact .rows e sz es true xs h1 h2 h3 h4 (fun _ b hb => .inr hb)
    · exact (h.tk i u hi').mono (h.key i u hi') hle (fun _ _ => rfl) (fun _ _ => rfl)
  · intro i u hi
    obtain ⟨u', hu'⟩ := hold i u hi
    exact h.key i u' hu'
  · intro i i' u u' b hi hi' hbi hbi'
    obtain ⟨x, hx⟩ := hold i u hi
    obtain ⟨x', hx'⟩ := hold i' u' hi'
    exact h.inj i i' x x' b hx hx' hbi hbi'
  · intro i u b hi hfi hbi
    rcases hcases i u hi with ⟨rfl, rfl⟩ | ⟨hne, hi'⟩
    · cases hfi
    · have hl := h.live i u b hi' hfi hbi
      exact ⟨fun hS => hS.elim hl.1 (fun e => hne (h.inj i k u _ b hi' hk hbi e)), hl.2⟩
  · intro i u b hi hbi
    obtain ⟨x, hx⟩ := hold i u hi
    exact h.blk i x b hx hbi
  · rintro b (hb | hb)
    · exact h.stab b hb
    · exact h.blk k _ b hk hb
  · rintro b (hb | hb)
    · exact .inl hb
    · cases frz with
      | false => exact (h.live k _ b hk rfl hb).2.elim (fun x => .inr (.inr x)) (fun x => .inr (.inl x))
      | true =>
        have hr := h.tk k _ hk
        cases hr with
        | rows e sz es frz xs h1 h2 h3 h4 h5 => exact .inl (h5 rfl b hb)
end
end Go.Pm
