/- The pure machine, part A: immutable data (T), abstract values (AV), tokens (Tok), and what it means that a machine's value or block is one of them. Conditions: none (definitions and lemmas alone). -/
import Derived.Laws.AppendOwn
import Derived.Calls
namespace Go.Pm
open Go
set_option linter.unusedVariables false
set_option linter.unusedSimpArgs false

/-- Immutable data: a value without memory of its own; a slice by its elements' cells; a struct; an interface's content; a pointer to such cells; a value beside which is known that the blocks of A are stable; a row out of A. -/
inductive T where
  | val (v : Value)
  | row (sz : Nat) (es : List (List T))
  | agg (cs : List T)
  | ifc (t : TypeId) (x : T)
  | fp (cs : List T)
  | wit (A : Nat → Prop) (v : Value)
  | away (A : Nat → Prop) (sz : Nat) (es : List (List T))

noncomputable instance : Inhabited T := ⟨.val undef⟩

/-- A value is that data: what it leads to lies in blocks of S. -/
inductive RepT (S : Nat → Prop) (w : World) : T → Value → Prop where
  | val (v : Value) : RepT S w (.val v) v
  | nilrow (sz c : Nat) (A : Option Addr) : RepT S w (.row sz []) (.slice A 0 c)
  | row (sz : Nat) (es : List (List T)) (b o c : Nat) (u : Nat → Nat → Value) : es.length ≤ c → (∀ e ∈ es, e.length = sz) → S b →
      (∀ i j, i < es.length → j < sz → w.cell? ⟨b, o + (i * sz + j), none⟩ = some (u i j)) →
      (∀ i j, i < es.length → j < sz → RepT S w ((es.getD i []).getD j default) (u i j)) →
      RepT S w (.row sz es) (.slice (some ⟨b, o, none⟩) es.length c)
  | agg (cs : List T) (vs : Array Value) : vs.size = cs.length → (∀ i, i < cs.length → RepT S w (cs.getD i default) (vs.getD i undef)) → RepT S w (.agg cs) (.agg vs)
  | ifc (t : TypeId) (x : T) (v : Value) : RepT S w x v → RepT S w (.ifc t x) (.iface t v)
  | fp (cs : List T) (b o : Nat) (u : Nat → Value) : S b → (∀ j, j < cs.length → w.cell? ⟨b, o + j, none⟩ = some (u j)) → (∀ j, j < cs.length → RepT S w (cs.getD j default) (u j)) →
      RepT S w (.fp cs) (.pointer (some ⟨b, o, none⟩))
  | wit (A : Nat → Prop) (v : Value) : (∀ b, A b → S b) → RepT S w (.wit A v) v
  | awaynil (A : Nat → Prop) (sz c : Nat) (X : Option Addr) : RepT S w (.away A sz []) (.slice X 0 c)
  | away (A : Nat → Prop) (sz : Nat) (es : List (List T)) (b c : Nat) (u : Nat → Nat → Value) (C : Array Value) (e : TypeId) : es.length ≤ maxLen → (∀ e ∈ es, e.length = sz) → S b → ¬ A b →
      w.heap[b]? = some (.cells C e (0, 0)) → es.length * sz ≤ C.size → es.length ≤ c →
      (∀ i j, i < es.length → j < sz → w.cell? ⟨b, 0 + (i * sz + j), none⟩ = some (u i j)) →
      (∀ i j, i < es.length → j < sz → RepT S w ((es.getD i []).getD j default) (u i j)) →
      RepT S w (.away A sz es) (.slice (some ⟨b, 0, none⟩) es.length c)

theorem cell?_of_heap {w w' : World} {a : Addr} (h : w'.heap[a.block]? = w.heap[a.block]?) : w'.cell? a = w.cell? a := by
  simp [World.cell?, h]

theorem RepT.mono {S S' : Nat → Prop} {w w' : World} {x : T} {v : Value} (h : RepT S w x v)
    (hs : ∀ b, S b → S' b) (hw : ∀ b, S b → w'.heap[b]? = w.heap[b]?) : RepT S' w' x v := by
  induction h with
  | val v => exact .val v
  | nilrow sz c A => exact .nilrow sz c A
  | row sz es b o c u h1 h2 h3 h4 _ ih =>
    exact .row sz es b o c u h1 h2 (hs b h3) (fun i j hi hj => (cell?_of_heap (hw b h3)).trans (h4 i j hi hj)) ih
  | agg cs vs h1 _ ih => exact .agg cs vs h1 ih
  | ifc t x v _ ih => exact .ifc t x v ih
  | fp cs b o u h1 h2 _ ih => exact .fp cs b o u (hs b h1) (fun j hj => (cell?_of_heap (hw b h1)).trans (h2 j hj)) ih
  | wit A v h => exact .wit A v (fun b hb => hs b (h b hb))
  | awaynil A sz c X => exact .awaynil A sz c X
  | away A sz es b c u C e h1 h2 h3 hA hh hl hc h4 _ ih => exact .away A sz es b c u C e h1 h2 (hs b h3) hA ((hw b h3).trans hh) hl hc (fun i j hi hj => (cell?_of_heap (hw b h3)).trans (h4 i j hi hj)) ih

/-- Abstract values: data; the slice that owns token k; a look at a part of it; a pointer into a variable of ours; a pointer into an element of a row of ours; a pointer into immutable cells; structs, tuples, closures. -/
inductive AV where
  | imm (x : T)
  | own (k : Nat)
  | view (k sz off n : Nat)
  | ptr (k off : Nat)
  | eptr (k sz i j : Nat)
  | cap (k sz off n c : Nat)
  | rptr (cs : List T) (off : Nat)
  | agg (cs : List AV)
  | tup (vs : List AV)
  | fn (f : Nat) (cap : List AV)

noncomputable instance : Inhabited AV := ⟨.imm default⟩

mutual
/-- The keys that a value names. -/
def AV.keys : AV → List Nat
  | .own k => [k]
  | .view k _ _ _ => [k]
  | .ptr k _ => [k]
  | .eptr k _ _ _ => [k]
  | .cap k _ _ _ _ => [k]
  | .agg cs => keysL cs
  | .tup vs => keysL vs
  | .fn _ cap => keysL cap
  | _ => []
def keysL : List AV → List Nat
  | [] => []
  | x :: l => x.keys ++ keysL l
end

/-- hv: each token's handle (the slice, or the pointer to the variable). used: the keys that were ever given. -/
structure Gh where
  S : Nat → Prop
  hv : Nat → Value
  used : Nat → Prop

inductive RepA (g : Gh) (w : World) : AV → Value → Prop where
  | imm (x : T) (v : Value) : RepT g.S w x v → RepA g w (.imm x) v
  | own (k : Nat) : g.used k → RepA g w (.own k) (g.hv k)
  | view (k sz off n b n0 c0 c : Nat) : g.used k → g.hv k = .slice (some ⟨b, 0, none⟩) n0 c0 → off + n ≤ n0 → n ≤ c → RepA g w (.view k sz off n) (.slice (some ⟨b, off * sz, none⟩) n c)
  | view0 (k sz off c : Nat) (A : Option Addr) : g.used k → RepA g w (.view k sz off 0) (.slice A 0 c)
  | ptr (k off b : Nat) : g.used k → g.hv k = .pointer (some ⟨b, 0, none⟩) → RepA g w (.ptr k off) (.pointer (some ⟨b, off, none⟩))
  | cap (k sz off n c b n0 c0 : Nat) : g.used k → g.hv k = .slice (some ⟨b, 0, none⟩) n0 c0 → off + c = c0 → n ≤ c → RepA g w (.cap k sz off n c) (.slice (some ⟨b, off * sz, none⟩) n c)
  | eptr (k sz i j b n0 c0 : Nat) : g.used k → g.hv k = .slice (some ⟨b, 0, none⟩) n0 c0 → RepA g w (.eptr k sz i j) (.pointer (some ⟨b, i * sz + j, none⟩))
  | rptr (cs : List T) (off b o : Nat) (u : Nat → Value) : g.S b → (∀ j, j < cs.length → w.cell? ⟨b, o + j, none⟩ = some (u j)) →
      (∀ j, j < cs.length → RepT g.S w (cs.getD j default) (u j)) → RepA g w (.rptr cs off) (.pointer (some ⟨b, o + off, none⟩))
  | agg (cs : List AV) (vs : Array Value) : vs.size = cs.length → (∀ i, i < cs.length → RepA g w (cs.getD i default) (vs.getD i undef)) → RepA g w (.agg cs) (.agg vs)
  | tup (cs : List AV) (vs : Array Value) : vs.size = cs.length → (∀ i, i < cs.length → RepA g w (cs.getD i default) (vs.getD i undef)) → RepA g w (.tup cs) (.tuple vs)
  | fn (f : Nat) (cap : List AV) (vs : Array Value) : vs.size = cap.length → (∀ i, i < cap.length → RepA g w (cap.getD i default) (vs.getD i undef)) → RepA g w (.fn f cap) (.func (.func f) #[] vs)

/-- A later ghost: more is stable, elder keys' handles stay. -/
structure Gh.Le (g g' : Gh) : Prop where
  S : ∀ b, g.S b → g'.S b
  hv : ∀ k, g.used k → g'.hv k = g.hv k
  used : ∀ k, g.used k → g'.used k

theorem Gh.Le.refl (g : Gh) : g.Le g := ⟨fun _ h => h, fun _ _ => rfl, fun _ h => h⟩
theorem Gh.Le.trans {a b c : Gh} (h : a.Le b) (h' : b.Le c) : a.Le c :=
  ⟨fun x hx => h'.S x (h.S x hx), fun k hk => (h'.hv k (h.used k hk)).trans (h.hv k hk), fun k hk => h'.used k (h.used k hk)⟩

theorem RepA.mono {g g' : Gh} {w w' : World} {x : AV} {v : Value} (h : RepA g w x v) (hg : g.Le g')
    (hw : ∀ b, g.S b → w'.heap[b]? = w.heap[b]?) : RepA g' w' x v := by
  induction h with
  | imm x v h => exact .imm x v (h.mono hg.S hw)
  | own k hk => rw [← hg.hv k hk]; exact .own k (hg.used k hk)
  | view k sz off n b n0 c0 c hk h1 h2 h3 => exact .view k sz off n b n0 c0 c (hg.used k hk) ((hg.hv k hk).trans h1) h2 h3
  | view0 k sz off c A hk => exact .view0 k sz off c A (hg.used k hk)
  | ptr k off b hk h1 => exact .ptr k off b (hg.used k hk) ((hg.hv k hk).trans h1)
  | cap k sz off n c b n0 c0 hk h1 h2 h3 => exact .cap k sz off n c b n0 c0 (hg.used k hk) ((hg.hv k hk).trans h1) h2 h3
  | eptr k sz i j b n0 c0 hk h1 => exact .eptr k sz i j b n0 c0 (hg.used k hk) ((hg.hv k hk).trans h1)
  | rptr cs off b o u h1 h2 h3 => exact .rptr cs off b o u (hg.S b h1) (fun j hj => (cell?_of_heap (hw b h1)).trans (h2 j hj)) (fun j hj => (h3 j hj).mono hg.S hw)
  | agg cs vs h1 _ ih => exact .agg cs vs h1 ih
  | tup cs vs h1 _ ih => exact .tup cs vs h1 ih
  | fn f cap vs h1 _ ih => exact .fn f cap vs h1 ih

/-- What a token holds: one variable's cells; a row of elements (frz: nobody writes it any more); a text that is ranged over. -/
inductive Tok where
  | box (cs : List AV)
  | rows (e : TypeId) (sz : Nat) (es : List (List T)) (frz : Bool)
  | iter (s : ByteArray) (pos : Nat)

/-- The block that a handle names. -/
def hblk : Value → Option Nat
  | .slice (some a) _ _ => some a.block
  | .pointer (some a) => some a.block
  | _ => none

/-- Of a cell nothing is asked. -/
def One (u : Value) : Prop := u.oneCell' = true ∨ True

inductive TokRep (g : Gh) (w : World) (k : Nat) : Tok → Prop where
  | box (cs : List AV) (b : Nat) (C : Array Value) (e : TypeId) : g.hv k = .pointer (some ⟨b, 0, none⟩) → w.heap[b]? = some (.cells C e (0, 0)) → C.size = cs.length →
      (∀ i, i < cs.length → RepA g w (cs.getD i default) (C.getD i undef)) → TokRep g w k (.box cs)
  | rows (e : TypeId) (sz : Nat) (es : List (List T)) (frz : Bool) (xs : List Value) : w.ownsRow 0 e sz (g.hv k) es.length xs → (∀ e ∈ es, e.length = sz) →
      (∀ i j, i < es.length → j < sz → RepT g.S w ((es.getD i []).getD j default) (xs.getD (i * sz + j) undef)) → (∀ u ∈ xs, One u) →
      (frz = true → ∀ b, hblk (g.hv k) = some b → g.S b) → TokRep g w k (.rows e sz es frz)
  | iter (s : ByteArray) (pos b : Nat) : g.hv k = .pointer (some ⟨b, 0, none⟩) → w.heap[b]? = some (.stringIter s pos) → TokRep g w k (.iter s pos)

/-- A token's block: not frozen tokens' blocks aren't stable. -/
def Tok.frozen : Tok → Bool
  | .rows _ _ _ f => f
  | _ => false

theorem TokRep.mono {g g' : Gh} {w w' : World} {k : Nat} {t : Tok} (h : TokRep g w k t) (hk : g.used k) (hg : g.Le g')
    (hw : ∀ b, g.S b → w'.heap[b]? = w.heap[b]?) (hb : ∀ b, hblk (g.hv k) = some b → w'.heap[b]? = w.heap[b]?) : TokRep g' w' k t := by
  have hv := hg.hv k hk
  cases h with
  | box cs b C e h1 h2 h3 h4 =>
    refine .box cs b C e (hv.trans h1) ?_ h3 (fun i hi => (h4 i hi).mono hg hw)
    rw [hb b (by rw [h1]; rfl)]; exact h2
  | rows e sz es frz xs h1 h2 h3 h4 h5 =>
    refine .rows e sz es frz xs ?_ h2 (fun i j hi hj => (h3 i j hi hj).mono hg.S hw) h4 (fun hf b hb' => hg.S b (h5 hf b (by rw [← hv]; exact hb')))
    rw [hv]
    refine ⟨h1.1, ?_⟩
    rcases h1.2 with hn | ⟨b, cap, cur, e1, e2, e3, r⟩
    · exact .inl hn
    · exact .inr ⟨b, cap, cur, e1, e2, (hb b (by rw [e1]; rfl)).trans e3, r⟩
  | iter s pos b h1 h2 => exact .iter s pos b (hv.trans h1) ((hb b (by rw [h1]; rfl)).trans h2)

end Go.Pm
