/- The pure machine, part F: what one operation does to the abstract state: new memory, struct and slice literals, interfaces, closures. Conditions: none (definitions and lemmas alone). -/
import Derived.Laws.Tables
import Derived.Laws.Build
import Derived.Great.BuildSlice
import Derived.Test.YtidinbjehfodoaaPmE
namespace Go.Pm
open Go
set_option linter.unusedVariables false
set_option linter.unusedSimpArgs false

section
variable {cx : Cx} {g : Gh} {σ : St} {a : Act} {w : World} {P : Program} {o : Oper}

theorem alloc_cells (w : World) (C : Array Value) (e : TypeId) : (w.alloc (.cells C e)).heap[w.heap.size]? = some (.cells C e (0, 0)) := heap_alloc_new w _

theorem arr_list_getD (l : List Value) (i : Nat) : l.toArray.getD i undef = l.getD i undef := by
  simp [Array.getD_eq_getD_getElem?, List.getD_eq_getElem?_getD]

theorem toList_getD (A : Array Value) (i : Nat) : A.toList.getD i undef = A.getD i undef := by
  simp [Array.getD_eq_getD_getElem?, List.getD_eq_getElem?_getD]

/-- A variable of a type, zero. -/
theorem OpL.alloc {e : TypeId} {k : Nat} {i : TypeInfo} {z : Value} {zs : List Value} (ho : o.op = .alloc e) (hi : P.info? e = some i) (hz : i.zero = some z) (hzs : z.cells.toList = zs) :
    OpL P o σ [] ⟨some (.ptr k 0), [(k, some (.box (zs.map fun v => .imm (.val v))))], [k]⟩ := by
  intro σ' hs _ hfree
  refine .of_new (hfree k (by simp)) rfl fun cx g a w h => ?_
  refine ⟨.pointer (some ⟨w.heap.size, 0, none⟩), .pointer (some ⟨w.heap.size, 0, none⟩), w.alloc (.cells z.cells e), ?_, Fr.alloc w _, ?_, ?_, ?_⟩
  · simp [execOp, ho, Instr.alloc, zeroValue, typeInfo, hi, hz, newVar, newRow]
  · refine .box _ w.heap.size z.cells e (Gh.put_same _ _ _) (alloc_cells _ _ _) (by rw [List.length_map, ← hzs]; simp) (fun j hj => ?_)
    rw [List.length_map] at hj
    rw [listD_map (d := undef) _ _ _ _ hj, ← hzs, toList_getD]
    exact .imm _ _ (.val _)
  · intro b hb; simp only [hblk, Option.some.injEq] at hb; subst hb; simp
  · exact .ptr k 0 w.heap.size (.inl rfl) (Gh.put_same _ _ _)

/-- A variable that begins with a value. -/
theorem OpL.box {e : TypeId} {x : Operand} {k : Nat} {z : AV} (ho : o.op = .box e x) (hx : rd σ x = some z) (h1 : ∀ c ∈ z.cells, c.one = true) (hown : ∀ q ∈ ownKeys z.cells, σ.tk q ≠ none) :
    OpL P o σ (ownKeys z.cells) ⟨some (.ptr k 0), [(k, some (.box z.cells))], [k]⟩ := by
  intro σ' hs hfp hfree
  have hx' := (hs x (by simp [ho, Op.operands])).trans hx
  have hk := hfree k (by simp)
  refine .of_new hk rfl fun cx g a w h => ?_
  have hr := rd_rep h x _ hx'
  generalize he : a.eval x = v at hr
  obtain ⟨hsz, hcells, _⟩ := cells_rep hr h1 h (fun c hc q e => by
    subst e
    have hm := mem_ownKeys hc
    rw [hfp q hm]; exact hown q hm)
  have hle : g.Le (g.put k (.pointer (some ⟨w.heap.size, 0, none⟩))) := g.put_le k _ (fun hu => h.used k hu hk)
  refine ⟨.pointer (some ⟨w.heap.size, 0, none⟩), .pointer (some ⟨w.heap.size, 0, none⟩), w.alloc (.cells v.cells e), ?_, Fr.alloc w _, ?_, ?_, ?_⟩
  · simp [execOp, ho, he, Instr.box, newVar, newRow]
  · refine .box _ w.heap.size v.cells e (Gh.put_same _ _ _) (alloc_cells _ _ _) hsz (fun j hj => ?_)
    exact (hcells j hj).mono hle (fun b hb => (Fr.alloc w _).block b (h.stab b hb) (fun x => x))
  · intro b hb; simp only [hblk, Option.some.injEq] at hb; subst hb; simp
  · exact .ptr k 0 w.heap.size (.inl rfl) (Gh.put_same _ _ _)

def fillA (place : Nat → Option (Nat × Nat)) (cells : List AV) : List (Nat × AV) → Option (List AV)
  | [] => some cells
  | (i, x) :: rest =>
    match place i with
    | none => none
    | some (off, size) => if x.cells.length = size ∧ off + size ≤ cells.length then fillA place (splice cells off x.cells) rest else none

theorem fold_set (off : Nat) : ∀ (vs : List Value) (j : Nat) (cells : Array Value), off + j + vs.length ≤ cells.size →
    let r := (vs.zipIdx j).foldl (fun cs (p : Value × Nat) => cs.setIfInBounds (off + p.2) p.1) cells
    r.size = cells.size ∧ ∀ i, r.getD i undef = if off + j ≤ i ∧ i < off + j + vs.length then vs.getD (i - (off + j)) undef else cells.getD i undef
  | [], j, cells, _ => ⟨rfl, fun i => by rw [if_neg (by simp only [List.length_nil]; omega)]; rfl⟩
  | v :: r, j, cells, hl => by
    simp only [List.length_cons] at hl
    have ih := fold_set off r (j + 1) (cells.setIfInBounds (off + j) v) (by simp; omega)
    simp only [List.zipIdx_cons, List.foldl_cons]
    refine ⟨by rw [ih.1]; simp, fun i => ?_⟩
    rw [ih.2 i, getD_setIfInBounds _ _ _ _ (by omega)]
    simp only [List.length_cons]
    by_cases e1 : i = off + j
    · rw [if_neg (by omega), if_pos e1, if_pos (by omega)]
      rw [show i - (off + j) = 0 by omega]; simp
    · by_cases e2 : off + (j + 1) ≤ i ∧ i < off + (j + 1) + r.length
      · rw [if_pos e2, if_pos (by omega)]
        obtain ⟨q, rfl⟩ : ∃ q, i = off + (j + 1) + q := ⟨i - (off + (j + 1)), by omega⟩
        rw [show off + (j + 1) + q - (off + (j + 1)) = q by omega, show off + (j + 1) + q - (off + j) = q + 1 by omega]; simp
      · rw [if_neg e2, if_neg e1, if_neg (by omega)]

theorem zipIdx_arr (A : Array Value) (off : Nat) (cells : Array Value) :
    A.zipIdx.foldl (fun cs (p : Value × Nat) => cs.setIfInBounds (off + p.2) p.1) cells = (A.toList.zipIdx 0).foldl (fun cs (p : Value × Nat) => cs.setIfInBounds (off + p.2) p.1) cells := by
  rw [← Array.foldl_toList, Array.toList_zipIdx]

/-- Part by part: what is filled is what the abstract parts say. -/
theorem fill_rep (h : SR cx g σ a w) (place : Nat → Option (Nat × Nat)) : ∀ (ps : List (Nat × AV)) (vs : List (Nat × Value)) (cells : List AV) (C : Array Value) (out : List AV),
    ps.length = vs.length → (∀ (j i : Nat) (x : AV), ps[j]? = some (i, x) → ∃ v, vs[j]? = some (i, v) ∧ RepA g w x v) → (∀ (j i : Nat) (x : AV), ps[j]? = some (i, x) → (∀ c ∈ x.cells, c.one = true) ∧ (∀ q ∈ ownKeys x.cells, σ.tk q ≠ none)) →
    C.size = cells.length → (∀ j, j < cells.length → RepA g w (cells.getD j default) (C.getD j undef)) → fillA place cells ps = some out →
    ∃ C', Instr.fill place C vs = some C' ∧ C'.size = out.length ∧ ∀ j, j < out.length → RepA g w (out.getD j default) (C'.getD j undef)
  | [], vs, cells, C, out, hl, _, _, hC, hr, hf => by
    cases vs with
    | nil => cases hf; exact ⟨C, rfl, hC, hr⟩
    | cons v r => cases hl
  | (i, x) :: ps, vs, cells, C, out, hl, hv, ho', hC, hr, hf => by
    cases vs with
    | nil => cases hl
    | cons v vs =>
      obtain ⟨u, hu, hx⟩ := hv 0 i x rfl
      cases hu
      obtain ⟨hone, hown⟩ := ho' 0 i x rfl
      obtain ⟨hsz, hcells, _⟩ := cells_rep hx hone h (fun c hc q e => hown q (mem_ownKeys (e ▸ hc)))
      simp only [fillA] at hf
      cases hp : place i with
      | none => rw [hp] at hf; cases hf
      | some p =>
        obtain ⟨off, size⟩ := p
        rw [hp] at hf
        simp only at hf
        split at hf
        · rename_i hc
          have hfit : off + 0 + u.cells.toList.length ≤ C.size := by simp; omega
          obtain ⟨s1, s2⟩ := fold_set off u.cells.toList 0 C hfit
          have hfit2 : off + x.cells.length ≤ cells.length := by omega
          obtain ⟨C', h1, h2, h3⟩ := fill_rep h place ps vs _ _ out (by simpa using hl) (fun j i' x' hj => hv (j + 1) i' x' hj) (fun j i' x' hj => ho' (j + 1) i' x' hj)
            (by rw [s1, hC, splice_length _ _ _ hfit2]) (fun j hj => by
              rw [splice_length _ _ _ hfit2] at hj
              rw [splice_getD _ _ _ _ hfit2, s2 j]
              simp only [Nat.add_zero, Array.length_toList, hsz]
              split
              · rw [toList_getD]; exact hcells _ (by omega)
              · exact hr j hj) hf
          refine ⟨C', ?_, h2, h3⟩
          simp only [Instr.fill, hp]
          rw [if_neg (by simp only [Bool.or_eq_true, bne_iff_ne, ne_eq, decide_eq_true_eq, not_or, Decidable.not_not, hsz]; omega)]
          rw [zipIdx_arr]
          exact h1
        · cases hf

/-- The parts' values. -/
def rdParts (σ : St) : List (Nat × Operand) → Option (List (Nat × AV))
  | [] => some []
  | (i, x) :: l => match rd σ x, rdParts σ l with
    | some y, some r => some ((i, y) :: r)
    | _, _ => none

def partKeys : List (Nat × AV) → List Nat
  | [] => []
  | (_, x) :: l => ownKeys x.cells ++ partKeys l

theorem rdParts_rep (h : SR cx g σ a w) : ∀ (l : List (Nat × Operand)) (ps : List (Nat × AV)), rdParts σ l = some ps →
    ps.length = l.length ∧ ∀ (j i : Nat) (x : AV), ps[j]? = some (i, x) → ∃ v, (l.map fun (i, x) => (i, a.eval x))[j]? = some (i, v) ∧ RepA g w x v
  | [], ps, hp => by cases hp; exact ⟨rfl, fun j i x hj => by simp at hj⟩
  | (i, x) :: l, ps, hp => by
    simp only [rdParts] at hp
    cases hx : rd σ x with
    | none => rw [hx] at hp; cases hp
    | some y =>
      cases hl : rdParts σ l with
      | none => rw [hx, hl] at hp; cases hp
      | some r =>
        rw [hx, hl] at hp
        cases hp
        obtain ⟨e1, e2⟩ := rdParts_rep h l r hl
        refine ⟨by simp [e1], fun j i' x' hj => ?_⟩
        cases j with
        | zero => simp at hj; obtain ⟨rfl, rfl⟩ := hj; exact ⟨a.eval x, by simp, rd_rep h x y hx⟩
        | succ j => simp at hj ⊢; simpa using e2 j i' x' hj

theorem rdParts_agree {σ σ' : St} : ∀ (l : List (Nat × Operand)), (∀ p, p ∈ l → rd σ' p.2 = rd σ p.2) → rdParts σ' l = rdParts σ l
  | [], _ => rfl
  | (i, x) :: l, h => by
    simp only [rdParts]
    rw [h (i, x) (by simp), rdParts_agree l (fun p hp => h p (by simp [hp]))]

theorem partKeys_mem {ps : List (Nat × AV)} {j i : Nat} {x : AV} (h : ps[j]? = some (i, x)) {q : Nat} (hq : q ∈ ownKeys x.cells) : q ∈ partKeys ps := by
  induction ps generalizing j with
  | nil => simp at h
  | cons p ps ih =>
    cases j with
    | zero => simp at h; subst h; simp [partKeys, hq]
    | succ j => simp at h; simp [partKeys, ih h]

/-- A struct literal. -/
theorem OpL.build {t : TypeId} {parts : Array (Nat × Operand)} {it : TypeInfo} {fs : Array Field} {z : Value} {pl : List (Nat × Nat)} {ps : List (Nat × AV)} {out : List AV} (ho : o.op = .build t parts)
    (hit : P.info? t = some it) (hu : P.underlying t = some (.struct fs)) (hz : it.zero = some z) (hpl : fs.toList.mapM (fun f => (P.info? f.type).map fun i => (f.offset, i.size)) = some pl)
    (hps : rdParts σ parts.toList = some ps) (hone : ∀ p ∈ ps, ∀ c ∈ p.2.cells, c.one = true) (hown : ∀ q ∈ partKeys ps, σ.tk q ≠ none)
    (hout : fillA (pl[·]?) (z.cells.toList.map fun v => .imm (.val v)) ps = some out) : OpL P o σ (partKeys ps) ⟨some (.agg out), [], []⟩ := by
  intro σ' hs hfp _
  have hps' := (rdParts_agree (σ := σ) (σ' := σ') parts.toList (fun p hp => hs p.2 (by
    simp only [ho, Op.operands, List.mem_toArray, List.mem_map]; exact ⟨p, hp, rfl⟩))).trans hps
  refine .of_value fun cx g a w h => ?_
  obtain ⟨e1, e2⟩ := rdParts_rep h parts.toList ps hps'
  obtain ⟨C', h1, h2, h3⟩ := fill_rep h (pl[·]?) ps (parts.toList.map fun (i, x) => (i, a.eval x)) (z.cells.toList.map fun v => .imm (.val v)) z.cells out (by simp [e1]) e2
    (fun j i x hj => ⟨hone (i, x) (List.mem_of_getElem? hj), fun q hq => by
      have := partKeys_mem hj hq
      rw [hfp q this]; exact hown q this⟩) (by simp) (fun j hj => by
      rw [List.length_map] at hj
      rw [listD_map (d := undef) _ _ _ _ hj, toList_getD]; exact .imm _ _ (.val _)) hout
  have hb : P.built t ((parts.map fun (i, x) => (i, a.eval x)).toList) = some C' := by
    unfold Program.built
    simp only [hit, hu, hz, hpl, Array.toList_map]
    rw [← h1]
    congr 1
    funext i
    simp
  refine ⟨.agg C', ?_, .agg out C' h2 h3⟩
  simp [execOp, ho, run_build w t _ C' hb]

/-- Closed cells. -/
def cellsT : List AV → Option (List T)
  | [] => some []
  | .imm x :: l => (cellsT l).map (x :: ·)
  | _ :: _ => none

def chunk (sz : Nat) : Nat → List T → List (List T)
  | 0, _ => []
  | n + 1, l => l.take sz :: chunk sz n (l.drop sz)

theorem cellsT_get : ∀ (l : List AV) (ts : List T), cellsT l = some ts → ts.length = l.length ∧ ∀ j, j < l.length → l.getD j default = .imm (ts.getD j default)
  | [], ts, h => by cases h; exact ⟨rfl, fun j hj => by simp at hj⟩
  | x :: l, ts, h => by
    cases x <;> simp only [cellsT] at h <;> first | (cases h; done) | skip
    cases hl : cellsT l with
    | none => rw [hl] at h; cases h
    | some r =>
      rw [hl] at h; cases h
      obtain ⟨e1, e2⟩ := cellsT_get l r hl
      refine ⟨by simp [e1], fun j hj => ?_⟩
      cases j with
      | zero => rfl
      | succ j => simpa using e2 j (by simpa using hj)

theorem chunk_length (sz : Nat) : ∀ (n : Nat) (l : List T), (chunk sz n l).length = n
  | 0, _ => rfl
  | n + 1, l => by simp [chunk, chunk_length sz n]

theorem chunk_get (sz : Nat) : ∀ (n : Nat) (l : List T) (i : Nat), l.length = n * sz → i < n → ((chunk sz n l).getD i []).length = sz ∧ ∀ j, j < sz → ((chunk sz n l).getD i []).getD j default = l.getD (i * sz + j) default
  | n + 1, l, 0, hl, _ => by
    rw [Nat.add_mul, Nat.one_mul] at hl
    refine ⟨by simp [chunk]; omega, fun j hj => ?_⟩
    simp [chunk, List.getD_eq_getElem?_getD, List.getElem?_take, hj]
  | n + 1, l, i + 1, hl, hi => by
    rw [Nat.add_mul, Nat.one_mul] at hl
    obtain ⟨e1, e2⟩ := chunk_get sz n (l.drop sz) i (by simp; omega) (by omega)
    refine ⟨by simpa [chunk] using e1, fun j hj => ?_⟩
    have := e2 j hj
    simp only [chunk, List.getD_cons_succ]
    rw [this]
    simp only [List.getD_eq_getElem?_getD, List.getElem?_drop]
    rw [show sz + (i * sz + j) = (i + 1) * sz + j by rw [Nat.add_mul]; omega]

theorem chunk_all (sz n : Nat) (l : List T) (hl : l.length = n * sz) : ∀ e ∈ chunk sz n l, e.length = sz := by
  intro e he
  obtain ⟨i, hi, rfl⟩ := List.getElem_of_mem he
  have hi' : i < n := by rw [chunk_length] at hi; exact hi
  have := (chunk_get sz n l i hl hi').1
  rwa [List.getD_eq_getElem?_getD, List.getElem?_eq_getElem hi] at this

/-- Cells of ours that are one cell each, as values. -/
theorem one_of_imm {g : Gh} {w : World} {x : T} {v : Value} (hx : RepT g.S w x v) (h1 : (AV.imm x).one = true) : v.oneCell' = true := by
  cases hx with
  | val v => exact h1
  | nilrow => rfl
  | row => rfl
  | agg => cases h1
  | ifc => rfl
  | fp => rfl
  | wit => exact h1
  | awaynil => rfl
  | away => rfl

/-- A slice literal, all of its elements closed. -/
theorem OpL.buildSlice {t e : TypeId} {len k : Nat} {parts : Array (Nat × Operand)} {ie : TypeInfo} {z : Value} {ps : List (Nat × AV)} {out : List AV} {ts : List T} (ho : o.op = .buildSlice t len parts)
    (hu : P.underlying t = some (.slice e)) (hie : P.info? e = some ie) (hz : ie.zero = some z) (hzs : z.cells.size = ie.size) (hpos : 0 < ie.size) (hlen : len * ie.size ≤ 16777216)
    (hps : rdParts σ parts.toList = some ps) (hone : ∀ p ∈ ps, ∀ c ∈ p.2.cells, c.one = true) (hown : ∀ q ∈ partKeys ps, σ.tk q ≠ none)
    (hout : fillA (fun i => some (i * ie.size, ie.size)) ((List.range (len * ie.size)).map fun j => .imm (.val (z.cells.getD (j % ie.size) undef))) ps = some out) (hts : cellsT out = some ts)
    (hone' : ∀ x ∈ ts, (AV.imm x).one = true) : OpL P o σ (partKeys ps) ⟨some (.own k), [(k, some (.rows e ie.size (chunk ie.size len ts) false))], [k]⟩ := by
  intro σ' hs hfp hfree
  have hps' := (rdParts_agree (σ := σ) (σ' := σ') parts.toList (fun p hp => hs p.2 (by
    simp only [ho, Op.operands, List.mem_toArray, List.mem_map]; exact ⟨p, hp, rfl⟩))).trans hps
  have hk := hfree k (by simp)
  refine .of_new hk rfl fun cx g a w h => ?_
  obtain ⟨e1, e2⟩ := rdParts_rep h parts.toList ps hps'
  obtain ⟨C', h1, h2, h3⟩ := fill_rep h (fun i => some (i * ie.size, ie.size)) ps (parts.toList.map fun (i, x) => (i, a.eval x)) _ ((Array.range (len * ie.size)).map (z.cells[· % z.cells.size]!)) out (by simp [e1]) e2
    (fun j i x hj => ⟨hone (i, x) (List.mem_of_getElem? hj), fun q hq => by
      have := partKeys_mem hj hq
      rw [hfp q this]; exact hown q this⟩) (by simp) (fun j hj => by
      rw [List.length_map, List.length_range] at hj
      rw [listD_map (d := 0) _ _ _ _ (by simpa using hj)]
      have e3 : (List.range (len * ie.size)).getD j 0 = j := by simp [List.getD_eq_getElem?_getD, List.getElem?_range hj]
      rw [e3]
      have hm : j % ie.size < z.cells.size := by rw [hzs]; exact Nat.mod_lt _ hpos
      have e4 : ((Array.range (len * ie.size)).map (z.cells[· % z.cells.size]!)).getD j undef = z.cells.getD (j % ie.size) undef := by
        rw [Array.getD_eq_getD_getElem?, Array.getElem?_map, Array.getElem?_range, if_pos hj]
        simp only [Option.map_some, Option.getD_some, hzs]
        rw [getElem!_pos z.cells (j % ie.size) hm, Array.getD_eq_getD_getElem?, Array.getElem?_eq_getElem hm]; rfl
      rw [e4]
      exact .imm _ _ (.val _)) hout
  obtain ⟨hl1, hl2⟩ := cellsT_get out ts hts
  have hol : ts.length = len * ie.size := by
    have : out.length = C'.size := h2.symm
    have hC : C'.size = len * ie.size := by
      have : ∀ (vs : List (Nat × Value)) (C C'' : Array Value) (pl : Nat → Option (Nat × Nat)), Instr.fill pl C vs = some C'' → C''.size = C.size := by
        intro vs
        induction vs with
        | nil => intro C C'' pl hC; cases hC; rfl
        | cons v vs ih =>
          intro C C'' pl hC
          obtain ⟨i, u⟩ := v
          simp only [Instr.fill] at hC
          cases hp : pl i with
          | none => rw [hp] at hC; cases hC
          | some q =>
            rw [hp] at hC
            simp only at hC
            split at hC
            · cases hC
            · rename_i hn
              rw [ih _ _ _ hC, zipIdx_arr]
              simp only [Bool.or_eq_true, bne_iff_ne, ne_eq, decide_eq_true_eq, not_or, Decidable.not_not] at hn
              exact (fold_set q.1 u.cells.toList 0 C (by simp; omega)).1
      rw [this _ _ _ _ h1]; simp
    omega
  have hle : g.Le (g.put k (.slice (some ⟨w.heap.size, 0, none⟩) len len)) := g.put_le k _ (fun hu => h.used k hu hk)
  refine ⟨.slice (some ⟨w.heap.size, 0, none⟩) len len, .slice (some ⟨w.heap.size, 0, none⟩) len len, w.alloc (.cells C' e), ?_, Fr.alloc w _, ?_, ?_, ?_⟩
  · by_cases hl0 : len * ie.size = 0
    · have hlen0 : len = 0 := by rcases Nat.mul_eq_zero.1 hl0 with h' | h' <;> omega
      subst hlen0
      simp only [Nat.zero_mul, Array.range_zero', Array.map_empty] at h1
      simp [execOp, ho, Instr.buildSlice, run_underlying hu, sizeOf, typeInfo, hie, newRow, Array.range_zero', h1]
    · have := run_buildSlice (P := P) w t e len (parts.map fun (i, x) => (i, a.eval x)) C' ie z hu hie hz (by omega) hl0 (by rw [Array.toList_map]; exact h1)
      simp [execOp, ho, this]
  · refine .rows e _ _ _ C'.toList ?_ (chunk_all _ _ _ hol) (fun i j hi hj => ?_) (fun u hu => .inl ?_) (fun hf => by cases hf)
    · rw [Gh.put_same, chunk_length]
      refine ⟨by simp [h2, ← hl1, hol], .inr ⟨w.heap.size, len, C', rfl, Nat.zero_le _, alloc_cells _ _ _, Nat.le_refl _, ?_, by rw [h2, ← hl1, hol], ?_⟩⟩
      · unfold maxLen
        have : len ≤ len * ie.size := Nat.le_mul_of_pos_right _ hpos
        omega
      · rw [List.take_of_length_le (by simp [h2, ← hl1, hol])]
    · rw [chunk_length] at hi
      rw [(chunk_get _ _ _ _ hol hi).2 j hj, toList_getD]
      have hlt : i * ie.size + j < out.length := by rw [← hl1, hol]; exact row_index hi hj
      have := h3 _ hlt
      rw [hl2 _ hlt] at this
      cases this with
      | imm _ _ hT => exact hT.mono (fun _ x => x) (fun b hb => (Fr.alloc w _).block b (h.stab b hb) (fun x => x))
    · obtain ⟨j, hj, rfl⟩ := List.getElem_of_mem hu
      have hlt : j < out.length := by simpa [h2] using hj
      have := h3 _ hlt
      rw [hl2 _ hlt] at this
      have e5 : C'.getD j undef = C'.toList[j] := by
        rw [Array.getD_eq_getD_getElem?, Array.getElem?_eq_getElem (by simpa using hj)]; simp
      rw [e5] at this
      cases this with
      | imm _ _ hT =>
        refine one_of_imm hT (hone' _ ?_)
        rw [List.getD_eq_getElem?_getD, List.getElem?_eq_getElem (by omega)]
        exact List.getElem_mem _
  · intro b hb; simp only [hblk, Option.some.injEq] at hb; subst hb; simp
  · have := RepA.own (g := g.put k (.slice (some ⟨w.heap.size, 0, none⟩) len len)) (w := w.alloc (.cells C' e)) k (.inl rfl)
    rwa [Gh.put_same] at this

end
end Go.Pm
