/- The pure machine, part D: what one operation does to the abstract state: pointers, loads and stores. Conditions: none (definitions and lemmas alone). -/
import Derived.Laws.Pointers
import Derived.Test.YtidinbjehfodoaaPmC
namespace Go.Pm
open Go
set_option linter.unusedVariables false
set_option linter.unusedSimpArgs false

/-- The n cells that lie at a pointer. -/
noncomputable def seen (σ : St) (p : AV) (n : Nat) : Option (List AV) :=
  match p with
  | .ptr k off => match σ.tk k with
    | some (.box all) => if off + n ≤ all.length then some ((all.drop off).take n) else none
    | _ => none
  | .eptr k sz i j => match σ.tk k with
    | some (.rows _ sz' es _) => if sz = sz' ∧ i < es.length ∧ j + n ≤ sz then some ((((es.getD i []).drop j).take n).map .imm) else none
    | _ => none
  | .rptr cs off => if off + n ≤ cs.length then some (((cs.drop off).take n).map .imm) else none
  | _ => none

def keyOf : AV → List Nat
  | .ptr k _ => [k]
  | .eptr k _ _ _ => [k]
  | .cap k _ _ _ _ => [k]
  | .own k => [k]
  | .view k _ _ _ => [k]
  | _ => []

section
variable {cx : Cx} {g : Gh} {σ : St} {a : Act} {w : World} {P : Program} {o : Oper}

theorem listD_take_drop {α : Type} (l : List α) (o n j : Nat) (d : α) (hj : j < n) : ((l.drop o).take n).getD j d = l.getD (o + j) d := by
  simp only [List.getD_eq_getElem?_getD, List.getElem?_take, List.getElem?_drop, if_pos hj]

theorem listD_map {α β : Type} (f : α → β) (l : List α) (j : Nat) (d : α) (d' : β) (hj : j < l.length) : (l.map f).getD j d' = f (l.getD j d) := by
  simp only [List.getD_eq_getElem?_getD, List.getElem?_map]
  rw [List.getElem?_eq_getElem hj]; rfl

theorem row_index {sz n i j : Nat} (hi : i < n) (hj : j < sz) : i * sz + j < n * sz := by
  have h1 : i * sz + sz ≤ n * sz := by
    have := Nat.mul_le_mul_right sz (show i + 1 ≤ n from hi)
    rw [Nat.add_mul, Nat.one_mul] at this; exact this
  omega

/-- What a row of the call's own says of the block's cells. -/
theorem own_cells {w : World} {e sz : Nat} {v : Value} {n : Nat} {xs : List Value} (h : w.ownsRow 0 e sz v n xs) {b n0 c0 : Nat} (hv : v = .slice (some ⟨b, 0, none⟩) n0 c0) :
    n0 = n ∧ ∃ cur, w.heap[b]? = some (.cells cur e (0, 0)) ∧ n ≤ c0 ∧ cur.size = c0 * sz ∧ cur.toList.take (n * sz) = xs ∧ ∀ j, j < n * sz → w.cell? ⟨b, j, none⟩ = some (xs.getD j undef) := by
  obtain ⟨hl, h⟩ := h
  rcases h with ⟨rfl, _⟩ | ⟨b', cap, cur, rfl, _, hh, hc, _, hcs, ht⟩
  · cases hv
  · cases hv
    refine ⟨rfl, cur, hh, hc, hcs, ht, fun j hj => ?_⟩
    have hjs : j < cur.size := by
      have : n * sz ≤ c0 * sz := Nat.mul_le_mul_right _ hc
      omega
    rw [cell_of_row w b j cur e (0, 0) hh, ← ht]
    rw [List.getD_eq_getElem?_getD, List.getElem?_take, if_pos hj, Array.getElem?_toList, Array.getElem?_eq_getElem hjs]; rfl

theorem seen_rep (h : SR cx g σ a w) {p : AV} {v : Value} {n : Nat} {cs : List AV} (hp : RepA g w p v) (hs : seen σ p n = some cs) :
    ∃ b o vs, v = .pointer (some ⟨b, o, none⟩) ∧ vs.length = n ∧ cs.length = n ∧ w.rangeAt b o vs ∧ ∀ j, j < n → RepA g w (cs.getD j default) (vs.getD j undef) := by
  cases hp with
  | ptr k off b hk hv =>
    simp only [seen] at hs
    cases ht : σ.tk k with
    | none => rw [ht] at hs; cases hs
    | some t =>
      rw [ht] at hs
      cases t with
      | box all =>
        simp only at hs
        split at hs
        · rename_i hle
          cases hs
          cases h.tk k _ ht with
          | box _ b' C e h1 h2 h3 h4 =>
            rw [hv] at h1; cases h1
            have hsz : ((C.toList.drop off).take n).length = n := by simp; omega
            refine ⟨b, off, (C.toList.drop off).take n, rfl, hsz, by simp; omega, ?_, ?_⟩
            · intro j u hu
              rw [List.getElem?_take] at hu
              split at hu
              · rw [cell_of_row w b (off + j) C e (0, 0) h2]
                rw [List.getElem?_drop] at hu
                simpa using hu
              · cases hu
            · intro j hj
              rw [listD_take_drop _ _ _ _ _ hj, listD_take_drop _ _ _ _ _ hj]
              have := h4 (off + j) (by omega)
              simpa [List.getD_eq_getElem?_getD, Array.getD_eq_getD_getElem?] using this
        · cases hs
      | rows e sz es f => cases hs
      | iter s q => cases hs
  | eptr k sz i j b n0 c0 hk hv =>
    simp only [seen] at hs
    cases ht : σ.tk k with
    | none => rw [ht] at hs; cases hs
    | some t =>
      rw [ht] at hs
      cases t with
      | box all => cases hs
      | iter s q => cases hs
      | rows e sz' es f =>
        simp only at hs
        split at hs
        · rename_i hcond
          obtain ⟨rfl, hi, hj⟩ := hcond
          cases hs
          cases h.tk k _ ht with
          | rows _ _ _ _ xs h1 h2 h3 h4 h5 =>
            obtain ⟨_, cur, hh, _, _, _, hcell⟩ := own_cells h1 hv
            have hlen : (es.getD i []).length = sz := by
              rw [List.getD_eq_getElem?_getD, List.getElem?_eq_getElem hi]
              exact h2 _ (List.getElem_mem hi)
            refine ⟨b, i * sz + j, (xs.drop (i * sz + j)).take n, rfl, ?_, by rw [List.length_map, List.length_take, List.length_drop, hlen]; omega, ?_, ?_⟩
            · have hx := h1.1
              have : i * sz + j + n ≤ es.length * sz := by
                have := Nat.mul_le_mul_right sz (show i + 1 ≤ es.length from hi)
                rw [Nat.add_mul, Nat.one_mul] at this; omega
              simp [hx]; omega
            · intro q u hu
              rw [List.getElem?_take] at hu
              split at hu
              · rename_i hq
                rw [List.getElem?_drop] at hu
                have hlt : i * sz + j + q < es.length * sz := by
                  have := row_index (sz := sz) (j := j + q) hi (by omega); omega
                rw [show i * sz + j + q = i * sz + j + q from rfl, hcell _ hlt, List.getD_eq_getElem?_getD, hu]; rfl
              · cases hu
            · intro q hq
              rw [listD_map (d := default) _ _ _ _ (by rw [List.length_take, List.length_drop, hlen]; omega), listD_take_drop _ _ _ _ _ hq, listD_take_drop _ _ _ _ _ hq]
              have := h3 i (j + q) hi (by omega)
              rw [← Nat.add_assoc] at this
              exact .imm _ _ this
        · cases hs
  | rptr cs' off b o u hS h1 h2 =>
    simp only [seen] at hs
    split at hs
    · rename_i hle
      cases hs
      refine ⟨b, o + off, (List.range n).map (fun j => u (off + j)), rfl, by simp, by simp; omega, ?_, ?_⟩
      · intro j x hx
        have hj : j < n := by
          rcases Nat.lt_or_ge j n with h' | h'
          · exact h'
          · rw [List.getElem?_eq_none (by simp; exact h')] at hx; cases hx
        simp [List.getElem?_map, List.getElem?_range hj] at hx
        rw [← hx, Nat.add_assoc]
        exact h1 (off + j) (by omega)
      · intro j hj
        rw [listD_map (d := default) _ _ _ _ (by simp; omega), listD_take_drop _ _ _ _ _ hj]
        rw [listD_map (d := 0) _ _ _ _ (by simp; exact hj)]
        have e : (List.range n).getD j 0 = j := by simp [List.getD_eq_getElem?_getD, List.getElem?_range hj]
        rw [e]
        exact .imm _ _ (h2 (off + j) (by omega))
    · cases hs
  | imm x v h => cases hs
  | own k hk => cases hs
  | view k sz off n b n0 c0 c hk h1 h2 h3 => cases hs
  | view0 k sz off c A hk => cases hs
  | cap k sz off n c b n0 c0 hk h1 h2 h3 => cases hs
  | agg cs vs h1 h2 => cases hs
  | tup cs vs h1 h2 => cases hs
  | fn f cap vs h1 h2 => cases hs

theorem seen_agree {σ σ' : St} {p : AV} {n : Nat} (h : ∀ k, k ∈ keyOf p → σ'.tk k = σ.tk k) : seen σ' p n = seen σ p n := by
  cases p <;> simp only [seen]
  · rename_i k off; rw [h k (by simp [keyOf])]
  · rename_i k sz i j; rw [h k (by simp [keyOf])]

theorem run_loadAt_one (w : World) (b o : Nat) (ty : TypeId) (d : TypeDesc) (v : Value) (hc : w.cell? ⟨b, o, none⟩ = some v) (hu : P.underlying ty = some d) (hd : d.isRow = false) :
    (Instr.loadAt ty (.pointer (some ⟨b, o, none⟩))).run P w = .ok v w := by
  have hagg : (isAgg ty).run P w = .ok false w := by
    unfold isAgg
    rw [Sem.run_bind, run_underlying hu w]
    cases d <;> simp_all
  simp [Instr.loadAt, Instr.sureAddr, loadVar, hagg, hc]

theorem OpL.load1 {t : TypeId} {x : Operand} {p y : AV} {d : TypeDesc} (ho : o.op = .load t x) (hu : P.underlying t = some d) (hd : d.isRow = false) (hx : rd σ x = some p) (hs : seen σ p 1 = some [y]) :
    OpL P o σ (keyOf p) ⟨some y, [], []⟩ := by
  intro σ' hop hfp _
  have hx' := (hop x (by simp [ho, Op.operands])).trans hx
  have hs' := (seen_agree hfp).trans hs
  refine .of_value fun cx g a w h => ?_
  obtain ⟨b, o', vs, e1, e2, _, e4, e5⟩ := seen_rep h (rd_rep h x p hx') hs'
  obtain ⟨v, rfl⟩ : ∃ v, vs = [v] := by
    match vs, e2 with
    | [v], _ => exact ⟨v, rfl⟩
  refine ⟨v, ?_, by simpa using e5 0 (by omega)⟩
  have := e4 0 v rfl
  simp [execOp, ho, e1, run_loadAt_one w b o' t d v this hu hd]

theorem OpL.loadN {t : TypeId} {x : Operand} {p : AV} {cs : List AV} {d : TypeDesc} {n : Nat} (ho : o.op = .load t x) (hu : P.underlying t = some d) (hd : d.isRow = true) (hn : (P.info? t).map (·.size) = some n) (hx : rd σ x = some p) (hs : seen σ p n = some cs) :
    OpL P o σ (keyOf p) ⟨some (.agg cs), [], []⟩ := by
  intro σ' hop hfp _
  have hx' := (hop x (by simp [ho, Op.operands])).trans hx
  have hs' := (seen_agree hfp).trans hs
  refine .of_value fun cx g a w h => ?_
  obtain ⟨b, o', vs, e1, e2, e3, e4, e5⟩ := seen_rep h (rd_rep h x p hx') hs'
  refine ⟨.agg vs.toArray, ?_, .agg cs vs.toArray (by simp [e2, e3]) (fun i hi => ?_)⟩
  · simp [execOp, ho, e1, run_loadAt_mid w b o' t vs d e4 hu hd (by rw [hn, e2])]
  · have := e5 i (by omega)
    simpa [List.getD_eq_getElem?_getD, Array.getD_eq_getD_getElem?] using this

def AV.one : AV → Bool
  | .imm (.val v) => v.oneCell'
  | .imm (.row _ _) => true
  | .imm (.ifc _ _) => true
  | .imm (.fp _) => true
  | .imm (.wit _ v) => v.oneCell'
  | .imm (.away _ _ _) => true
  | .imm (.agg _) => false
  | .agg _ => false
  | .tup _ => false
  | .own _ => true
  | .view _ _ _ _ => true
  | .ptr _ _ => true
  | .eptr _ _ _ _ => true
  | .cap _ _ _ _ _ => true
  | .rptr _ _ => true
  | .fn _ _ => true

theorem own_one (h : SR cx g σ a w) {k : Nat} {t : Tok} (ht : σ.tk k = some t) : (g.hv k).oneCell' = true := by
  cases h.tk k t ht with
  | box cs b C e h1 h2 h3 h4 => rw [h1]; rfl
  | rows e sz es f xs h1 h2 h3 h4 h5 =>
    rcases h1.2 with ⟨e1, _⟩ | ⟨b, cap, cur, e1, _⟩ <;> rw [e1] <;> rfl
  | iter s pos b h1 h2 => rw [h1]; rfl

theorem one_rep (h : SR cx g σ a w) {x : AV} {v : Value} (hx : RepA g w x v) (h1 : x.one = true) (hown : ∀ k, x = .own k → σ.tk k ≠ none) : v.oneCell' = true := by
  cases hx with
  | imm x v hr =>
    cases hr with
    | val v => exact h1
    | nilrow => rfl
    | row => rfl
    | agg => cases h1
    | ifc => rfl
    | fp => rfl
    | wit => exact h1
    | awaynil => rfl
    | away => rfl
  | own k hk =>
    cases ht : σ.tk k with
    | none => exact (hown k rfl ht).elim
    | some t => exact own_one h ht
  | view => rfl
  | view0 => rfl
  | ptr => rfl
  | eptr => rfl
  | cap => rfl
  | rptr => rfl
  | agg => cases h1
  | tup => cases h1
  | fn => rfl

def splice {α : Type} (l : List α) (o : Nat) (new : List α) : List α := l.take o ++ new ++ l.drop (o + new.length)

theorem splice_length {α : Type} (l : List α) (o : Nat) (new : List α) (h : o + new.length ≤ l.length) : (splice l o new).length = l.length := by
  simp [splice]; omega

theorem splice_getD {α : Type} (l : List α) (o : Nat) (new : List α) (d : α) (h : o + new.length ≤ l.length) (i : Nat) :
    (splice l o new).getD i d = if o ≤ i ∧ i < o + new.length then new.getD (i - o) d else l.getD i d := by
  simp only [splice, List.getD_eq_getElem?_getD]
  by_cases h1 : i < o
  · rw [if_neg (by omega), List.append_assoc, List.getElem?_append_left (by simp; omega), List.getElem?_take, if_pos h1]
  · by_cases h2 : i < o + new.length
    · rw [if_pos (by omega), List.append_assoc, List.getElem?_append_right (by simp; omega), List.getElem?_append_left (by simp; omega)]
      simp only [List.length_take]
      rw [show min o l.length = o by omega]
    · rw [if_neg (by omega), List.getElem?_append_right (by simp; omega), List.getElem?_drop]
      simp only [List.length_append, List.length_take]
      rw [show o + new.length + (i - (min o l.length + new.length)) = i by omega]

theorem heap_setCells (b : Nat) (e : TypeId) : ∀ (vs : List Value) (o : Nat) (w : World) (C : Array Value), w.heap[b]? = some (.cells C e (0, 0)) → o + vs.length ≤ C.size →
    Fr (fun k => k = b) w (w.setCells b o vs) ∧ ∃ C', (w.setCells b o vs).heap[b]? = some (.cells C' e (0, 0)) ∧ C'.size = C.size ∧
      ∀ i, C'.getD i undef = if o ≤ i ∧ i < o + vs.length then vs.getD (i - o) undef else C.getD i undef
  | [], o, w, C, h, _ => ⟨Fr.refl _ _, C, h, rfl, fun i => by rw [if_neg (by simp only [List.length_nil]; omega)]⟩
  | v :: r, o, w, C, h, hl => by
    simp only [List.length_cons] at hl
    have h1 := heap_setCell_same w b o C e v h
    obtain ⟨hf, C', h2, h3, h4⟩ := heap_setCells b e r (o + 1) (w.setCell ⟨b, o, none⟩ v) _ h1 (by simp; omega)
    refine ⟨(Fr.setCell w ⟨b, o, none⟩ v).trans hf, C', h2, by rw [h3]; simp, fun i => ?_⟩
    rw [h4 i, getD_setIfInBounds _ _ _ _ (by omega)]
    simp only [List.length_cons]
    by_cases e1 : i = o
    · subst e1
      rw [if_neg (by omega), if_pos rfl, if_pos (by omega)]; simp
    · by_cases e2 : o + 1 ≤ i ∧ i < o + 1 + r.length
      · rw [if_pos e2, if_pos (by omega)]
        obtain ⟨q, rfl⟩ : ∃ q, i = o + 1 + q := ⟨i - (o + 1), by omega⟩
        rw [show o + 1 + q - (o + 1) = q by omega, show o + 1 + q - o = q + 1 by omega]; rfl
      · rw [if_neg e2, if_neg e1, if_neg (by omega)]

theorem run_storeAt_one (w : World) (b o : Nat) (ty : TypeId) (v u : Value) (hc : w.cell? ⟨b, o, none⟩ = some u) (hf : w.frozen? ⟨b, o, none⟩ = false) (hi : (P.info? ty).map (·.size) = some 1) (h1 : v.oneCell' = true) :
    (Instr.storeAt ty (.pointer (some ⟨b, o, none⟩)) v).run P w = .ok () (w.setCells b o [v]) := by
  have hcells : v.cells = #[v] := by cases v <;> first | rfl | cases h1
  have := run_storeCells_cells (P := P) b o [v] 0 w (fun j hj => by simp at hj; subst hj; simp [hc]) (fun j hj => by simp at hj; subst hj; simpa using hf) (by simpa using h1)
  cases hq : P.info? ty with
  | none => simp [hq] at hi
  | some i =>
    have hs : i.size = 1 := by simpa [hq] using hi
    simp only [Nat.add_zero] at this
    simp [Instr.storeAt, Instr.sureAddr, storeVar, sizeOf, typeInfo, hq, hcells, hs, this]

/-- The cells of a value. -/
def AV.cells : AV → List AV
  | .agg cs => cs
  | x => [x]

/-- The machine's cells of a value, where each is one cell. -/
theorem cells_rep {x : AV} {v : Value} (hx : RepA g w x v) (h : ∀ c ∈ x.cells, c.one = true) (h' : SR cx g σ a w) (hown : ∀ c ∈ x.cells, ∀ k, c = .own k → σ.tk k ≠ none) :
    v.cells.size = x.cells.length ∧ (∀ j, j < x.cells.length → RepA g w (x.cells.getD j default) (v.cells.getD j undef)) ∧ (∀ u ∈ v.cells.toList, u.oneCell' = true) := by
  cases hx with
  | agg cs vs h1 h2 =>
    refine ⟨h1, h2, fun u hu => ?_⟩
    obtain ⟨j, hj, e⟩ := List.getElem_of_mem hu
    have hj' : j < cs.length := by simpa [Value.cells, h1] using hj
    have hr := h2 j hj'
    have e' : vs.getD j undef = u := by
      rw [Array.getD_eq_getD_getElem?, Array.getElem?_eq_getElem (by omega)]
      simpa [Value.cells] using e
    rw [e'] at hr
    have hm : cs.getD j default ∈ cs := by
      rw [List.getD_eq_getElem?_getD, List.getElem?_eq_getElem hj']; exact List.getElem_mem hj'
    exact one_rep h' hr (h _ hm) (hown _ hm)
  | imm x v hr =>
    have h1 := one_rep h' (.imm x v hr) (h _ (by simp [AV.cells])) (hown _ (by simp [AV.cells]))
    have hc : v.cells = #[v] := by cases v <;> first | rfl | cases h1
    rw [hc]; exact ⟨rfl, fun j hj => by simp [AV.cells] at hj; subst hj; exact .imm x v hr, by simpa using h1⟩
  | tup cs vs h1 h2 =>
    have : (AV.tup cs).one = true := h _ (by simp [AV.cells])
    cases this
  | own k hk =>
    have h1 := one_rep h' (.own k hk) rfl (hown _ (by simp [AV.cells]))
    have hc : (g.hv k).cells = #[g.hv k] := by generalize g.hv k = v at h1; cases v <;> first | rfl | cases h1
    rw [hc]; exact ⟨rfl, fun j hj => by simp [AV.cells] at hj; subst hj; exact .own k hk, by simpa using h1⟩
  | view k sz off n b n0 c0 c hk e1 e2 e3 => exact ⟨rfl, fun j hj => by simp [AV.cells] at hj; subst hj; exact .view k sz off n b n0 c0 c hk e1 e2 e3, by simp [Value.cells, Value.oneCell']⟩
  | view0 k sz off c A hk => exact ⟨rfl, fun j hj => by simp [AV.cells] at hj; subst hj; exact .view0 k sz off c A hk, by simp [Value.cells, Value.oneCell']⟩
  | ptr k off b hk e1 => exact ⟨rfl, fun j hj => by simp [AV.cells] at hj; subst hj; exact .ptr k off b hk e1, by simp [Value.cells, Value.oneCell']⟩
  | cap k sz off n c b n0 c0 hk e1 e2 e3 => exact ⟨rfl, fun j hj => by simp [AV.cells] at hj; subst hj; exact .cap k sz off n c b n0 c0 hk e1 e2 e3, by simp [Value.cells, Value.oneCell']⟩
  | eptr k sz i j' b n0 c0 hk e1 => exact ⟨rfl, fun j hj => by simp [AV.cells] at hj; subst hj; exact .eptr k sz i j' b n0 c0 hk e1, by simp [Value.cells, Value.oneCell']⟩
  | rptr cs off b o u e1 e2 e3 => exact ⟨rfl, fun j hj => by simp [AV.cells] at hj; subst hj; exact .rptr cs off b o u e1 e2 e3, by simp [Value.cells, Value.oneCell']⟩
  | fn f cap vs e1 e2 => exact ⟨rfl, fun j hj => by simp [AV.cells] at hj; subst hj; exact .fn f cap vs e1 e2, by simp [Value.cells, Value.oneCell']⟩

/-- A store of n cells, as one law: whatever the value's form. -/
theorem run_storeAt_cells (w : World) (b o : Nat) (ty : TypeId) (v : Value) (C : Array Value) (e : TypeId) (hh : w.heap[b]? = some (.cells C e (0, 0))) (hfit : o + v.cells.size ≤ C.size)
    (hi : (P.info? ty).map (·.size) = some v.cells.size) (h1 : ∀ u ∈ v.cells.toList, u.oneCell' = true) :
    (Instr.storeAt ty (.pointer (some ⟨b, o, none⟩)) v).run P w = .ok () (w.setCells b o v.cells.toList) := by
  have hcell : ∀ j, j < v.cells.size → (w.cell? ⟨b, o + j, none⟩).isSome = true := fun j hj => by
    rw [cell_of_row w b (o + j) C e (0, 0) hh, Array.getElem?_eq_getElem (by omega)]; rfl
  have := run_storeCells_cells (P := P) b o v.cells.toList 0 w (fun j hj => hcell j (by simpa using hj)) (fun j hj => frozen_of_row w b (o + 0 + j) C e hh) h1
  cases hq : P.info? ty with
  | none => simp [hq] at hi
  | some i =>
    have hs : v.cells.size = i.size := by simp [hq] at hi; omega
    simp only [Nat.add_zero] at this
    simp [Instr.storeAt, Instr.sureAddr, storeVar, sizeOf, typeInfo, hq, hs, this]

/-- The keys of the rows that a value's cells own. -/
def ownKeys : List AV → List Nat
  | [] => []
  | .own k :: l => k :: ownKeys l
  | _ :: l => ownKeys l

theorem mem_ownKeys {cs : List AV} {k : Nat} (h : AV.own k ∈ cs) : k ∈ ownKeys cs := by
  induction cs with
  | nil => cases h
  | cons c l ih =>
    cases h with
    | head => simp [ownKeys]
    | tail _ h => cases c <;> simp [ownKeys, ih h]

theorem OpL.storeP {t : TypeId} {x y : Operand} {k off : Nat} {all : List AV} {z : AV} (ho : o.op = .store t x y) (hdst : o.dst = none) (hn : (P.info? t).map (·.size) = some z.cells.length) (hx : rd σ x = some (.ptr k off)) (hy : rd σ y = some z)
    (ht : σ.tk k = some (.box all)) (hfit : off + z.cells.length ≤ all.length) (h1 : ∀ c ∈ z.cells, c.one = true) (hown : ∀ q ∈ ownKeys z.cells, σ.tk q ≠ none) :
    OpL P o σ (k :: ownKeys z.cells) ⟨none, [(k, some (.box (splice all off z.cells)))], []⟩ := by
  intro σ' hop hfp _
  have hx' := (hop x (by simp [ho, Op.operands])).trans hx
  have hy' := (hop y (by simp [ho, Op.operands])).trans hy
  have ht' := (hfp k (by simp)).trans ht
  intro cx g a w hd h next Q hK
  have hrx := rd_rep h x _ hx'
  have hry := rd_rep h y _ hy'
  generalize hex : a.eval x = vx at hrx
  generalize hey : a.eval y = vy at hry
  obtain ⟨hsz, hcells, hone⟩ := cells_rep hry h1 h (fun c hc q e => by
    subst e
    have hm := mem_ownKeys hc
    rw [hfp q (by simp [hm])]; exact hown q hm)
  cases hrx with
  | ptr _ _ b hk hv =>
    cases h.tk k _ ht' with
    | box _ b' C e e1 e2 e3 e4 =>
      rw [hv] at e1; cases e1
      have hrun := run_storeAt_cells (P := P) w b off t vy C e e2 (by omega) (by rw [hn, hsz]) hone
      obtain ⟨hf, C', hh', hs', hC'⟩ := heap_setCells b e vy.cells.toList off w C e2 (by simp; omega)
      show o.upon P a next Q ((execOp a.eval o).run P w)
      have hex' : (execOp a.eval o).run P w = .ok .skip (w.setCells b off vy.cells.toList) := by simp [execOp, ho, hex, hey, hrun]
      rw [hex']
      show next (a.put o.dst undef) _
      rw [hdst]
      refine hK g _ _ ?_
      rw [hdst]
      have hkb : ∀ q, hblk (g.hv k) = some q ↔ q = b := fun q => by rw [hv]; simp [hblk, eq_comm]
      have hset := h.setTok k (.box all) (.box (splice all off z.cells)) ht' rfl (hf.mono (fun q _ e => (hkb q).2 e)) (by
        have hst : ∀ q, g.S q → (w.setCells b off vy.cells.toList).heap[q]? = w.heap[q]? := fun q hq =>
          hf.block q (h.stab q hq) (fun e => by subst e; exact (h.live k _ q ht' rfl ((hkb q).2 rfl)).1 hq)
        refine .box _ b C' e hv hh' (by rw [hs', e3, splice_length _ _ _ hfit]) (fun i hi => ?_)
        rw [splice_getD _ _ _ _ hfit, hC' i]
        simp only [Array.length_toList, hsz]
        split
        · rename_i hc
          have := (hcells (i - off) (by omega)).mono (Gh.Le.refl g) hst
          simpa [List.getD_eq_getElem?_getD, Array.getD_eq_getD_getElem?] using this
        · rw [splice_length _ _ _ hfit] at hi
          exact (e4 i hi).mono (Gh.Le.refl g) hst)
      exact hset.eqv _ (fun _ => rfl) (fun q => by
        simp only [St.out, St.tok, lkp]
        by_cases e : q = k <;> simp [e]) (fun q hq => hq.1)

end
end Go.Pm
