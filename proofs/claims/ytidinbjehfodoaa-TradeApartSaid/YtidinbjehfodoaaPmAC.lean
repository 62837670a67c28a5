/- The pure machine, part AC: a variable that nobody changes, as data. Conditions: none (definitions and lemmas alone). -/
import Derived.Test.YtidinbjehfodoaaPmAA
namespace Go.Pm
open Go
set_option linter.unusedVariables false
set_option linter.unusedSimpArgs false

/-- A value's cells, as data. -/
inductive Tof : List AV → List T → Prop where
  | nil : Tof [] []
  | imm {x : T} {cs : List AV} {l : List T} : Tof cs l → Tof (.imm x :: cs) (x :: l)
  | row {sz : Nat} {cs : List AV} {l : List T} : Tof cs l → Tof (.imm (.val (.slice none 0 0)) :: cs) (.row sz [] :: l)

theorem Tof.len {cs : List AV} {l : List T} (h : Tof cs l) : cs.length = l.length := by
  induction h with
  | nil => rfl
  | imm _ ih => simp [ih]
  | row _ ih => simp [ih]
theorem Tof.get {g : Gh} {w : World} {cs : List AV} {l : List T} (h : Tof cs l) : ∀ (j : Nat) (v : Value), j < cs.length → RepA g w (cs.getD j default) v → RepT g.S w (l.getD j default) v := by
  induction h with
  | nil => intro j v hj; simp at hj
  | imm h ih =>
    intro j v hj hr
    cases j with
    | zero => simp only [List.getD_cons_zero] at hr ⊢; cases hr with
      | imm _ _ h => exact h
    | succ j => simp only [List.getD_cons_succ] at hr ⊢; exact ih j v (by simpa using hj) hr
  | row h ih =>
    intro j v hj hr
    cases j with
    | zero =>
      simp only [List.getD_cons_zero] at hr ⊢
      cases hr with
      | imm _ _ h => cases h; exact .nilrow _ _ _
    | succ j => simp only [List.getD_cons_succ] at hr ⊢; exact ih j v (by simpa using hj) hr

section
variable {P : Program} {σ : St} {o : Oper} {cx : Cx} {g : Gh} {a : Act} {w : World}

/-- More is stable: a block that no token holds. -/
theorem SR.stable (h : SR cx g σ a w) (b : Nat) (hb : b < w.heap.size) (hn : cx.w0.heap.size ≤ b) (hno : ∀ k t, σ.tk k = some t → hblk (g.hv k) ≠ some b) :
    SR cx { g with S := fun x => g.S x ∨ x = b } σ a w := by
  have hle : g.Le { g with S := fun x => g.S x ∨ x = b } := ⟨fun _ x => .inl x, fun _ _ => rfl, fun _ x => x⟩
  exact { size := h.size, defers := h.defers, sl := fun i x hx => (h.sl i x hx).mono hle (fun _ _ => rfl), tk := fun k t hk => (h.tk k t hk).mono (h.key k t hk) hle (fun _ _ => rfl) (fun _ _ => rfl),
          used := h.used, key := h.key, inj := h.inj, live := fun k t c hk hf hc => ⟨fun hS => hS.elim (h.live k t c hk hf hc).1 (fun e => hno k t hk (e ▸ hc)), (h.live k t c hk hf hc).2⟩,
          blk := h.blk, stab := fun c hc => hc.elim (h.stab c) (fun e => e ▸ hb), frame := h.frame, old := fun c hc => .inl (h.old c hc),
          grew := fun c hc => hc.elim (h.grew c) (fun e => .inr (.inr (e ▸ hn))), ent := fun p hp => ⟨(h.ent p hp).1.mono hle (fun _ _ => rfl), (h.ent p hp).2⟩, low := h.low }

/-- A variable that nobody will change. -/
theorem OpL.boxF {e : TypeId} {x : Operand} {z : AV} {l : List T} (ho : o.op = .box e x) (hx : rd σ x = some z) (h1 : ∀ c ∈ z.cells, c.one = true) (hown : ownKeys z.cells = []) (hl : Tof z.cells l) :
    OpL P o σ [] ⟨some (.imm (.fp l)), [], []⟩ := by
  intro σ' hs _ _
  have hx' := (hs x (by simp [ho, Op.operands])).trans hx
  intro cx g a w hd h next Q hK
  have hr := rd_rep h x _ hx'
  generalize he : a.eval x = v at hr
  obtain ⟨hsz, hcells, _⟩ := cells_rep hr h1 h (fun c hc q e => by
    subst e
    have hm := mem_ownKeys hc
    rw [hown] at hm; cases hm)
  have hrun : (execOp a.eval o).run P w = .ok (.value (.pointer (some ⟨w.heap.size, 0, none⟩))) (w.alloc (.cells v.cells e)) := by simp [execOp, ho, he, Instr.box, newVar, newRow]
  show o.upon P a next Q ((execOp a.eval o).run P w)
  rw [hrun]
  have hw := h.world (Fr.alloc w (.cells v.cells e))
  have hb : w.heap.size < (w.alloc (.cells v.cells e)).heap.size := by simp
  have hst := hw.stable w.heap.size hb h.frame.size (fun k t hk hc => by have := h.blk k t _ hk hc; omega)
  have hkeep : ∀ b, g.S b → (w.alloc (.cells v.cells e)).heap[b]? = w.heap[b]? := fun b hb => (Fr.alloc w _).block b (h.stab b hb) (fun x => x)
  refine hK _ _ _ (hst.outVal o.dst hd _ _ (.imm _ _ (.fp l w.heap.size 0 (fun j => v.cells.getD j undef) (.inr rfl) (fun j hj => ?_) (fun j hj => ?_))))
  · rw [cell_of_row _ w.heap.size (0 + j) v.cells e (0, 0) (alloc_cells _ _ _), Nat.zero_add]
    have hj' : j < v.cells.size := by rw [hsz, hl.len]; exact hj
    rw [Array.getElem?_eq_getElem hj', Array.getD_eq_getD_getElem?, Array.getElem?_eq_getElem hj']; rfl
  · have hj' : j < z.cells.length := by rw [hl.len]; exact hj
    exact hl.get j _ hj' ((hcells j hj').mono ⟨fun _ x => .inl x, fun _ _ => rfl, fun _ x => x⟩ hkeep)

theorem O.boxF {e : Nat} {x : Operand} {z : AV} {cs : List AV} {l : List T} (ho : o.op = .box e x) (hx : rd σ x = some z) (hc : z.cells = cs) (h1 : ones cs = true) (h2 : ownKeys cs = []) (hl : Tof cs l) :
    OpL P o σ [] ⟨some (.imm (.fp l)), [], []⟩ := by
  subst hc
  exact .boxF ho hx (ones_mem h1) h2 hl
end

/-- A pointer that may be nil, to such a variable. -/
noncomputable def encP {α : Type} (enc : α → List T) : Option α → List T
  | none => [.val (.pointer none)]
  | some x => [.fp (enc x)]
end Go.Pm
