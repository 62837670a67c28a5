/- The pure machine, part Z: texts that are ranged over, sign by sign. Conditions: none (definitions and lemmas alone). -/
import Derived.Test.YtidinbjehfodoaaPmY
namespace Go.Pm
open Go
set_option linter.unusedVariables false
set_option linter.unusedSimpArgs false

def nextOk (s : Bs) (p : Nat) : Bool := decide (p < s.length)
/-- The sign at a place. -/
def nextC (s : Bs) (p : Nat) : Int := ((Utf8.decode (tx s) p).1 : Int)
def nextP (s : Bs) (p : Nat) : Nat := if p < s.length then p + (Utf8.decode (tx s) p).2 else p
def nextV (s : Bs) (p : Nat) : Value := if nextOk s p = true then .tuple #[.bool true, .int .i64 (p : Int), .int .i32 (nextC s p)] else .tuple #[.bool false]

/-- A block that is another object then. -/
def turnB (w : World) (b : Nat) (o : Obj) : World := { w with heap := w.heap.setIfInBounds b o }
theorem turnB_fr (w : World) (b : Nat) (o : Obj) : Fr (fun q => q = b) w (turnB w b o) :=
  ⟨rfl, rfl, rfl, by simp [turnB], fun k _ hk => by
    show (w.heap.setIfInBounds b o)[k]? = _
    rw [Array.getElem?_setIfInBounds, if_neg (fun e => hk e.symm)]⟩
theorem turnB_at (w : World) (b : Nat) (o : Obj) (h : b < w.heap.size) : (turnB w b o).heap[b]? = some o := by
  show (w.heap.setIfInBounds b o)[b]? = _
  rw [Array.getElem?_setIfInBounds, if_pos rfl, if_pos h]

section
variable {P : Program} {σ : St} {o : Oper} {cx : Cx} {g : Gh} {a : Act} {w : World}

theorem O.range {t : TypeId} {x : Operand} {s : Bs} {k : Nat} (ht : P.underlying t = some .string) (ho : o.op = .range t x) (hx : rd σ x = some (.imm (.val (.string (tx s))))) : OpL P o σ [] ⟨some (.ptr k 0), [(k, some (.iter (tx s) 0))], [k]⟩ := by
  intro σ' hs hfp hfree
  have hx' := (hs x (by simp [ho, Op.operands])).trans hx
  refine .of_new (hfree k (by simp)) rfl fun cx g a w h => ?_
  have ex := (rd_rep h x _ hx').valEq
  refine ⟨.pointer (some ⟨w.heap.size, 0, none⟩), .pointer (some ⟨w.heap.size, 0, none⟩), w.alloc (.stringIter (tx s) 0), by simp [execOp, ho, ex, Instr.range, run_underlying ht], Fr.alloc w _, .iter _ _ w.heap.size (Gh.put_same _ _ _) (heap_alloc_new w _), fun b hb => ?_, .ptr k 0 w.heap.size (.inl rfl) (Gh.put_same _ _ _)⟩
  simp only [hblk, Option.some.injEq] at hb
  subst hb
  exact ⟨Nat.le_refl _, by simp⟩

theorem O.next {x : Operand} {s : Bs} {k p : Nat} (ho : o.op = .next x true) (hx : rd σ x = some (.ptr k 0)) (hk : σ.tk k = some (.iter (tx s) p)) : OpL P o σ [k] ⟨some (.imm (.val (nextV s p))), [(k, some (.iter (tx s) (nextP s p)))], []⟩ := by
  intro σ' hs hfp hfree cx g a w hdn h next Q hK
  have hx' := (hs x (by simp [ho, Op.operands])).trans hx
  have hk' := (hfp k (by simp)).trans hk
  have hrx := rd_rep h x _ hx'
  generalize hex : a.eval x = vx at hrx
  show o.upon P a next Q ((execOp a.eval o).run P w)
  cases hrx with
  | ptr _ _ b hu hv =>
  cases h.tk k _ hk' with
  | iter _ _ b' e1 e2 =>
    rw [hv] at e1; cases e1
    have hb : b < w.heap.size := (Array.getElem?_eq_some_iff.1 e2).1
    by_cases c : p < s.length
    · have c2 : p < (tx s).size := by rw [tx_size]; exact c
      have hok : nextOk s p = true := decide_eq_true c
      have hrun : (execOp a.eval o).run P w = .ok (.value (nextV s p)) (turnB w b (.stringIter (tx s) (nextP s p))) := by
        unfold nextV nextP nextC
        rw [if_pos hok, if_pos c]
        simp [execOp, ho, hex, Instr.next, getObj, setObj, Sem.run, e2, c2, turnB, goInt, Result.andThen]
      rw [hrun]
      have hset := h.setTok k (.iter (tx s) p) (.iter (tx s) (nextP s p)) hk' rfl ((turnB_fr w b _).mono (fun q _ e => by rw [hv, e]; rfl))
        (.iter _ _ b hv (turnB_at w b _ hb))
      refine hK g _ _ ?_
      refine hset.outSlot o.dst hdn _ _ (fun y' hy' => by cases hy'; exact RepA.ofVal _ _ _) (fun i => ?_) (fun i hi => hi.1)
      simp only [St.out, St.tok, lkp]
      by_cases e : i = k <;> simp [e]
    · have c2 : ¬ p < (tx s).size := by rw [tx_size]; exact c
      have hok : ¬ nextOk s p = true := fun e => c (of_decide_eq_true e)
      have hp : nextP s p = p := by unfold nextP; rw [if_neg c]
      have hrun : (execOp a.eval o).run P w = .ok (.value (nextV s p)) w := by
        unfold nextV
        rw [if_neg hok]
        simp [execOp, ho, hex, Instr.next, getObj, Sem.run, e2, c2, Result.andThen]
      rw [hp] at hK
      rw [hrun]
      refine hK g _ _ ?_
      refine (h.outVal o.dst hdn _ _ (RepA.ofVal g w (nextV s p))).eqv _ (fun _ => rfl) (fun q => ?_) (fun q hq => hq)
      simp only [St.out, lkp]
      by_cases e : q = k
      · rw [e, hk']; simp
      · simp [e]

end

/-- A struct's method, called without arguments: f, which is told by a contract and has no rights. -/
inductive MethT (P : Program) (name : String) : T → T → Prop where
  | mk (t : TypeId) (x r : T) (f : Nat) : Spec P f [.imm x] (.imm r) [none] → callOk P f = true → (∀ v w, (method (P.types.size + Made.depth) t v name).run P w = .ok (f, v) w) → MethT P name (.ifc t x) r

section
variable {P : Program} {σ : St} {o : Oper} {cx : Cx} {g : Gh} {a : Act} {w : World}

/-- Behind a call without rights: more may be stable. -/
theorem SR.called (h : SR cx g σ a w) {S' : Nat → Prop} {w' : World} (more : ∀ b, g.S b → S' b) (new : ∀ b, S' b → b < w'.heap.size ∧ (g.S b ∨ w.heap.size ≤ b)) (fr : Fr (fun _ => False) w w') : SR cx { S := S', hv := g.hv, used := g.used } σ a w' := by
  have hold : ∀ b, b < w.heap.size → w'.heap[b]? = w.heap[b]? := fun b hb => fr.block b hb (fun x => x)
  have hle : g.Le { S := S', hv := g.hv, used := g.used } := ⟨more, fun _ _ => rfl, fun _ x => x⟩
  refine h.move { S := S', hv := g.hv, used := g.used } w' σ.tk σ.free hle h.used (fun b hb => hold b (h.stab b hb)) (h.frame.step fr (fun _ _ x => x.elim)) (fun k t hk => ?_) h.key h.inj (fun k t b hk hf hb => ?_)
    (fun k t b hk hb => Nat.lt_of_lt_of_le (h.blk k t b hk hb) fr.size) (fun b hb => (new b hb).1) (fun b hb => ?_) (fun _ x => x)
  · exact (h.tk k t hk).mono (h.key k t hk) hle (fun b hb => hold b (h.stab b hb)) (fun b hb => hold b (h.blk k t b hk hb))
  · have := h.live k t b hk hf hb
    refine ⟨fun hS => ?_, this.2⟩
    rcases (new b hS).2 with h' | h'
    · exact this.1 h'
    · have := h.blk k t b hk hb; omega
  · rcases (new b hb).2 with h' | h'
    · exact .inl h'
    · exact .inr (.inr (Nat.le_trans h.frame.size h'))

end

end Go.Pm
