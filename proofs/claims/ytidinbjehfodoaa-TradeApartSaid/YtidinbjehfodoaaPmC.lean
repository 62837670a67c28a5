/- The pure machine, part C: what one operation does to the abstract state (OpL), operation by operation: values, reads, stores, new memory. Conditions: none (definitions and lemmas alone). -/
import Derived.Deep.MidRow
import Derived.Laws.MakeOwn
import Derived.Laws.Entries
import Derived.Laws.Small
import Derived.Test.YtidinbjehfodoaaPmB
namespace Go.Pm
open Go
set_option linter.unusedVariables false
set_option linter.unusedSimpArgs false

def rd (σ : St) : Operand → Option AV
  | .tmp t => σ.sl t
  | .const v => some (.imm (.val v))
  | .func f => some (.fn f [])
  | .global _ => none

structure Out where
  v : Option AV
  tk : List (Nat × Option Tok)
  use : List Nat

def lkp {α : Type} : List (Nat × α) → Nat → Option α
  | [], _ => none
  | (k, x) :: l, i => if i = k then some x else lkp l i

def St.out (σ : St) (d : Option Nat) (o : Out) : St where
  sl := match d with
    | some d => fun i => if i = d then o.v else σ.sl i
    | none => σ.sl
  tk := fun k => match lkp o.tk k with
    | some t => t
    | none => σ.tk k
  free := fun k => σ.free k ∧ k ∉ o.use

def OpD (P : Program) (o : Oper) (σ : St) (out : Out) : Prop :=
  ∀ cx g a w, (∀ d, o.dst = some d → d < cx.n) → SR cx g σ a w → ∀ (next : Act → World → Prop) (Q : Exit → Act → World → Prop),
    (∀ g' a' w', SR cx g' (σ.out o.dst out) a' w' → next a' w') → o.wp P a w next Q

def OpL (P : Program) (o : Oper) (σ : St) (fp : List Nat) (out : Out) : Prop :=
  ∀ σ', (∀ x, x ∈ o.op.operands → rd σ' x = rd σ x) → (∀ k, k ∈ fp → σ'.tk k = σ.tk k) → (∀ k, k ∈ out.use → σ'.free k) → OpD P o σ' out

section
variable {cx : Cx} {g : Gh} {σ : St} {a : Act} {w : World} {P : Program} {o : Oper}

theorem rd_rep (h : SR cx g σ a w) (x : Operand) (y : AV) (hx : rd σ x = some y) : RepA g w y (a.eval x) := by
  cases x with
  | tmp t => exact h.sl t y hx
  | const v => cases hx; exact .imm _ _ (.val v)
  | func f => cases hx; exact .fn f [] #[] rfl (fun i hi => by simp at hi)
  | global n => cases hx

theorem SR.eqv (h : SR cx g σ a w) (σ' : St) (h1 : ∀ i, σ'.sl i = σ.sl i) (h2 : ∀ k, σ'.tk k = σ.tk k) (h3 : ∀ k, σ'.free k → σ.free k) : SR cx g σ' a w :=
  h.weaken σ' (fun i x hx => (h1 i) ▸ hx) (fun k t hk => (h2 k) ▸ hk) h3

theorem SR.outVal (h : SR cx g σ a w) (d : Option Nat) (hd : ∀ e, d = some e → e < cx.n) (y : AV) (v : Value) (hy : RepA g w y v) :
    SR cx g (σ.out d ⟨some y, [], []⟩) (a.put d v) w := by
  cases d with
  | none => exact h.eqv _ (fun _ => rfl) (fun _ => rfl) (fun _ hk => hk.1)
  | some d => exact (h.put d (hd d rfl) y v hy).eqv _ (fun _ => rfl) (fun _ => rfl) (fun _ hk => hk.1)

/-- Behind a change of tokens alone: the slot, too. -/
theorem SR.outSlot {tk' : Nat → Option Tok} {free' : Nat → Prop} (h : SR cx g ⟨σ.sl, tk', free'⟩ a w) (d : Option Nat) (hd : ∀ e, d = some e → e < cx.n) (out : Out) (v : Value)
    (hy : ∀ y, out.v = some y → RepA g w y v)
    (htk : ∀ k, (σ.out d out).tk k = tk' k) (hfree : ∀ k, (σ.out d out).free k → free' k) : SR cx g (σ.out d out) (a.put d v) w := by
  cases d with
  | none => exact h.eqv _ (fun _ => rfl) htk hfree
  | some d =>
    cases hv : out.v with
    | none => exact (h.putNone d (hd d rfl) v).eqv _ (fun i => by simp only [St.out, St.clr, hv]) htk hfree
    | some y => exact (h.put d (hd d rfl) y v (hy y hv)).eqv _ (fun i => by simp only [St.out, St.set, hv]) htk hfree

theorem OpD.of_value {y : AV} (h : ∀ cx g a w, SR cx g σ a w → ∃ v, (execOp a.eval o).run P w = .ok (.value v) w ∧ RepA g w y v) : OpD P o σ ⟨some y, [], []⟩ := by
  intro cx g a w hd hs next Q hK
  obtain ⟨v, hr, hy⟩ := h cx g a w hs
  show o.upon P a next Q ((execOp a.eval o).run P w)
  rw [hr]
  exact hK _ _ _ (hs.outVal o.dst hd y v hy)

/-- A new token in a new block (or in none). -/
theorem OpD.of_new {y : AV} {k : Nat} {t : Tok} (hk : σ.free k) (hfz : t.frozen = false)
    (h : ∀ cx g a w, SR cx g σ a w → ∃ v hv w', (execOp a.eval o).run P w = .ok (.value v) w' ∧ Fr (fun _ => False) w w' ∧ TokRep (g.put k hv) w' k t ∧
      (∀ b, hblk hv = some b → w.heap.size ≤ b ∧ b < w'.heap.size) ∧ RepA (g.put k hv) w' y v) : OpD P o σ ⟨some y, [(k, some t)], [k]⟩ := by
  intro cx g a w hd hs next Q hK
  obtain ⟨v, hv, w', hr, hf, ht, hb, hy⟩ := h cx g a w hs
  show o.upon P a next Q ((execOp a.eval o).run P w)
  rw [hr]
  refine hK (g.put k hv) _ _ ?_
  have hn := hs.newTok hf k hk hv t (fun _ => False) ht hfz (fun b hb' => ⟨(hb b hb').2, .inl (hb b hb').1⟩) (fun _ _ x => x.elim)
    (fun i => if i = k then some t else σ.tk i) (fun i => σ.free i ∧ i ≠ k) (fun i hi => hi) (fun i u hi => by
      by_cases e : i = k
      · simp only [e, if_true] at hi; cases hi; exact .inl ⟨e, rfl⟩
      · simp only [e, if_false] at hi; exact .inr ⟨e, fun x => x, hi⟩)
  refine hn.outSlot o.dst hd _ v (fun y' hy' => by cases hy'; exact hy) (fun i => ?_) (fun i hi => ?_)
  · simp only [St.out, lkp]
    by_cases e : i = k <;> simp [e]
  · simp only [St.out, List.mem_singleton] at hi
    exact hi

/-- A new token in the place of token j: in a new block, or in j's. -/
theorem OpD.of_instead {y : AV} {k j : Nat} {t tj : Tok} (hk : σ.free k) (hfz : t.frozen = false) (hj : σ.tk j = some tj) (hjf : tj.frozen = false)
    (h : ∀ cx g a w, SR cx g σ a w → ∃ v hv w', (execOp a.eval o).run P w = .ok (.value v) w' ∧ Fr (fun b => hblk (g.hv j) = some b) w w' ∧ TokRep (g.put k hv) w' k t ∧
      (∀ b, hblk hv = some b → b < w'.heap.size ∧ (w.heap.size ≤ b ∨ hblk (g.hv j) = some b)) ∧ RepA (g.put k hv) w' y v) : OpD P o σ ⟨some y, [(j, none), (k, some t)], [k]⟩ := by
  intro cx g a w hd hs next Q hK
  obtain ⟨v, hv, w', hr, hf, ht, hb, hy⟩ := h cx g a w hs
  show o.upon P a next Q ((execOp a.eval o).run P w)
  rw [hr]
  have hjk : j ≠ k := fun e => by have := hs.fresh hk; rw [e] at hj; rw [hj] at this; cases this
  refine hK (g.put k hv) _ _ ?_
  have hn := hs.newTok hf k hk hv t (fun i => i = j) ht hfz (fun b hb' => ⟨(hb b hb').1, (hb b hb').2.imp id (fun e => ⟨j, tj, rfl, hj, hjf, e⟩)⟩) (fun b _ e => ⟨j, tj, rfl, hj, hjf, e⟩)
    (fun i => if i = j then none else if i = k then some t else σ.tk i) (fun i => σ.free i ∧ i ≠ k) (fun i hi => hi) (fun i u hi => by
      by_cases ej : i = j
      · simp only [ej, if_true] at hi; cases hi
      · simp only [ej, if_false] at hi
        by_cases e : i = k
        · simp only [e, if_true] at hi; cases hi; exact .inl ⟨e, rfl⟩
        · simp only [e, if_false] at hi; exact .inr ⟨e, ej, hi⟩)
  refine hn.outSlot o.dst hd _ v (fun y' hy' => by cases hy'; exact hy) (fun i => ?_) (fun i hi => ?_)
  · simp only [St.out, lkp]
    by_cases ej : i = j
    · simp [ej]
    · by_cases e : i = k
      · subst e; simp [ej]
      · simp [ej, e]
  · simp only [St.out, List.mem_singleton] at hi
    exact hi

theorem OpL.move {x : Operand} {y : AV} (ho : o.op = .move x ∨ o.op = .assign x) (hx : rd σ x = some y) : OpL P o σ [] ⟨some y, [], []⟩ := by
  intro σ' hs _ _
  refine .of_value fun cx g a w h => ⟨a.eval x, ?_, rd_rep h x y ?_⟩
  · rcases ho with ho | ho <;> simp [execOp, ho]
  · rw [hs x (by rcases ho with ho | ho <;> simp [ho, Op.operands])]; exact hx

theorem RepA.bool {g : Gh} {w : World} {b : Bool} {v : Value} (h : RepA g w (.imm (.val (.bool b))) v) : v = .bool b := by
  cases h with | imm x v h => cases h; rfl
theorem RepA.int {g : Gh} {w : World} {k : IntKind} {n : Int} {v : Value} (h : RepA g w (.imm (.val (.int k n))) v) : v = .int k n := by
  cases h with | imm x v h => cases h; rfl
theorem RepA.valEq {g : Gh} {w : World} {u v : Value} (h : RepA g w (.imm (.val u)) v) : v = u := by
  cases h with | imm x v h => cases h; rfl
theorem RepA.ofVal (g : Gh) (w : World) (v : Value) : RepA g w (.imm (.val v)) v := .imm _ _ (.val v)

theorem OpL.pick {c x y : Operand} {b : Bool} {z : AV} (ho : o.op = .pick c x y) (hc : rd σ c = some (.imm (.val (.bool b)))) (hz : (if b then rd σ x else rd σ y) = some z) : OpL P o σ [] ⟨some z, [], []⟩ := by
  intro σ' hs _ _
  have hc' := (hs c (by simp [ho, Op.operands])).trans hc
  have hz' : (if b then rd σ' x else rd σ' y) = some z := by rw [hs x (by simp [ho, Op.operands]), hs y (by simp [ho, Op.operands])]; exact hz
  refine .of_value fun cx g a w h => ?_
  have e := (rd_rep h c _ hc').bool
  cases b with
  | true => exact ⟨a.eval x, by simp [execOp, ho, e, asBool], rd_rep h x z hz'⟩
  | false => exact ⟨a.eval y, by simp [execOp, ho, e, asBool], rd_rep h y z hz'⟩

theorem getD_some {us : Array Value} {i : Nat} (h : i < us.size) : us[i]? = some (us.getD i undef) := by
  rw [Array.getD_eq_getD_getElem?, Array.getElem?_eq_getElem h]; rfl

theorem OpL.extract {x : Operand} {i : Nat} {vs : List AV} {y : AV} (ho : o.op = .extract x i) (hx : rd σ x = some (.tup vs)) (hy : vs[i]? = some y) : OpL P o σ [] ⟨some y, [], []⟩ := by
  intro σ' hs _ _
  have hx' := (hs x (by simp [ho, Op.operands])).trans hx
  refine .of_value fun cx g a w h => ?_
  have hr := rd_rep h x _ hx'
  generalize he : a.eval x = v at hr
  have hi : i < vs.length := (List.getElem?_eq_some_iff.1 hy).1
  cases hv : v with
  | tuple us =>
    rw [hv] at hr
    cases hr with
    | tup _ _ h1 h2 =>
      have h3 := h2 i hi
      have hu : us[i]? = some (us.getD i undef) := getD_some (by omega)
      rw [List.getD_eq_getElem?_getD, hy] at h3
      generalize us.getD i undef = z at hu h3
      exact ⟨z, by simp [execOp, ho, Instr.extract, he, hv, hu], h3⟩
  | _ => rw [hv] at hr; cases hr

/-- Two numbers. -/
def binI (op : BinOp) (k : IntKind) (a b : Int) : Option Value :=
  match op with
  | .add => some (.int k (k.wrap (a + b)))
  | .sub => some (.int k (k.wrap (a - b)))
  | .mul => some (.int k (k.wrap (a * b)))
  | .quo => if b = 0 then none else some (.int k (k.wrap (a.tdiv b)))
  | .rem => if b = 0 then none else some (.int k (a.tmod b))
  | .and => some (.int k (bits .and k a b))
  | .or => some (.int k (bits .or k a b))
  | .xor => some (.int k (bits .xor k a b))
  | .andNot => some (.int k (bits .andNot k a b))
  | .eql => some (.bool (a == b))
  | .neq => some (.bool (a != b))
  | .lss => some (.bool (decide (a < b)))
  | .leq => some (.bool (decide (a ≤ b)))
  | .gtr => some (.bool (decide (a > b)))
  | .geq => some (.bool (decide (a ≥ b)))
  | .shl => none
  | .shr => none

theorem OpL.binI {op : BinOp} {t t' : TypeId} {x y : Operand} {k : IntKind} {m n : Int} {z : Value} (ho : o.op = .binOp op t x y t') (hx : rd σ x = some (.imm (.val (.int k m)))) (hy : rd σ y = some (.imm (.val (.int k n))))
    (hz : Pm.binI op k m n = some z) : OpL P o σ [] ⟨some (.imm (.val z)), [], []⟩ := by
  intro σ' hs _ _
  have hx' := (hs x (by simp [ho, Op.operands])).trans hx
  have hy' := (hs y (by simp [ho, Op.operands])).trans hy
  refine .of_value fun cx g a w h => ?_
  have ex := (rd_rep h x _ hx').int
  have ey := (rd_rep h y _ hy').int
  refine ⟨z, ?_, .ofVal g w z⟩
  cases op <;> simp only [Pm.binI] at hz
  case shl => cases hz
  case shr => cases hz
  case quo =>
    by_cases e : n = 0
    · rw [if_pos e] at hz; cases hz
    · rw [if_neg e] at hz; cases hz
      simp [execOp, ho, ex, ey, eqGuard_quo, binOp_quo, Op.intDiv, e]
  case rem =>
    by_cases e : n = 0
    · rw [if_pos e] at hz; cases hz
    · rw [if_neg e] at hz; cases hz
      simp [execOp, ho, ex, ey, eqGuard_rem, binOp_rem, Op.intDiv, e]
  all_goals
    cases hz
    simp [execOp, ho, ex, ey, eqGuard_at_int, eqGuard_add, eqGuard_sub, eqGuard_mul, eqGuard_and, eqGuard_or, eqGuard_xor, eqGuard_andNot, eqGuard_lss, eqGuard_leq, eqGuard_gtr, eqGuard_geq,
      binOp_add, binOp_sub, binOp_mul, binOp_and, binOp_or, binOp_xor, binOp_andNot, binOp_eql, binOp_neq, binOp_lss, binOp_leq, binOp_gtr, binOp_geq, intBits_and, intBits_or, intBits_xor, intBits_andNot, Op.intArith]

/-- Shifts: the count in any kind of numbers, not below 0. -/
def shfI (op : BinOp) (k : IntKind) (a b : Int) : Option Value :=
  match op with
  | .shl => some (.int k (k.wrap (a * 2 ^ (min b.toNat k.bits))))
  | .shr => some (.int k (a.fdiv (2 ^ (min b.toNat k.bits))))
  | _ => none

theorem OpL.shfI {op : BinOp} {t t' : TypeId} {x y : Operand} {k k' : IntKind} {m n : Int} {z : Value} (ho : o.op = .binOp op t x y t') (hx : rd σ x = some (.imm (.val (.int k m)))) (hy : rd σ y = some (.imm (.val (.int k' n))))
    (hn : 0 ≤ n) (hz : Pm.shfI op k m n = some z) : OpL P o σ [] ⟨some (.imm (.val z)), [], []⟩ := by
  intro σ' hs _ _
  have hx' := (hs x (by simp [ho, Op.operands])).trans hx
  have hy' := (hs y (by simp [ho, Op.operands])).trans hy
  refine .of_value fun cx g a w h => ?_
  have ex := (rd_rep h x _ hx').int
  have ey := (rd_rep h y _ hy').int
  refine ⟨z, ?_, .ofVal g w z⟩
  have h0 : ¬ n < 0 := by omega
  cases op <;> simp only [Pm.shfI] at hz <;> first | (cases hz; done) | skip
  all_goals
    cases hz
    simp [execOp, ho, ex, ey, eqGuard_shl, eqGuard_shr, binOp_shl, binOp_shr, Op.shift, h0]

/-- Is a truth another one? -/
theorem OpL.eqB {t t' : TypeId} {x y : Operand} {m n : Bool} (ho : o.op = .binOp .eql t x y t') (ht : P.underlying t = some .bool) (hx : rd σ x = some (.imm (.val (.bool m)))) (hy : rd σ y = some (.imm (.val (.bool n)))) :
    OpL P o σ [] ⟨some (.imm (.val (.bool (m == n)))), [], []⟩ := by
  intro σ' hs _ _
  have hx' := (hs x (by simp [ho, Op.operands])).trans hx
  have hy' := (hs y (by simp [ho, Op.operands])).trans hy
  refine .of_value fun cx g a w h => ?_
  have ex := (rd_rep h x _ hx').bool
  have ey := (rd_rep h y _ hy').bool
  exact ⟨_, by simp [execOp, ho, ex, ey, eqGuard_at_bool, run_eql_bool w t m n ht], .ofVal g w _⟩

/-- One operand. -/
def unV (op : UnOp) : Value → Option Value
  | .int k n => match op with
    | .neg => some (.int k (k.wrap (0 - n)))
    | .xor => some (.int k (bits .xor k (if k.signed then -1 else k.max) n))
    | _ => none
  | .bool b => match op with
    | .not => some (.bool !b)
    | _ => none
  | _ => none

theorem OpL.unV {op : UnOp} {t : TypeId} {x : Operand} {u z : Value} (ho : o.op = .unOp op t x) (hx : rd σ x = some (.imm (.val u))) (hz : Pm.unV op u = some z) : OpL P o σ [] ⟨some (.imm (.val z)), [], []⟩ := by
  intro σ' hs _ _
  have hx' := (hs x (by simp [ho, Op.operands])).trans hx
  refine .of_value fun cx g a w h => ?_
  have ex := (rd_rep h x _ hx').valEq
  refine ⟨z, ?_, .ofVal g w z⟩
  cases u <;> simp only [Pm.unV] at hz <;> first | (cases hz; done) | skip
  all_goals
    cases op <;> simp only at hz <;> first | (cases hz; done) | skip
  all_goals
    cases hz
    simp [execOp, ho, ex, Op.unary, Op.intArith, intBits_xor]

theorem OpL.convI {s d : TypeId} {x : Operand} {k k' : IntKind} {n : Int} {dd : TypeDesc} (ho : o.op = .convert s d x) (hs' : P.underlying s = some dd) (hd' : P.underlying d = some (.int k')) (hx : rd σ x = some (.imm (.val (.int k n)))) :
    OpL P o σ [] ⟨some (.imm (.val (.int k' (k'.wrap n)))), [], []⟩ := by
  intro σ' hs _ _
  have hx' := (hs x (by simp [ho, Op.operands])).trans hx
  refine .of_value fun cx g a w h => ?_
  have ex := (rd_rep h x _ hx').int
  exact ⟨_, by simp [execOp, ho, ex, convert, run_underlying hs', run_underlying hd', Conv.intToInt], .ofVal g w _⟩

/-- A text's length, a byte of it, a part of it. -/
theorem OpL.lenS {t : TypeId} {x : Operand} {n : ByteArray} (ho : o.op = .call { callee := .builtin .len, args := #[x], argTypes := #[t] }) (ht : P.underlying t = some .string) (hx : rd σ x = some (.imm (.val (.string n)))) :
    OpL P o σ [] ⟨some (.imm (.val (.int .i64 n.size))), [], []⟩ := by
  intro σ' hs _ _
  have hx' := (hs x (by simp [ho, Op.operands, Call.operands])).trans hx
  refine .of_value fun cx g a w h => ?_
  have ex := (rd_rep h x _ hx').valEq
  exact ⟨_, by simp [execOp, ho, ex, resolve, invoke, builtin, Builtin.len_, run_underlying ht, goInt], .ofVal g w _⟩

def byteAt (s : ByteArray) (i : Int) : Int := if h : i.toNat < s.size then ((s[i.toNat]'h).toNat : Int) else 0

theorem OpL.idxS {t : TypeId} {x y : Operand} {s : ByteArray} {k : IntKind} {i : Int} (ho : o.op = .index t x y) (ht : P.underlying t = some .string) (hx : rd σ x = some (.imm (.val (.string s)))) (hy : rd σ y = some (.imm (.val (.int k i))))
    (h0 : 0 ≤ i) (h1 : i < s.size) : OpL P o σ [] ⟨some (.imm (.val (.int .u8 (byteAt s i)))), [], []⟩ := by
  intro σ' hs _ _
  have hx' := (hs x (by simp [ho, Op.operands])).trans hx
  have hy' := (hs y (by simp [ho, Op.operands])).trans hy
  refine .of_value fun cx g a w h => ?_
  have ex := (rd_rep h x _ hx').valEq
  have ey := (rd_rep h y _ hy').int
  have hlt : i.toNat < s.size := by omega
  have hg : s[i.toNat]? = some (s[i.toNat]'hlt) := by simp [hlt]
  exact ⟨_, by simp [execOp, ho, ex, ey, Instr.index, asIntOf, run_underlying ht, h0, hg, byteAt, hlt], .ofVal g w _⟩

/-- The bounds of a part: each a number, or left out. -/
def numV : Value → Option Int
  | .int _ i => some i
  | _ => none

def numT : T → Option Int
  | .val v => numV v
  | _ => none

def AV.num : AV → Option Int
  | .imm x => numT x
  | _ => none

def bnd (σ : St) (dflt : Int) : Option Operand → Option Int
  | none => some dflt
  | some x => (rd σ x).bind AV.num

end
end Go.Pm
