/- The pure machine, part E: what one operation does to the abstract state: addresses of fields and elements, parts of slices, lengths, nil. Conditions: none (definitions and lemmas alone). -/
import Derived.WalkSpells
import Derived.Test.YtidinbjehfodoaaPmD
namespace Go.Pm
open Go
set_option linter.unusedVariables false
set_option linter.unusedSimpArgs false

section
variable {cx : Cx} {g : Gh} {σ : St} {a : Act} {w : World} {P : Program} {o : Oper}

/-- Is that value a pointer that isn't nil? -/
def AV.isPtr : AV → Bool
  | .ptr _ _ => true
  | .eptr _ _ _ _ => true
  | .rptr _ _ => true
  | .imm (.fp _) => true
  | _ => false

theorem isPtr_rep {x : AV} {v : Value} (h : RepA g w x v) (hp : x.isPtr = true) : ∃ b o, v = .pointer (some ⟨b, o, none⟩) := by
  cases h with
  | imm _ _ h => cases h <;> first | (cases hp; done) | exact ⟨_, _, rfl⟩
  | _ => first | (cases hp; done) | exact ⟨_, _, rfl⟩

theorem OpL.nilP {x : Operand} {p : AV} (ho : o.op = .nilCheck x) (hx : rd σ x = some p) (hp : p.isPtr = true) : OpL P o σ [] ⟨some p, [], []⟩ := by
  intro σ' hs _ _
  have hx' := (hs x (by simp [ho, Op.operands])).trans hx
  refine .of_value fun cx g a w h => ?_
  have hr := rd_rep h x _ hx'
  obtain ⟨b, o', e⟩ := isPtr_rep hr hp
  exact ⟨a.eval x, by simp [execOp, ho, e], hr⟩

theorem OpL.eqP {t t' : TypeId} {x y : Operand} {p : AV} (ho : o.op = .binOp .eql t x y t') (ht : P.underlying t = some (.pointer (P.pointee t))) (hx : rd σ x = some p) (hp : p.isPtr = true) (hy : rd σ y = some (.imm (.val (.pointer none)))) :
    OpL P o σ [] ⟨some (.imm (.val (.bool false))), [], []⟩ := by
  intro σ' hs _ _
  have hx' := (hs x (by simp [ho, Op.operands])).trans hx
  have hy' := (hs y (by simp [ho, Op.operands])).trans hy
  refine .of_value fun cx g a w h => ?_
  obtain ⟨b, o', e⟩ := isPtr_rep (rd_rep h x _ hx') hp
  have ey := (rd_rep h y _ hy').valEq
  exact ⟨.bool false, by simp [execOp, ho, e, ey, eqGuard_at_pointer, run_eql_pointer_nil w t _ ht], .ofVal g w _⟩

theorem OpL.eqPn {t t' : TypeId} {x y : Operand} {q : Option Addr} (ho : o.op = .binOp .eql t x y t') (ht : P.underlying t = some (.pointer (P.pointee t))) (hx : rd σ x = some (.imm (.val (.pointer q)))) (hy : rd σ y = some (.imm (.val (.pointer none)))) :
    OpL P o σ [] ⟨some (.imm (.val (.bool q.isNone))), [], []⟩ := by
  intro σ' hs _ _
  have hx' := (hs x (by simp [ho, Op.operands])).trans hx
  have hy' := (hs y (by simp [ho, Op.operands])).trans hy
  refine .of_value fun cx g a w h => ?_
  have ex := (rd_rep h x _ hx').valEq
  have ey := (rd_rep h y _ hy').valEq
  exact ⟨.bool q.isNone, by simp [execOp, ho, ex, ey, eqGuard_at_pointer, run_eql_pointer_nil w t _ ht], .ofVal g w _⟩

theorem OpL.nePn {t t' : TypeId} {x y : Operand} {q : Option Addr} (ho : o.op = .binOp .neq t x y t') (ht : P.underlying t = some (.pointer (P.pointee t))) (hx : rd σ x = some (.imm (.val (.pointer q)))) (hy : rd σ y = some (.imm (.val (.pointer none)))) :
    OpL P o σ [] ⟨some (.imm (.val (.bool (!q.isNone)))), [], []⟩ := by
  intro σ' hs _ _
  have hx' := (hs x (by simp [ho, Op.operands])).trans hx
  have hy' := (hs y (by simp [ho, Op.operands])).trans hy
  refine .of_value fun cx g a w h => ?_
  have ex := (rd_rep h x _ hx').valEq
  have ey := (rd_rep h y _ hy').valEq
  exact ⟨.bool (!q.isNone), by simp [execOp, ho, ex, ey, eqGuard_at_pointer, run_neq_pointer_nil w t _ ht], .ofVal g w _⟩

def AV.plus : AV → Nat → Option AV
  | .ptr k off, n => some (.ptr k (off + n))
  | .eptr k sz i j, n => some (.eptr k sz i (j + n))
  | .rptr cs off, n => some (.rptr cs (off + n))
  | .imm (.fp cs), n => some (.rptr cs n)
  | _, _ => none

theorem plus_fp {p q : AV} {v : Value} {n : Nat} (h : RepA g w p v) (hq : p.plus n = some q) : ∃ p', RepA g w p' v ∧ p'.plus n = some q ∧ ∀ t, p' ≠ .imm t := by
  cases h with
  | imm _ _ h => cases h with
    | fp cs b o u h1 h2 h3 => exact ⟨.rptr cs 0, .rptr cs 0 b o u h1 h2 h3, by simp only [AV.plus] at hq ⊢; rw [Nat.zero_add]; exact hq, fun t e => by cases e⟩
    | _ => cases hq
  | own k h1 => cases hq
  | view k sz off m b n0 c0 c h1 h2 h3 h4 => cases hq
  | view0 k sz off c A h1 => cases hq
  | ptr k off b h1 h2 => exact ⟨_, .ptr k off b h1 h2, hq, fun t e => by cases e⟩
  | cap k sz off m c b n0 c0 h1 h2 h3 h4 => cases hq
  | eptr k sz i j b n0 c0 h1 h2 => exact ⟨_, .eptr k sz i j b n0 c0 h1 h2, hq, fun t e => by cases e⟩
  | rptr cs off b o u h1 h2 h3 => exact ⟨_, .rptr cs off b o u h1 h2 h3, hq, fun t e => by cases e⟩
  | agg cs vs h1 h2 => cases hq
  | tup cs vs h1 h2 => cases hq
  | fn f cap vs h1 h2 => cases hq

theorem run_fieldAt_in (w : World) (s : TypeId) (f b o : Nat) (fs : Array Field) (fd : Field) (i : TypeInfo) (hs : P.underlying s = some (.struct fs)) (hf : fs[f]? = some fd) (hi : P.info? fd.type = some i) (hz : i.size ≠ 0) :
    (Instr.fieldAt s (.pointer (some ⟨b, o, none⟩)) f).run P w = .ok (.pointer (some ⟨b, o + fd.offset, none⟩)) w := by
  simp [Instr.fieldAt, run_underlying hs, hf, Instr.sureAddr, fieldPlace, sizeOf, typeInfo, hi, hz, Addr.add_mid]

theorem OpL.fieldAddr {s : TypeId} {x : Operand} {f : Nat} {fs : Array Field} {fd : Field} {i : TypeInfo} {p q : AV} (ho : o.op = .fieldAddr s x f) (hs' : P.underlying s = some (.struct fs)) (hf : fs[f]? = some fd) (hi : P.info? fd.type = some i) (hz : i.size ≠ 0)
    (hx : rd σ x = some p) (hq : p.plus fd.offset = some q) : OpL P o σ [] ⟨some q, [], []⟩ := by
  intro σ' hs _ _
  have hx' := (hs x (by simp [ho, Op.operands])).trans hx
  refine .of_value fun cx g a w h => ?_
  have hr := rd_rep h x _ hx'
  generalize he : a.eval x = v at hr
  obtain ⟨p, hr, hq, hni⟩ := plus_fp hr hq
  cases hr <;> first | exact (hni _ rfl).elim | skip
  all_goals simp only [AV.plus] at hq
  all_goals first | (cases hq; done) | skip
  · rename_i k off b hk hv
    cases hq
    exact ⟨_, by simp [execOp, ho, he, run_fieldAt_in w s f _ _ fs fd i hs' hf hi hz], .ptr k _ b hk hv⟩
  · rename_i k sz i' j b n0 c0 hk hv
    cases hq
    refine ⟨_, by simp only [execOp, ho, he, run_fieldAt_in w s f _ _ fs fd i hs' hf hi hz, Sem.run_bind, Sem.run_pure, Result.andThen_ok]; rfl, ?_⟩
    rw [Nat.add_assoc]
    exact .eptr k sz i' _ b n0 c0 hk hv
  · rename_i cs off b o' u e1 e2 e3
    cases hq
    refine ⟨_, by simp only [execOp, ho, he, run_fieldAt_in w s f _ _ fs fd i hs' hf hi hz, Sem.run_bind, Sem.run_pure, Result.andThen_ok]; rfl, ?_⟩
    rw [Nat.add_assoc]
    exact .rptr cs _ b o' u e1 e2 e3

/-- The address of element i. -/
def elemAt (σ : St) (x : AV) (sz i : Nat) : Option AV :=
  match x with
  | .own k => match σ.tk k with
    | some (.rows _ sz' es _) => if sz = sz' ∧ i < es.length then some (.eptr k sz i 0) else none
    | _ => none
  | .view k sz' off n => if sz = sz' ∧ i < n then some (.eptr k sz (off + i) 0) else none
  | .imm (.row sz' es) => if sz = sz' ∧ i < es.length then some (.rptr (es.getD i []) 0) else none
  | _ => none

theorem run_indexAt_in (w : World) (t e : TypeId) (b o n c : Nat) (k : IntKind) (i : Int) (ie : TypeInfo) (ht : P.underlying t = some (.slice e)) (hi : P.info? e = some ie) (h0 : 0 ≤ i) (h1 : i.toNat < n) :
    (Instr.indexAt t (.slice (some ⟨b, o, none⟩) n c) (.int k i)).run P w = .ok (.pointer (some ⟨b, o + i.toNat * ie.size, none⟩)) w := by
  have h1' : i < n := by omega
  simp [Instr.indexAt, run_underlying ht, asIntOf, h0, h1', sizeOf, typeInfo, hi, Addr.add_mid]

theorem OpL.indexAddr {t e : TypeId} {x y : Operand} {k : IntKind} {i : Int} {ie : TypeInfo} {p q : AV} (ho : o.op = .indexAddr t x y) (ht : P.underlying t = some (.slice e)) (hi : P.info? e = some ie)
    (hx : rd σ x = some p) (hy : rd σ y = some (.imm (.val (.int k i)))) (h0 : 0 ≤ i) (hq : elemAt σ p ie.size i.toNat = some q) : OpL P o σ (keyOf p) ⟨some q, [], []⟩ := by
  intro σ' hs hfp _
  have hx' := (hs x (by simp [ho, Op.operands])).trans hx
  have hy' := (hs y (by simp [ho, Op.operands])).trans hy
  refine .of_value fun cx g a w h => ?_
  have ey := (rd_rep h y _ hy').int
  have hr := rd_rep h x _ hx'
  generalize he : a.eval x = v at hr
  have hex : ∀ b o n c, v = .slice (some ⟨b, o, none⟩) n c → i.toNat < n → (execOp a.eval ‹Oper›).run P w = .ok (.value (.pointer (some ⟨b, o + i.toNat * ie.size, none⟩))) w := by
    intro b o n c e1 h1
    simp [execOp, ho, he, ey, e1, run_indexAt_in w t e b o n c k i ie ht hi h0 h1]
  cases hr <;> simp only [elemAt] at hq <;> first | (cases hq; done) | skip
  · rename_i X hX
    cases hX <;> simp only at hq <;> first | (cases hq; done) | skip
    · simp at hq
    · rename_i sz es b o' c u h1 h2 h3 h4 h5
      split at hq
      · rename_i hc
        obtain ⟨rfl, hlt⟩ := hc
        cases hq
        refine ⟨_, hex b o' _ c rfl hlt, ?_⟩
        have hlen : (es.getD i.toNat []).length = ie.size := by
          rw [List.getD_eq_getElem?_getD, List.getElem?_eq_getElem hlt]
          exact h2 _ (List.getElem_mem hlt)
        have := RepA.rptr (g := g) (w := w) (es.getD i.toNat []) 0 b (o' + i.toNat * ie.size) (fun j => u i.toNat j) h3
          (fun j hj => by rw [Nat.add_assoc]; exact h4 _ j hlt (by omega)) (fun j hj => h5 _ j hlt (by omega))
        simpa using this
      · cases hq
  · rename_i k' hk
    cases htk : σ.tk k' with
    | none => rw [htk] at hq; cases hq
    | some t' =>
      rw [htk] at hq
      cases t' with
      | box all => cases hq
      | iter s p => cases hq
      | rows e0 sz es f =>
        simp only at hq
        split at hq
        · rename_i hc
          obtain ⟨rfl, hlt⟩ := hc
          cases hq
          have htk' := (hfp k' (by simp [keyOf])).trans htk
          cases h.tk k' _ htk' with
          | rows _ _ _ _ xs h1 h2 h3 h4 h5 =>
            rcases h1.2 with ⟨e1, e2⟩ | ⟨b, cap, cur, e1, _⟩
            · omega
            · refine ⟨_, hex b 0 _ cap e1 hlt, ?_⟩
              have := RepA.eptr (g := g) (w := w) k' ie.size i.toNat 0 b _ _ hk e1
              simpa using this
        · cases hq
  · rename_i k' sz off n b n0 c0 c hk h1 h2 h3
    split at hq
    · rename_i hc
      obtain ⟨rfl, hlt⟩ := hc
      cases hq
      refine ⟨_, hex b (off * ie.size) n c rfl hlt, ?_⟩
      have := RepA.eptr (g := g) (w := w) k' ie.size (off + i.toNat) 0 b _ _ hk h1
      rw [Nat.add_mul] at this
      simpa using this
    · cases hq
  · rename_i k' sz off c A hk
    split at hq
    · rename_i hc; omega
    · cases hq

def lenV : Value → Option Nat
  | .slice _ n _ => some n
  | _ => none

theorem lenV_some {v : Value} {n : Nat} (h : lenV v = some n) : ∃ A c, v = .slice A n c := by
  cases v <;> simp only [lenV] at h <;> first | (cases h; done) | skip
  cases h; exact ⟨_, _, rfl⟩

def lenT : T → Option Nat
  | .row _ es => some es.length
  | .val v => lenV v
  | _ => none

def lenOf (σ : St) : AV → Option Nat
  | .own k => match σ.tk k with
    | some (.rows _ _ es _) => some es.length
    | _ => none
  | .view _ _ _ n => some n
  | .imm x => lenT x
  | _ => none

theorem lenOf_rep (h : SR cx g σ a w) {x : AV} {v : Value} {n : Nat} (hx : RepA g w x v) (hn : lenOf σ x = some n) : ∃ A c, v = .slice A n c := by
  cases hx <;> simp only [lenOf] at hn <;> first | (cases hn; done) | skip
  · rename_i X hX
    cases hX <;> simp only [lenT] at hn <;> first | (cases hn; done) | skip
    · exact lenV_some hn
    · cases hn; exact ⟨_, _, rfl⟩
    · cases hn; exact ⟨_, _, rfl⟩
  · rename_i k hk
    cases ht : σ.tk k with
    | none => rw [ht] at hn; cases hn
    | some t =>
      rw [ht] at hn
      cases t <;> simp only at hn <;> first | (cases hn; done) | skip
      cases hn
      cases h.tk k _ ht with
      | rows _ _ _ _ xs h1 _ _ _ _ =>
        rcases h1.2 with ⟨e1, e2⟩ | ⟨b, cap, cur, e1, _⟩
        · rw [e1, e2]; exact ⟨_, _, rfl⟩
        · rw [e1]; exact ⟨_, _, rfl⟩
  · cases hn; exact ⟨_, _, rfl⟩
  · cases hn; exact ⟨_, _, rfl⟩

theorem lenOf_agree {σ σ' : St} {x : AV} (h : ∀ k, k ∈ keyOf x → σ'.tk k = σ.tk k) : lenOf σ' x = lenOf σ x := by
  cases x <;> simp only [lenOf]
  rw [h _ (by simp only [keyOf, List.mem_singleton])]

theorem OpL.len {t e : TypeId} {x : Operand} {p : AV} {n : Nat} (ho : o.op = .call { callee := .builtin .len, args := #[x], argTypes := #[t] }) (ht : P.underlying t = some (.slice e)) (hx : rd σ x = some p) (hn : lenOf σ p = some n) :
    OpL P o σ (keyOf p) ⟨some (.imm (.val (.int .i64 n))), [], []⟩ := by
  intro σ' hs hfp _
  have hx' := (hs x (by simp [ho, Op.operands, Call.operands])).trans hx
  refine .of_value fun cx g a w h => ?_
  obtain ⟨A, c, ev⟩ := lenOf_rep h (rd_rep h x _ hx') ((lenOf_agree hfp).trans hn)
  exact ⟨_, by simp [execOp, ho, ev, resolve, invoke, builtin, Builtin.len_, run_underlying ht, goInt], .ofVal g w _⟩

theorem rd_bnd (h : SR cx g σ a w) {x : Operand} {d i : Int} (hx : bnd σ d (some x) = some i) : ∃ k, a.eval x = .int k i := by
  simp only [bnd] at hx
  cases hr : rd σ x with
  | none => rw [hr] at hx; cases hx
  | some y =>
    rw [hr] at hx
    have hrep := rd_rep h x y hr
    cases y <;> simp only [Option.bind_some, AV.num] at hx <;> first | (cases hx; done) | skip
    rename_i X
    cases X <;> simp only [numT] at hx <;> first | (cases hx; done) | skip
    rename_i v
    cases v <;> simp only [numV] at hx <;> first | (cases hx; done) | skip
    cases hx
    exact ⟨_, hrep.int⟩

theorem bnd_agree {σ σ' : St} {d : Int} {x : Option Operand} (h : ∀ y, x = some y → rd σ' y = rd σ y) : bnd σ' d x = bnd σ d x := by
  cases x with
  | none => rfl
  | some y => simp only [bnd]; rw [h y rfl]

theorem run_sliceBound (w : World) (k : IntKind) (i : Int) (y : Nat) (code : BoundsCode) (h0 : 0 ≤ i) (h1 : i ≤ y) : (Instr.sliceBound (.int k i) y code).run P w = .ok i.toNat w := by
  simp [Instr.sliceBound, asIntOf, h0, h1]

/-- A part of a slice. -/
def partOf (σ : St) (x : AV) (sz l u : Nat) : Option AV :=
  match x with
  | .own k => match σ.tk k with
    | some (.rows _ sz' es _) => if sz = sz' ∧ u ≤ es.length then some (.view k sz l (u - l)) else none
    | _ => none
  | .view k sz' off n => if sz = sz' ∧ u ≤ n then some (.view k sz (off + l) (u - l)) else none
  | .imm (.row sz' es) => if sz = sz' ∧ u ≤ es.length then some (.imm (.row sz ((es.drop l).take (u - l)))) else none
  | _ => none

theorem run_slice_part (w : World) (a : Act) (t e : TypeId) (lo hi : Option Operand) (A : Option Addr) (n c : Nat) (l u : Int) (ie : TypeInfo) (ht : P.underlying t = some (.slice e)) (hi' : P.info? e = some ie)
    (hlo : (lo = none ∧ l = 0) ∨ ∃ x k, lo = some x ∧ a.eval x = .int k l) (hhi : (hi = none ∧ u = n) ∨ ∃ x k, hi = some x ∧ a.eval x = .int k u) (h0 : 0 ≤ l) (h1 : l ≤ u) (h2 : u ≤ n) (hnc : n ≤ c) :
    (Instr.sliceAt t (.slice A n c) (lo.map a.eval) (hi.map a.eval) none).run P w =
      .ok (.slice (if c = l.toNat then A else A.map (·.add (l.toNat * ie.size))) (u.toNat - l.toNat) (c - l.toNat)) w := by
  have hb : (Instr.sliceBounds true n c (lo.map a.eval) (hi.map a.eval) none).run P w = .ok (l.toNat, u.toNat, c) w := by
    rcases hlo with ⟨rfl, rfl⟩ | ⟨x1, k1, rfl, e1⟩ <;> rcases hhi with ⟨rfl, rfl⟩ | ⟨x2, k2, rfl, e2⟩
    · simp [Instr.sliceBounds]
    · simp [Instr.sliceBounds, e2, run_sliceBound w k2 u c _ (by omega) (by omega)]
    · simp [Instr.sliceBounds, e1, run_sliceBound w k1 l n _ h0 (by omega)]
    · simp [Instr.sliceBounds, e1, e2, run_sliceBound w k2 u c _ (by omega) (by omega), run_sliceBound w k1 l u.toNat _ h0 (by omega)]
  simp [Instr.sliceAt, Instr.slice, run_underlying ht, hb, sizeOf, typeInfo, hi']

theorem listLen_drop_take {α : Type} (l : List α) (o n : Nat) (h : o + n ≤ l.length) : ((l.drop o).take n).length = n := by
  rw [List.length_take, List.length_drop]; omega

theorem OpL.part {t e : TypeId} {x : Operand} {lo hi : Option Operand} {l u : Int} {n : Nat} {p q : AV} {ie : TypeInfo} (ho : o.op = .slice t x lo hi none) (ht : P.underlying t = some (.slice e)) (hi' : P.info? e = some ie)
    (hx : rd σ x = some p) (hn : lenOf σ p = some n) (hlo : bnd σ 0 lo = some l) (hhi : bnd σ n hi = some u) (h0 : 0 ≤ l) (h1 : l ≤ u) (h2 : u ≤ n)
    (hq : partOf σ p ie.size l.toNat u.toNat = some q) : OpL P o σ (keyOf p) ⟨some q, [], []⟩ := by
  intro σ' hs hfp _
  have hx' := (hs x (by simp [ho, Op.operands])).trans hx
  have hlo' := (bnd_agree (σ := σ) (σ' := σ') (d := 0) (x := lo) (fun y e => hs y (by simp [ho, Op.operands, e]))).trans hlo
  have hhi' := (bnd_agree (σ := σ) (σ' := σ') (d := n) (x := hi) (fun y e => hs y (by simp [ho, Op.operands, e]))).trans hhi
  have hn' := (lenOf_agree hfp).trans hn
  refine .of_value fun cx g a w h => ?_
  have hr := rd_rep h x _ hx'
  generalize he : a.eval x = v at hr
  have hlo2 : (lo = none ∧ l = 0) ∨ ∃ x k, lo = some x ∧ a.eval x = .int k l := by
    cases lo with
    | none => cases hlo'; exact .inl ⟨rfl, rfl⟩
    | some y => obtain ⟨k, ek⟩ := rd_bnd h hlo'; exact .inr ⟨y, k, rfl, ek⟩
  have hhi2 : (hi = none ∧ u = n) ∨ ∃ x k, hi = some x ∧ a.eval x = .int k u := by
    cases hi with
    | none => cases hhi'; exact .inl ⟨rfl, rfl⟩
    | some y => obtain ⟨k, ek⟩ := rd_bnd h hhi'; exact .inr ⟨y, k, rfl, ek⟩
  have hex : ∀ A c, v = .slice A n c → n ≤ c → (execOp a.eval ‹Oper›).run P w =
      .ok (.value (.slice (if c = l.toNat then A else A.map (·.add (l.toNat * ie.size))) (u.toNat - l.toNat) (c - l.toNat))) w := by
    intro A c e1 hc
    have := run_slice_part (P := P) w a t e lo hi A n c l u ie ht hi' hlo2 hhi2 h0 h1 h2 hc
    simp only [execOp, ho, he, e1, Option.map_none, this, Sem.run_bind, Sem.run_pure, Result.andThen_ok]
  cases hr <;> simp only [partOf, lenOf] at hq hn <;> first | (cases hq; done) | skip
  · rename_i X hX
    cases hX <;> simp only [lenT] at hq hn <;> first | (cases hq; done) | skip
    · rename_i sz c A
      split at hq
      · rename_i hc
        obtain ⟨rfl, _⟩ := hc
        cases hq; cases hn
        refine ⟨_, hex A c rfl (Nat.zero_le _), .imm _ _ ?_⟩
        have e1 : l.toNat = 0 := by simp at h2; omega
        have e2 : u.toNat = 0 := by simp at h2; omega
        simp only [List.drop_nil, List.take_nil]
        rw [e1, e2]
        exact .nilrow _ _ _
      · cases hq
    · rename_i sz es b o' c u' g1 g2 g3 g4 g5
      split at hq
      · rename_i hc
        obtain ⟨rfl, hlt⟩ := hc
        cases hq; cases hn
        refine ⟨_, hex _ c rfl g1, .imm _ _ ?_⟩
        have hlen := listLen_drop_take es l.toNat (u.toNat - l.toNat) (by omega)
        by_cases hz : u.toNat - l.toNat = 0
        · rw [hz, List.take_zero]; exact .nilrow _ _ _
        · rw [if_neg (by omega), Option.map_some, Addr.add_mid]
          have := RepT.row (S := g.S) (w := w) ie.size ((es.drop l.toNat).take (u.toNat - l.toNat)) b (o' + l.toNat * ie.size) (c - l.toNat) (fun i j => u' (l.toNat + i) j)
            (by omega) (fun z hz => g2 z (List.mem_of_mem_drop (List.mem_of_mem_take hz))) g3
            (fun i j hi hj => by
              have := g4 (l.toNat + i) j (by omega) hj
              rw [Nat.add_mul] at this
              rw [show o' + l.toNat * ie.size + (i * ie.size + j) = o' + (l.toNat * ie.size + i * ie.size + j) by omega]
              exact this)
            (fun i j hi hj => by
              rw [listD_take_drop _ _ _ _ _ (by omega)]
              exact g5 (l.toNat + i) j (by omega) hj)
          rw [hlen] at this
          exact this
      · cases hq
  · rename_i k hk
    cases htk : σ.tk k with
    | none => rw [htk] at hq; cases hq
    | some t' =>
      rw [htk] at hq hn
      cases t' <;> simp only at hq hn <;> first | (cases hq; done) | skip
      rename_i e0 sz es f
      split at hq
      · rename_i hc
        obtain ⟨rfl, hlt⟩ := hc
        cases hq; cases hn
        have htk' := (hfp k (by simp [keyOf])).trans htk
        cases h.tk k _ htk' with
        | rows _ _ _ _ xs h1' _ _ _ _ =>
          rcases h1'.2 with ⟨e1, e2⟩ | ⟨b, cap, cur, e1, _, _, hcap, _⟩
          · have hz : es.length = 0 := e2
            have e3 : l.toNat = 0 := by omega
            have e4 : u.toNat = 0 := by omega
            refine ⟨_, hex none 0 (by rw [e1, e2]) (by omega), ?_⟩
            rw [e3, e4]
            exact .view0 k _ _ _ _ hk
          · refine ⟨_, hex _ cap e1 hcap, ?_⟩
            by_cases hz : u.toNat - l.toNat = 0
            · rw [hz]; exact .view0 k _ _ _ _ hk
            · rw [if_neg (by omega), Option.map_some, Addr.add_mid, Nat.zero_add]
              exact .view k _ _ _ b _ _ _ hk e1 (by omega) (by omega)
      · cases hq
  · rename_i k sz off n' b n0 c0 c hk g1 g2 g3
    split at hq
    · rename_i hc
      obtain ⟨rfl, hlt⟩ := hc
      cases hq; cases hn
      refine ⟨_, hex _ c rfl g3, ?_⟩
      by_cases hz : u.toNat - l.toNat = 0
      · rw [hz]; exact .view0 k _ _ _ _ hk
      · rw [if_neg (by omega), Option.map_some, Addr.add_mid, ← Nat.add_mul]
        exact .view k _ _ _ b _ _ _ hk g1 (by omega) (by omega)
    · cases hq
  · rename_i k sz off c A hk
    split at hq
    · rename_i hc
      obtain ⟨rfl, hlt⟩ := hc
      cases hq; cases hn
      have e3 : l.toNat = 0 := by simp at h2; omega
      have e4 : u.toNat = 0 := by simp at h2; omega
      refine ⟨_, hex _ c rfl (Nat.zero_le _), ?_⟩
      rw [e3, e4]
      exact .view0 k _ _ _ _ hk
    · cases hq

end
end Go.Pm
