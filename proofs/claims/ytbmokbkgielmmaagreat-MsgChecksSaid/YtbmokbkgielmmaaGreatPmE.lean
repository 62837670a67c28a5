/- The pure machine, part E: what one operation does to the abstract state: addresses of fields and elements, parts of slices, lengths, nil. Conditions: none (definitions and lemmas alone). -/
import Derived.WalkSpells
import Derived.Test.YtbmokbkgielmmaaGreatPmD
namespace Go.Pm
open Go
set_option linter.unusedVariables false
set_option linter.unusedSimpArgs false

section
variable {cx : Cx} {g : Gh} {σ : St} {a : Act} {w : World} {P : Program} {o : Oper}

/-- Is that value a pointer that isn't nil? -/
def AV.isPtr : AV → Bool
  | .ptr _ _ => true
  | .eptr _ _ _ _ => true
  | .rptr _ _ => true
  | _ => false

theorem isPtr_rep {x : AV} {v : Value} (h : RepA g w x v) (hp : x.isPtr = true) : ∃ b o, v = .pointer (some ⟨b, o, none⟩) := by
  cases h <;> first | (cases hp; done) | exact ⟨_, _, rfl⟩

theorem OpL.nilP {x : Operand} {p : AV} (ho : o.op = .nilCheck x) (hx : rd σ x = some p) (hp : p.isPtr = true) : OpL P o σ [] ⟨some p, [], []⟩ := by
  intro σ' hs _ _
  have hx' := (hs x (by simp [ho, Op.operands])).trans hx
  refine .of_value fun cx g a w h => ?_
  have hr := rd_rep h x _ hx'
  obtain ⟨b, o', e⟩ := isPtr_rep hr hp
  exact ⟨a.eval x, by simp [execOp, ho, e], hr⟩

def AV.plus : AV → Nat → Option AV
  | .ptr k off, n => some (.ptr k (off + n))
  | .eptr k sz i j, n => some (.eptr k sz i (j + n))
  | .rptr cs off, n => some (.rptr cs (off + n))
  | _, _ => none

theorem run_fieldAt_in (w : World) (s : TypeId) (f b o : Nat) (fs : Array Field) (fd : Field) (i : TypeInfo) (hs : P.underlying s = some (.struct fs)) (hf : fs[f]? = some fd) (hi : P.info? fd.type = some i) (hz : i.size ≠ 0) :
    (Instr.fieldAt s (.pointer (some ⟨b, o, none⟩)) f).run P w = .ok (.pointer (some ⟨b, o + fd.offset, none⟩)) w := by
  simp [Instr.fieldAt, run_underlying hs, hf, Instr.sureAddr, fieldPlace, sizeOf, typeInfo, hi, hz, Addr.add_mid]

theorem OpL.fieldAddr {s : TypeId} {x : Operand} {f : Nat} {fs : Array Field} {fd : Field} {i : TypeInfo} {p q : AV} (ho : o.op = .fieldAddr s x f) (hs' : P.underlying s = some (.struct fs)) (hf : fs[f]? = some fd) (hi : P.info? fd.type = some i) (hz : i.size ≠ 0)
    (hx : rd σ x = some p) (hq : p.plus fd.offset = some q) : OpL P o σ [] ⟨some q, [], []⟩ := by
  intro σ' hs _ _
  have hx' := (hs x (by simp [ho, Op.operands])).trans hx
  refine .of_value fun cx g a w h => ?_
  have hr := rd_rep h x _ hx'
  generalize he : a.eval x = v at hr
  cases hr <;> simp only [AV.plus] at hq <;> first | (cases hq; done) | skip
  · rename_i k off b hk hv
    cases hq
    exact ⟨_, by simp [execOp, ho, he, run_fieldAt_in w s f _ _ fs fd i hs' hf hi hz], .ptr k _ b hk hv⟩
  · rename_i k sz i' j b n0 c0 hk hv
    cases hq
    refine ⟨_, by simp only [execOp, ho, he, run_fieldAt_in w s f _ _ fs fd i hs' hf hi hz, Sem.run_bind, Sem.run_pure, Result.andThen_ok]; rfl, ?_⟩
    rw [Nat.add_assoc]
    exact .eptr k sz i' _ b n0 c0 hk hv
  · rename_i cs off b o' u e1 e2 e3
    cases hq
    refine ⟨_, by simp only [execOp, ho, he, run_fieldAt_in w s f _ _ fs fd i hs' hf hi hz, Sem.run_bind, Sem.run_pure, Result.andThen_ok]; rfl, ?_⟩
    rw [Nat.add_assoc]
    exact .rptr cs _ b o' u e1 e2 e3

/-- The address of element i. -/
def elemAt (σ : St) (x : AV) (sz i : Nat) : Option AV :=
  match x with
  | .own k => match σ.tk k with
    | some (.rows _ sz' es _) => if sz = sz' ∧ i < es.length then some (.eptr k sz i 0) else none
    | _ => none
  | .view k sz' off n => if sz = sz' ∧ i < n then some (.eptr k sz (off + i) 0) else none
  | .imm (.row sz' es) => if sz = sz' ∧ i < es.length then some (.rptr (es.getD i []) 0) else none
  | _ => none

theorem run_indexAt_in (w : World) (t e : TypeId) (b o n c : Nat) (k : IntKind) (i : Int) (ie : TypeInfo) (ht : P.underlying t = some (.slice e)) (hi : P.info? e = some ie) (h0 : 0 ≤ i) (h1 : i.toNat < n) :
    (Instr.indexAt t (.slice (some ⟨b, o, none⟩) n c) (.int k i)).run P w = .ok (.pointer (some ⟨b, o + i.toNat * ie.size, none⟩)) w := by
  have h1' : i < n := by omega
  simp [Instr.indexAt, run_underlying ht, asIntOf, h0, h1', sizeOf, typeInfo, hi, Addr.add_mid]

theorem OpL.indexAddr {t e : TypeId} {x y : Operand} {k : IntKind} {i : Int} {ie : TypeInfo} {p q : AV} (ho : o.op = .indexAddr t x y) (ht : P.underlying t = some (.slice e)) (hi : P.info? e = some ie)
    (hx : rd σ x = some p) (hy : rd σ y = some (.imm (.val (.int k i)))) (h0 : 0 ≤ i) (hq : elemAt σ p ie.size i.toNat = some q) : OpL P o σ (keyOf p) ⟨some q, [], []⟩ := by
  intro σ' hs hfp _
  have hx' := (hs x (by simp [ho, Op.operands])).trans hx
  have hy' := (hs y (by simp [ho, Op.operands])).trans hy
  refine .of_value fun cx g a w h => ?_
  have ey := (rd_rep h y _ hy').int
  have hr := rd_rep h x _ hx'
  generalize he : a.eval x = v at hr
  have hex : ∀ b o n c, v = .slice (some ⟨b, o, none⟩) n c → i.toNat < n → (execOp a.eval ‹Oper›).run P w = .ok (.value (.pointer (some ⟨b, o + i.toNat * ie.size, none⟩))) w := by
    intro b o n c e1 h1
    simp [execOp, ho, he, ey, e1, run_indexAt_in w t e b o n c k i ie ht hi h0 h1]
  cases hr <;> simp only [elemAt] at hq <;> first | (cases hq; done) | skip
  · rename_i X hX
    cases hX <;> simp only at hq <;> first | (cases hq; done) | skip
    · simp at hq
    · rename_i sz es b o' c u h1 h2 h3 h4 h5
      split at hq
      · rename_i hc
        obtain ⟨rfl, hlt⟩ := hc
        cases hq
        refine ⟨_, hex b o' _ c rfl hlt, ?_⟩
        have hlen : (es.getD i.toNat []).length = ie.size := by
          rw [List.getD_eq_getElem?_getD, List.getElem?_eq_getElem hlt]
          exact h2 _ (List.getElem_mem hlt)
        have := RepA.rptr (g := g) (w := w) (es.getD i.toNat []) 0 b (o' + i.toNat * ie.size) (fun j => u i.toNat j) h3
          (fun j hj => by rw [Nat.add_assoc]; exact h4 _ j hlt (by omega)) (fun j hj => h5 _ j hlt (by omega))
        simpa using this
      · cases hq
  · rename_i k' hk
    cases htk : σ.tk k' with
    | none => rw [htk] at hq; cases hq
    | some t' =>
      rw [htk] at hq
      cases t' with
      | box all => cases hq
      | iter s p => cases hq
      | rows e0 sz es f =>
        simp only at hq
        split at hq
        · rename_i hc
          obtain ⟨rfl, hlt⟩ := hc
          cases hq
          have htk' := (hfp k' (by simp [keyOf])).trans htk
          cases h.tk k' _ htk' with
          | rows _ _ _ _ xs h1 h2 h3 h4 h5 =>
            rcases h1.2 with ⟨e1, e2⟩ | ⟨b, cap, cur, e1, _⟩
            · omega
            · refine ⟨_, hex b 0 _ cap e1 hlt, ?_⟩
              have := RepA.eptr (g := g) (w := w) k' ie.size i.toNat 0 b _ _ hk e1
              simpa using this
        · cases hq
  · rename_i k' sz off n b n0 c0 c hk h1 h2 h3
    split at hq
    · rename_i hc
      obtain ⟨rfl, hlt⟩ := hc
      cases hq
      refine ⟨_, hex b (off * ie.size) n c rfl hlt, ?_⟩
      have := RepA.eptr (g := g) (w := w) k' ie.size (off + i.toNat) 0 b _ _ hk h1
      rw [Nat.add_mul] at this
      simpa using this
    · cases hq
  · rename_i k' sz off c A hk
    split at hq
    · rename_i hc; omega
    · cases hq

def lenV : Value → Option Nat
  | .slice _ n _ => some n
  | _ => none

theorem lenV_some {v : Value} {n : Nat} (h : lenV v = some n) : ∃ A c, v = .slice A n c := by
  cases v <;> simp only [lenV] at h <;> first | (cases h; done) | skip
  cases h; exact ⟨_, _, rfl⟩

def lenT : T → Option Nat
  | .row _ es => some es.length
  | .val v => lenV v
  | _ => none

def lenOf (σ : St) : AV → Option Nat
  | .own k => match σ.tk k with
    | some (.rows _ _ es _) => some es.length
    | _ => none
  | .view _ _ _ n => some n
  | .imm x => lenT x
  | _ => none

theorem lenOf_rep (h : SR cx g σ a w) {x : AV} {v : Value} {n : Nat} (hx : RepA g w x v) (hn : lenOf σ x = some n) : ∃ A c, v = .slice A n c := by
  cases hx <;> simp only [lenOf] at hn <;> first | (cases hn; done) | skip
  · rename_i X hX
    cases hX <;> simp only [lenT] at hn <;> first | (cases hn; done) | skip
    · exact lenV_some hn
    · cases hn; exact ⟨_, _, rfl⟩
    · cases hn; exact ⟨_, _, rfl⟩
  · rename_i k hk
    cases ht : σ.tk k with
    | none => rw [ht] at hn; cases hn
    | some t =>
      rw [ht] at hn
      cases t <;> simp only at hn <;> first | (cases hn; done) | skip
      cases hn
      cases h.tk k _ ht with
      | rows _ _ _ _ xs h1 _ _ _ _ =>
        rcases h1.2 with ⟨e1, e2⟩ | ⟨b, cap, cur, e1, _⟩
        · rw [e1, e2]; exact ⟨_, _, rfl⟩
        · rw [e1]; exact ⟨_, _, rfl⟩
  · cases hn; exact ⟨_, _, rfl⟩
  · cases hn; exact ⟨_, _, rfl⟩

theorem lenOf_agree {σ σ' : St} {x : AV} (h : ∀ k, k ∈ keyOf x → σ'.tk k = σ.tk k) : lenOf σ' x = lenOf σ x := by
  cases x <;> simp only [lenOf]
  rw [h _ (by simp only [keyOf, List.mem_singleton])]

theorem OpL.len {t e : TypeId} {x : Operand} {p : AV} {n : Nat} (ho : o.op = .call { callee := .builtin .len, args := #[x], argTypes := #[t] }) (ht : P.underlying t = some (.slice e)) (hx : rd σ x = some p) (hn : lenOf σ p = some n) :
    OpL P o σ (keyOf p) ⟨some (.imm (.val (.int .i64 n))), [], []⟩ := by
  intro σ' hs hfp _
  have hx' := (hs x (by simp [ho, Op.operands, Call.operands])).trans hx
  refine .of_value fun cx g a w h => ?_
  obtain ⟨A, c, ev⟩ := lenOf_rep h (rd_rep h x _ hx') ((lenOf_agree hfp).trans hn)
  exact ⟨_, by simp [execOp, ho, ev, resolve, invoke, builtin, Builtin.len_, run_underlying ht, goInt], .ofVal g w _⟩

theorem rd_bnd (h : SR cx g σ a w) {x : Operand} {d i : Int} (hx : bnd σ d (some x) = some i) : ∃ k, a.eval x = .int k i := by
  simp only [bnd] at hx
  cases hr : rd σ x with
  | none => rw [hr] at hx; cases hx
  | some y =>
    rw [hr] at hx
    have hrep := rd_rep h x y hr
    cases y <;> simp only [Option.bind_some, AV.num] at hx <;> first | (cases hx; done) | skip
    rename_i X
    cases X <;> simp only [numT] at hx <;> first | (cases hx; done) | skip
    rename_i v
    cases v <;> simp only [numV] at hx <;> first | (cases hx; done) | skip
    cases hx
    exact ⟨_, hrep.int⟩

theorem bnd_agree {σ σ' : St} {d : Int} {x : Option Operand} (h : ∀ y, x = some y → rd σ' y = rd σ y) : bnd σ' d x = bnd σ d x := by
  cases x with
  | none => rfl
  | some y => simp only [bnd]; rw [h y rfl]

theorem run_sliceBound (w : World) (k : IntKind) (i : Int) (y : Nat) (code : BoundsCode) (h0 : 0 ≤ i) (h1 : i ≤ y) : (Instr.sliceBound (.int k i) y code).run P w = .ok i.toNat w := by
  simp [Instr.sliceBound, asIntOf, h0, h1]

theorem OpL.sliceS {t : TypeId} {x : Operand} {lo hi : Option Operand} {s : ByteArray} {l u : Int} (ho : o.op = .slice t x lo hi none) (ht : P.underlying t = some .string) (hx : rd σ x = some (.imm (.val (.string s))))
    (hlo : bnd σ 0 lo = some l) (hhi : bnd σ s.size hi = some u) (h0 : 0 ≤ l) (h1 : l ≤ u) (h2 : u ≤ s.size) : OpL P o σ [] ⟨some (.imm (.val (.string (s.extract l.toNat u.toNat)))), [], []⟩ := by
  intro σ' hs _ _
  have hx' := (hs x (by simp [ho, Op.operands])).trans hx
  have hlo' := (bnd_agree (σ := σ) (σ' := σ') (d := 0) (x := lo) (fun y e => hs y (by simp [ho, Op.operands, e]))).trans hlo
  have hhi' := (bnd_agree (σ := σ) (σ' := σ') (d := s.size) (x := hi) (fun y e => hs y (by simp [ho, Op.operands, e]))).trans hhi
  refine .of_value fun cx g a w h => ?_
  have ex := (rd_rep h x _ hx').valEq
  refine ⟨.string (s.extract l.toNat u.toNat), ?_, .ofVal g w _⟩
  have hu' : u ≤ (s.size : Int) := h2
  cases lo with
  | none =>
    cases hi with
    | none =>
      cases hlo'; cases hhi'
      simp [execOp, ho, ex, Instr.sliceAt, Instr.slice, Instr.sliceBounds, run_underlying ht]
    | some hx2 =>
      cases hlo'
      obtain ⟨k2, e2⟩ := rd_bnd h hhi'
      simp [execOp, ho, ex, e2, Instr.sliceAt, Instr.slice, Instr.sliceBounds, run_underlying ht, run_sliceBound w k2 u s.size _ (by omega) hu']
  | some lx =>
    obtain ⟨k1, e1⟩ := rd_bnd h hlo'
    cases hi with
    | none =>
      cases hhi'
      simp [execOp, ho, ex, e1, Instr.sliceAt, Instr.slice, Instr.sliceBounds, run_underlying ht, run_sliceBound w k1 l s.size _ h0 h1]
    | some hx2 =>
      obtain ⟨k2, e2⟩ := rd_bnd h hhi'
      simp [execOp, ho, ex, e1, e2, Instr.sliceAt, Instr.slice, Instr.sliceBounds, run_underlying ht, run_sliceBound w k2 u s.size _ (by omega) hu',
        run_sliceBound w k1 l u.toNat _ h0 (by omega)]

theorem listLen_drop_take {α : Type} (l : List α) (o n : Nat) (h : o + n ≤ l.length) : ((l.drop o).take n).length = n := by
  rw [List.length_take, List.length_drop]; omega

end
end Go.Pm
