/- The pure machine, part Y: values of interface types: made of structs, asked for their types, compared with nil. Conditions: none (definitions and lemmas alone). -/
import Derived.Test.YtlgfdldonoaahaaPmX
import Derived.Laws.Build
namespace Go.Pm
open Go
set_option linter.unusedVariables false
set_option linter.unusedSimpArgs false

section
variable {P : Program} {σ : St} {o : Oper} {cx : Cx} {g : Gh} {a : Act} {w : World}

/-- A struct in an interface. -/
theorem O.mkIfc {t : TypeId} {x : Operand} {cs : List AV} {l : List T} (hc : P.concrete t = true) (ho : o.op = .makeInterface t x) (hx : rd σ x = some (.agg cs)) (hl : cellsT cs = some l) : OpL P o σ [] ⟨some (.imm (.ifc t (.agg l))), [], []⟩ := by
  intro σ' hs _ _
  have hx' := (hs x (by simp [ho, Op.operands])).trans hx
  refine .of_value fun cx g a w h => ?_
  have hr := rd_rep h x _ hx'
  generalize hv : a.eval x = v at hr
  obtain ⟨c1, c2⟩ := cellsT_get _ _ hl
  cases hr with
  | agg _ vs e1 e2 =>
    refine ⟨.iface t (.agg vs), by simp [execOp, ho, hv, run_makeInterface w t _ hc], .imm _ _ (.ifc t _ _ (.agg l vs (by omega) fun i hi => ?_))⟩
    have := e2 i (by omega)
    rw [c2 i (by omega)] at this
    cases this with
    | imm _ _ h => exact h

/-- What is behind an interface, asked for a struct of type t: its cells (else those of nought), and whether it is one. -/
inductive AsT (P : Program) (t : TypeId) : T → List T → Bool → Prop where
  | hit (l : List T) : AsT P t (.ifc t (.agg l)) l true
  | miss (t' : TypeId) (x : T) (zs : Array Value) (l : List T) : Nat.beq t' t = false → (P.info? t).bind (·.zero) = some (.agg zs) → TRow (zs.toList.map .val) l → AsT P t (.ifc t' x) l false
  | none (zs : Array Value) (l : List T) : (P.info? t).bind (·.zero) = some (.agg zs) → TRow (zs.toList.map .val) l → AsT P t (.val .nilIface) l false

def plainT (P : Program) (t : TypeId) : Bool :=
  match P.underlying t with
  | some (.struct _) => true
  | _ => false

theorem zero_run {t : TypeId} {z : Value} (h : (P.info? t).bind (·.zero) = some z) : (zeroValue t).run P w = .ok z w := by
  cases hi : P.info? t with
  | none => rw [hi] at h; cases h
  | some i =>
    rw [hi] at h
    simp only [Option.bind_some] at h
    simp [zeroValue, typeInfo, hi, h]

theorem zero_rep {S : Nat → Prop} {zs : Array Value} {l : List T} (h : TRow (zs.toList.map .val) l) : RepT S w (.agg l) (.agg zs) := by
  have hl := h.len
  rw [List.length_map, Array.length_toList] at hl
  refine .agg l zs hl fun i hi => ?_
  refine (h.at i).rep ?_
  rw [listD_map (d := undef) _ _ _ _ (by rw [Array.length_toList]; omega), toList_getD]
  exact .val _

theorem as_run {t it : TypeId} {y : T} {l : List T} {b : Bool} {S : Nat → Prop} {v : Value} (hp : plainT P t = true) (h : AsT P t y l b) (hv : RepT S w y v) :
    ∃ u, RepT S w (.agg l) u ∧ (Instr.typeAssert v it t true).run P w = .ok (.tuple #[u, .bool b]) w ∧ (b = true → (Instr.typeAssert v it t false).run P w = .ok u w) := by
  unfold plainT at hp
  split at hp
  · rename_i fs hu
    cases h with
    | hit l =>
      cases hv with
      | ifc _ _ u h => exact ⟨u, h, by simp [Instr.typeAssert, run_underlying hu], fun _ => by simp [Instr.typeAssert, run_underlying hu]⟩
    | miss t' x zs l h1 h2 h3 =>
      have hne : ¬ t' = t := fun e => by subst e; rw [Nat.beq_refl] at h1; cases h1
      cases hv with
      | ifc _ _ u h => exact ⟨.agg zs, zero_rep h3, by simp [Instr.typeAssert, run_underlying hu, hne, zero_run h2], fun e => by cases e⟩
    | none zs l h2 h3 =>
      cases hv with
      | val => exact ⟨.agg zs, zero_rep h3, by simp [Instr.typeAssert, run_underlying hu, zero_run h2], fun e => by cases e⟩
  · cases hp

theorem RepT.aggA {l : List T} {cs : List AV} {u : Value} (hl : cellsT cs = some l) (h : RepT g.S w (.agg l) u) : RepA g w (.agg cs) u := by
  obtain ⟨c1, c2⟩ := cellsT_get _ _ hl
  cases h with
  | agg _ vs e1 e2 =>
    refine .agg cs vs (by omega) fun i hi => ?_
    rw [c2 i hi]
    exact .imm _ _ (e2 i (by omega))

theorem O.asOk {t it : TypeId} {x : Operand} {y : T} {l : List T} {b : Bool} {cs : List AV} (hp : plainT P t = true) (h : AsT P t y l b) (ho : o.op = .typeAssert x it t true) (hx : rd σ x = some (.imm y)) (hl : cellsT cs = some l) :
    OpL P o σ [] ⟨some (.tup [.agg cs, .imm (.val (.bool b))]), [], []⟩ := by
  intro σ' hs _ _
  have hx' := (hs x (by simp [ho, Op.operands])).trans hx
  refine .of_value fun cx g a w hh => ?_
  have hr := rd_rep hh x _ hx'
  generalize hv : a.eval x = v at hr
  cases hr with
  | imm _ _ hr =>
    obtain ⟨u, u1, u2, _⟩ := as_run (it := it) hp h hr
    refine ⟨_, by simp [execOp, ho, hv, u2]; rfl, .tup _ _ rfl fun i hi => ?_⟩
    match i, hi with
    | 0, _ => exact RepT.aggA hl u1
    | 1, _ => exact RepA.ofVal _ _ _
theorem O.asMust {t it : TypeId} {x : Operand} {y : T} {l : List T} {cs : List AV} (hp : plainT P t = true) (h : AsT P t y l true) (ho : o.op = .typeAssert x it t false) (hx : rd σ x = some (.imm y)) (hl : cellsT cs = some l) :
    OpL P o σ [] ⟨some (.agg cs), [], []⟩ := by
  intro σ' hs _ _
  have hx' := (hs x (by simp [ho, Op.operands])).trans hx
  refine .of_value fun cx g a w hh => ?_
  have hr := rd_rep hh x _ hx'
  generalize hv : a.eval x = v at hr
  cases hr with
  | imm _ _ hr =>
    obtain ⟨u, u1, _, u2⟩ := as_run (it := it) hp h hr
    exact ⟨u, by simp [execOp, ho, hv, u2 rfl], RepT.aggA hl u1⟩

/-- Is it nil? -/
inductive IsN : T → Bool → Prop where
  | none : IsN (.val .nilIface) true
  | some (t : TypeId) (x : T) : IsN (.ifc t x) false

def ifcT (P : Program) (t : TypeId) : Bool :=
  match P.underlying t with
  | some (.interface _) => true
  | _ => false

theorem bin_nn (t : TypeId) : (binOp .eql t .nilIface .nilIface).run P w = ((Op.equalIn 10000 t .nilIface .nilIface).run P w).andThen (fun b w' => .ok (.bool b) w') ∧
    (binOp .neq t .nilIface .nilIface).run P w = ((Op.equalIn 10000 t .nilIface .nilIface).run P w).andThen (fun b w' => .ok (.bool (!b)) w') := by
  constructor
  · simp only [binOp]; simp [Op.equal, Op.maxDepth]
  · simp only [binOp]; simp [Op.equal, Op.maxDepth]
theorem bin_in (t d : TypeId) (u : Value) : (binOp .eql t (.iface d u) .nilIface).run P w = ((Op.equalIn 10000 t (.iface d u) .nilIface).run P w).andThen (fun b w' => .ok (.bool b) w') ∧
    (binOp .neq t (.iface d u) .nilIface).run P w = ((Op.equalIn 10000 t (.iface d u) .nilIface).run P w).andThen (fun b w' => .ok (.bool (!b)) w') := by
  constructor
  · simp only [binOp]; simp [Op.equal, Op.maxDepth]
  · simp only [binOp]; simp [Op.equal, Op.maxDepth]
theorem eqn_nn {t : TypeId} {ms : Array (String × TypeId)} (n : Nat) (hu : P.underlying t = some (.interface ms)) : (Op.equalIn (n + 1) t .nilIface .nilIface).run P w = .ok true w := by
  simp only [Op.equalIn, Sem.run_bind, run_underlying hu, Result.andThen_ok]; rfl
theorem eqn_in {t : TypeId} {ms : Array (String × TypeId)} (n : Nat) (d : TypeId) (u : Value) (hu : P.underlying t = some (.interface ms)) : (Op.equalIn (n + 1) t (.iface d u) .nilIface).run P w = .ok false w := by
  simp only [Op.equalIn, Sem.run_bind, run_underlying hu, Result.andThen_ok]; rfl

theorem isN_run {t : TypeId} {y : T} {b : Bool} {S : Nat → Prop} {v : Value} (hp : ifcT P t = true) (h : IsN y b) (hv : RepT S w y v) (x : Operand) :
    (eqGuard .eql t x (.const .nilIface) v .nilIface).run P w = .ok () w ∧ (eqGuard .neq t x (.const .nilIface) v .nilIface).run P w = .ok () w ∧
    (binOp .eql t v .nilIface).run P w = .ok (.bool b) w ∧ (binOp .neq t v .nilIface).run P w = .ok (.bool (!b)) w := by
  unfold ifcT at hp
  split at hp
  · rename_i ms hu
    cases h with
    | none =>
      cases hv with
      | val =>
        refine ⟨by rw [eqGuard_nil_constR]; rfl, by rw [eqGuard_nil_constR]; rfl, ?_, ?_⟩
        · rw [(bin_nn _).1, eqn_nn 9999 hu]; rfl
        · rw [(bin_nn _).2, eqn_nn 9999 hu]; rfl
    | some t x =>
      cases hv with
      | ifc _ _ u h =>
        refine ⟨rfl, rfl, ?_, ?_⟩
        · rw [(bin_in _ _ _).1, eqn_in 9999 _ _ hu]; rfl
        · rw [(bin_in _ _ _).2, eqn_in 9999 _ _ hu]; rfl
  · cases hp

theorem O.eqI {t t' : TypeId} {x : Operand} {y : T} {b : Bool} (hp : ifcT P t = true) (h : IsN y b) (ho : o.op = .binOp .eql t x (.const .nilIface) t') (hx : rd σ x = some (.imm y)) : OpL P o σ [] ⟨some (.imm (.val (.bool b))), [], []⟩ := by
  intro σ' hs _ _
  have hx' := (hs x (by simp [ho, Op.operands])).trans hx
  refine .of_value fun cx g a w hh => ?_
  have hr := rd_rep hh x _ hx'
  generalize hv : a.eval x = v at hr
  cases hr with
  | imm _ _ hr =>
    obtain ⟨u1, u2, u3, u4⟩ := isN_run hp h hr x
    have ec : a.eval (.const .nilIface) = .nilIface := rfl
    exact ⟨_, by simp [execOp, ho, hv, ec, u1, u3], .ofVal g w _⟩
theorem O.neI {t t' : TypeId} {x : Operand} {y : T} {b : Bool} (hp : ifcT P t = true) (h : IsN y b) (ho : o.op = .binOp .neq t x (.const .nilIface) t') (hx : rd σ x = some (.imm y)) : OpL P o σ [] ⟨some (.imm (.val (.bool (!b)))), [], []⟩ := by
  intro σ' hs _ _
  have hx' := (hs x (by simp [ho, Op.operands])).trans hx
  refine .of_value fun cx g a w hh => ?_
  have hr := rd_rep hh x _ hx'
  generalize hv : a.eval x = v at hr
  cases hr with
  | imm _ _ hr =>
    obtain ⟨u1, u2, u3, u4⟩ := isN_run hp h hr x
    have ec : a.eval (.const .nilIface) = .nilIface := rfl
    exact ⟨_, by simp [execOp, ho, hv, ec, u2, u4], .ofVal g w _⟩
end

end Go.Pm
