/- The pure machine, part V: a row of ours with its capacity in sight: parts of it, copies into it, one element more in its place. Conditions: none (definitions and lemmas alone). -/
import Derived.Test.YtlgfdldonoaahaaPmT
namespace Go.Pm
open Go
set_option linter.unusedVariables false
set_option linter.unusedSimpArgs false

theorem cap0 {g : Gh} {w : World} {k sz n c b n0 c0 : Nat} (h1 : g.used k) (h2 : g.hv k = .slice (some ⟨b, 0, none⟩) n0 c0) (h3 : c = c0) (h4 : n ≤ c) : RepA g w (.cap k sz 0 n c) (.slice (some ⟨b, 0, none⟩) n c) := by
  have := RepA.cap (g := g) (w := w) k sz 0 n c b n0 c0 h1 h2 (by omega) h4
  rwa [Nat.zero_mul] at this

/-- A row of ours, and how many its block holds. -/
theorem W.capO {P : Program} {code : Code} {KK : Px → St → Prop} {sl : List (Nat × Option AV)} {tk : List (Nat × Option Tok)} {n e sz k : Nat} {f : Bool} {es : List (List T)} (i : Nat) (hi : lks sl i = some (.own k)) (hk : lkt tk k = some (.rows e sz es f)) (hne : 0 < es.length)
    (h : ∀ C, es.length ≤ C → C ≤ maxLen → W P code (mkSt ((i, some (.cap k sz 0 es.length C)) :: sl) tk n) KK) : W P code (mkSt sl tk n) KK := by
  intro cx g a w hs
  have hr := hs.sl i (.own k) hi
  have hv : a.tmps.getD i undef = g.hv k := by
    generalize a.tmps.getD i undef = v at hr
    cases hr; rfl
  have hu := hs.key k _ hk
  cases hs.tk k _ hk with
  | rows _ _ _ _ xs t1 t2 t3 t4 t5 =>
    rcases t1.2 with ⟨e1, e2⟩ | ⟨b, cap, cur, e1, e0, e2, e3, e4, e5, e6⟩
    · omega
    · refine h cap e3 e4 cx g a w { hs with sl := fun j x hx => ?_ }
      simp only [mkSt, lks_cons] at hx
      split at hx
      · rename_i ej; cases hx; rw [ej, hv, e1]; exact cap0 hu e1 rfl e3
      · exact hs.sl j x hx

section
variable {P : Program} {o : Oper} {σ : St} {cx : Cx} {g : Gh} {a : Act} {w : World}

theorem O.capV {t e sz bytes k sz' off n c : Nat} {zs : List Value} {x : Operand} (S : SlT P t e sz bytes zs) (ho : o.op = .call { callee := .builtin .cap, args := #[x], argTypes := #[t] }) (hx : rd σ x = some (.cap k sz' off n c)) :
    OpL P o σ [] ⟨some (.imm (.val (.int .i64 c))), [], []⟩ := by
  intro σ' hs _ _
  have hx' := (hs x (by simp [ho, Op.operands, Call.operands])).trans hx
  refine .of_value fun cx g a w h => ?_
  have hr := rd_rep h x _ hx'
  generalize he : a.eval x = v at hr
  cases hr with
  | cap _ _ _ _ _ b n0 c0 h1 h2 h3 h4 =>
    exact ⟨_, by simp [execOp, ho, he, resolve, invoke, builtin, Builtin.cap_, run_underlying S.ht, goInt], .ofVal g w _⟩

theorem run_slice_cap (w : World) (a : Act) (t e : TypeId) (lo hi : Option Operand) (A : Option Addr) (n c : Nat) (l u : Int) (ie : TypeInfo) (ht : P.underlying t = some (.slice e)) (hi' : P.info? e = some ie)
    (hlo : (lo = none ∧ l = 0) ∨ ∃ x k, lo = some x ∧ a.eval x = .int k l) (hhi : (hi = none ∧ u = n) ∨ ∃ x k, hi = some x ∧ a.eval x = .int k u) (h0 : 0 ≤ l) (h1 : l ≤ u) (h2 : u ≤ c) :
    (Instr.sliceAt t (.slice A n c) (lo.map a.eval) (hi.map a.eval) none).run P w =
      .ok (.slice (if c = l.toNat then A else A.map (·.add (l.toNat * ie.size))) (u.toNat - l.toNat) (c - l.toNat)) w := by
  have hb : (Instr.sliceBounds true n c (lo.map a.eval) (hi.map a.eval) none).run P w = .ok (l.toNat, u.toNat, c) w := by
    rcases hlo with ⟨rfl, rfl⟩ | ⟨x1, k1, rfl, e1⟩ <;> rcases hhi with ⟨rfl, rfl⟩ | ⟨x2, k2, rfl, e2⟩
    · simp [Instr.sliceBounds]
    · simp [Instr.sliceBounds, e2, run_sliceBound w k2 u c _ (by omega) (by omega)]
    · simp [Instr.sliceBounds, e1, run_sliceBound w k1 l n _ h0 (by omega)]
    · simp [Instr.sliceBounds, e1, e2, run_sliceBound w k2 u c _ (by omega) (by omega), run_sliceBound w k1 l u.toNat _ h0 (by omega)]
  simp [Instr.sliceAt, Instr.slice, run_underlying ht, hb, sizeOf, typeInfo, hi']

theorem O.sliceC {t e sz bytes k off n c : Nat} {zs : List Value} {x : Operand} {lo hi : Option Operand} {l u : Nat} (S : SlT P t e sz bytes zs) (h : l ≤ u ∧ u ≤ c ∧ l < c) (ho : o.op = .slice t x lo hi none) (hx : rd σ x = some (.cap k sz off n c))
    (hlo : bnd σ 0 lo = some (l : Int)) (hhi : bnd σ n hi = some (u : Int)) : OpL P o σ [] ⟨some (.cap k sz (off + l) (u - l) (c - l)), [], []⟩ := by
  obtain ⟨ie, z, h1, h2, h3, h4, rfl, h6⟩ := S.parts
  intro σ' hs hfp _
  have hx' := (hs x (by simp [ho, Op.operands])).trans hx
  have hlo' := (bnd_agree (σ := σ) (σ' := σ') (d := 0) (x := lo) (fun y e => hs y (by simp [ho, Op.operands, e]))).trans hlo
  have hhi' := (bnd_agree (σ := σ) (σ' := σ') (d := n) (x := hi) (fun y e => hs y (by simp [ho, Op.operands, e]))).trans hhi
  refine .of_value fun cx g a w hsr => ?_
  have hr := rd_rep hsr x _ hx'
  generalize he : a.eval x = v at hr
  have hlo2 : (lo = none ∧ (l : Int) = 0) ∨ ∃ x k, lo = some x ∧ a.eval x = .int k (l : Int) := by
    cases lo with
    | none => have := Option.some.inj hlo'; exact .inl ⟨rfl, this.symm⟩
    | some y => obtain ⟨k, ek⟩ := rd_bnd hsr hlo'; exact .inr ⟨y, k, rfl, ek⟩
  have hhi2 : (hi = none ∧ (u : Int) = n) ∨ ∃ x k, hi = some x ∧ a.eval x = .int k (u : Int) := by
    cases hi with
    | none => have := Option.some.inj hhi'; exact .inl ⟨rfl, this.symm⟩
    | some y => obtain ⟨k, ek⟩ := rd_bnd hsr hhi'; exact .inr ⟨y, k, rfl, ek⟩
  cases hr with
  | cap _ _ _ _ _ b n0 c0 g1 g2 g3 g4 =>
    have := run_slice_cap (P := P) w a t e lo hi (some ⟨b, off * ie.size, none⟩) n c l u ie S.ht h1 hlo2 hhi2 (by omega) (by omega) (by omega)
    simp only [Int.toNat_natCast, Option.map_some, Addr.add_mid] at this
    rw [if_neg (by omega)] at this
    refine ⟨.slice (some ⟨b, off * ie.size + l * ie.size, none⟩) (u - l) (c - l), ?_, ?_⟩
    · simp only [execOp, ho, he, Option.map_none, this, Sem.run_bind, Sem.run_pure, Result.andThen_ok]
    · rw [← Nat.add_mul]
      exact .cap k ie.size (off + l) (u - l) (c - l) b n0 c0 g1 g2 (by omega) (by omega)
end

/-- A row with its capacity, all of it, is the row. -/
theorem Gives.capOwn {sl : List (Nat × Option AV)} {tk : List (Nat × Option Tok)} {n e sz k c : Nat} {f : Bool} {es : List (List T)} (i : Nat) (hi : lks sl i = some (.cap k sz 0 es.length c)) (hk : lkt tk k = some (.rows e sz es f)) :
    Gives (mkSt sl tk n) (mkSt ((i, some (.own k)) :: sl) tk n) := by
  intro cx g a w hs
  refine ⟨g, { hs with sl := fun j x hx => ?_ }⟩
  simp only [mkSt, lks_cons] at hx
  split at hx
  · rename_i ej; cases hx
    have hr := hs.sl i _ hi
    rw [ej]
    generalize a.tmps.getD i undef = v at hr
    cases hr with
    | cap _ _ _ _ _ b n0 c0 g1 g2 g3 g4 =>
      have e : g.hv k = .slice (some ⟨b, 0 * sz, none⟩) es.length c := by
        cases hs.tk k _ hk with
        | rows _ _ _ _ xs t1 t2 t3 t4 t5 =>
          rcases t1.2 with ⟨e1, e2⟩ | ⟨b', cap, cur, e1, _⟩
          · rw [g2] at e1; cases e1
          · rw [g2] at e1; injection e1 with q1 q2 q3
            rw [g2, Nat.zero_mul, q2, show c0 = c by omega]
      rw [← e]; exact .own k g1
  · exact hs.sl j x hx

end Go.Pm
