/- The pure machine, part I: regions and code: sequences, tests, blocks, loops, and ghost steps between them. Conditions: none (definitions and lemmas alone). -/
import Derived.Tactics
import Derived.Deep.LoopGhost
import Derived.Test.YtidinbjehfodoaaPmG
namespace Go.Pm
open Go
set_option linter.unusedVariables false
set_option linter.unusedSimpArgs false

/-- What is so of the state holds of a second one, too (forgetting, renaming, freezing). -/
def Gives (σ σ' : St) : Prop := ∀ cx g a w, SR cx g σ a w → ∃ g', SR cx g' σ' a w

theorem Gives.refl (σ : St) : Gives σ σ := fun _ g _ _ h => ⟨g, h⟩
theorem Gives.trans {a b c : St} (h : Gives a b) (h' : Gives b c) : Gives a c := fun cx g x w s =>
  let ⟨g1, s1⟩ := h cx g x w s
  h' cx g1 x w s1

def OpsT (P : Program) (ops : Array Oper) (l : List Oper) (σ : St) (K : St → Prop) : Prop :=
  ∀ cx g a w, SR cx g σ a w → (∀ o, o ∈ l → ∀ d, o.dst = some d → d < cx.n) → ∀ (Q : Exit → Act → World → Prop),
    (∀ σ' g' a' w', K σ' → SR cx g' σ' a' w' → Q .normal a' w') → wpList P ops Q l a w

section
variable {P : Program} {ops : Array Oper} {l : List Oper} {σ : St} {K : St → Prop} {o : Oper}

theorem OpsT.nil (h : K σ) : OpsT P ops [] σ K := fun cx g a w hs _ Q hQ => wpList_nil (hQ σ g a w h hs)

theorem OpsT.step {out : Out} (hg : o.guard = none) (h : OpD P o σ out) (k : OpsT P ops l (σ.out o.dst out) K) : OpsT P ops (o :: l) σ K := by
  intro cx g a w hs hd Q hQ
  refine wpList_plain hg fun K' hK' => ?_
  exact h cx g a w (hd o (by simp)) hs K' Q (fun g' a' w' hs' => hK' _ _ (k cx g' a' w' hs' (fun o' ho' => hd o' (by simp [ho'])) Q hQ))

/-- Whatever the state has: a ghost step. -/
theorem OpsT.ghost {σ' : St} (h : Gives σ σ') (k : OpsT P ops l σ' K) : OpsT P ops l σ K := by
  intro cx g a w hs hd Q hQ
  obtain ⟨g', hs'⟩ := h cx g a w hs
  exact k cx g' a w hs' hd Q hQ

theorem OpsT.mono {K' : St → Prop} (h : OpsT P ops l σ K) (hk : ∀ σ', K σ' → K' σ') : OpsT P ops l σ K' :=
  fun cx g a w hs hd Q hQ => h cx g a w hs hd Q (fun σ' g' a' w' hK => hQ σ' g' a' w' (hk σ' hK))

/-- What stands for an operation that is left out. -/
def St.skip (σ : St) (d : Option Nat) : St :=
  match d with
  | none => σ
  | some d => σ.set d (.imm (.val undef))

/-- What a value says as a test: a truth, or nothing. -/
def asB : Value → Option Bool
  | .bool b => some b
  | _ => none

theorem yielded_of {cx : Cx} {g : Gh} {a : Act} {w : World} (hs : SR cx g σ a w) {j dj : Nat} {oj : Oper} {v : Value} (hj : ops[j]? = some oj) (hd : oj.dst = some dj) (hsl : σ.sl dj = some (.imm (.val v))) :
    yielded ops a.tmps j = asB v := by
  have hr := (hs.sl dj _ hsl).valEq
  unfold yielded
  rw [hj]
  simp only [Option.bind_some, hd]
  rcases Nat.lt_or_ge dj a.tmps.size with h | h
  · rw [getD_some h, hr]; cases v <;> rfl
  · rw [Array.getElem?_eq_none h]
    rw [Array.getD_eq_getD_getElem?, Array.getElem?_eq_none h] at hr
    rw [← hr]; rfl

/-- An operation under a test. -/
theorem OpsT.guard {j dj : Nat} {oj : Oper} {want : Bool} {v : Value} (hg : o.guard = some (j, want)) (hj : ops[j]? = some oj) (hd : oj.dst = some dj) (hsl : σ.sl dj = some (.imm (.val v)))
    (hT : (asB v == some want) = true → ∃ out, OpD P o σ out ∧ OpsT P ops l (σ.out o.dst out) K) (hF : (asB v == some want) = false → OpsT P ops l (σ.skip o.dst) K) : OpsT P ops (o :: l) σ K := by
  intro cx g a w hs hdd Q hQ
  have hy := yielded_of (ops := ops) hs hj hd hsl
  unfold wpList
  by_cases hb : (asB v == some want) = true
  · have hw : Region.wanted o (yielded ops a.tmps) = true := by unfold Region.wanted; rw [hg]; simp only [hy]; exact hb
    rw [if_pos hw]
    obtain ⟨out, h, k⟩ := hT hb
    exact .inl (h cx g a w (hdd o (by simp)) hs _ Q (fun g' a' w' hs' => k cx g' a' w' hs' (fun o' ho' => hdd o' (by simp [ho'])) Q hQ))
  · have hw : ¬ Region.wanted o (yielded ops a.tmps) = true := by unfold Region.wanted; rw [hg]; simp only [hy]; exact hb
    rw [if_neg hw]
    have hs' : SR cx g (σ.skip o.dst) (a.put o.dst undef) w := by
      cases hdst : o.dst with
      | none => exact hs
      | some d => exact hs.put d (hdd o (by simp) d hdst) _ undef (.ofVal g w undef)
    exact hF (by simpa using hb) cx g _ w hs' (fun o' ho' => hdd o' (by simp [ho'])) Q hQ

inductive Px where
  | normal
  | exit (id : Nat)
  | ret

def Px.to : Px → Exit
  | .normal => .normal
  | .exit id => .exit id
  | .ret => .ret

/-- Are all slots that are written there? -/
def dstOk (n : Nat) : Code → Bool
  | .region _ ops _ => ops.all fun o => match o.dst with | some d => decide (d < n) | none => true
  | .seq a b => dstOk n a && dstOk n b
  | .cond _ a b => dstOk n a && dstOk n b
  | .block _ c => dstOk n c
  | .loop c => dstOk n c
  | .scope c => dstOk n c
  | _ => true

def W (P : Program) (c : Code) (σ : St) (K : Px → St → Prop) : Prop :=
  ∀ cx g a w, SR cx g σ a w → dstOk cx.n c = true → ∀ (Q : Exit → Act → World → Prop), (∀ e σ' g' a' w', K e σ' → SR cx g' σ' a' w' → Q e.to a' w') → c.wp P Q a w

variable {c d : Code} {KK : Px → St → Prop}

theorem W.ghost {σ' : St} (h : Gives σ σ') (k : W P c σ' KK) : W P c σ KK := by
  intro cx g a w hs hd Q hQ
  obtain ⟨g', hs'⟩ := h cx g a w hs
  exact k cx g' a w hs' hd Q hQ

theorem W.mono {K' : Px → St → Prop} (h : W P c σ KK) (hk : ∀ e σ', KK e σ' → K' e σ') : W P c σ K' :=
  fun cx g a w hs hd Q hQ => h cx g a w hs hd Q (fun e σ' g' a' w' hK => hQ e σ' g' a' w' (hk e σ' hK))

theorem W.skip (h : KK .normal σ) : W P .skip σ KK := fun cx g a w hs _ Q hQ => wp_skip (hQ .normal σ g a w h hs)
theorem W.exit {id : Nat} (h : KK (.exit id) σ) : W P (.exit id) σ KK := fun cx g a w hs _ Q hQ => wp_exit (hQ (.exit id) σ g a w h hs)
theorem W.ret (h : KK .ret σ) : W P .ret σ KK := fun cx g a w hs _ Q hQ => wp_ret (hQ .ret σ g a w h hs)

/-- What follows a sequence's first part. -/
def andThen (P : Program) (d : Code) (KK : Px → St → Prop) : Px → St → Prop
  | .normal, σ => W P d σ KK
  | e, σ => KK e σ

theorem W.seq (h : W P c σ (andThen P d KK)) : W P (.seq c d) σ KK := by
  intro cx g a w hs hd Q hQ
  simp only [dstOk, Bool.and_eq_true] at hd
  refine wp_seq (h cx g a w hs hd.1 _ (fun e σ' g' a' w' hK hs' => ?_))
  cases e with
  | normal => exact hK cx g' a' w' hs' hd.2 Q hQ
  | exit id => exact hQ (.exit id) σ' g' a' w' hK hs'
  | ret => exact hQ .ret σ' g' a' w' hK hs'

theorem W.cond {x : Operand} {b : Bool} (hx : rd σ x = some (.imm (.val (.bool b)))) (ht : b = true → W P c σ KK) (hf : b = false → W P d σ KK) : W P (.cond x c d) σ KK := by
  intro cx g a w hs hd Q hQ
  simp only [dstOk, Bool.and_eq_true] at hd
  have hr := (rd_rep hs x _ hx).bool
  exact wp_cond_split hr (fun e => ht e cx g a w hs hd.1 Q hQ) (fun e => hf e cx g a w hs hd.2 Q hQ)

def inBlock (id : Nat) (KK : Px → St → Prop) : Px → St → Prop
  | .exit id', σ => if id' = id then KK .normal σ else KK (.exit id') σ
  | e, σ => KK e σ

theorem W.block {id : Nat} (h : W P c σ (inBlock id KK)) : W P (.block id c) σ KK := by
  intro cx g a w hs hd Q hQ
  refine wp_block (h cx g a w hs hd _ (fun e σ' g' a' w' hK hs' => ?_))
  cases e with
  | normal => exact hQ .normal σ' g' a' w' hK hs'
  | ret => exact hQ .ret σ' g' a' w' hK hs'
  | exit id' =>
    simp only [inBlock] at hK
    simp only [Px.to, Exit.inBlock]
    by_cases e : id' = id
    · rw [if_pos e] at hK ⊢; exact hQ .normal σ' g' a' w' hK hs'
    · rw [if_neg e] at hK ⊢; exact hQ (.exit id') σ' g' a' w' hK hs'

/-- What a round leaves: the invariant at a smaller number, after a ghost step. -/
def again (I : Nat → St → Prop) (n : Nat) (KK : Px → St → Prop) : Px → St → Prop
  | .normal, σ => ∃ m σ', m < n ∧ Gives σ σ' ∧ I m σ'
  | e, σ => KK e σ

theorem W.loop (I : Nat → St → Prop) (n : Nat) {σ0 : St} (hg : Gives σ σ0) (h0 : I n σ0) (round : ∀ n σ, I n σ → W P c σ (again I n KK)) : W P (.loop c) σ KK := by
  intro cx g a w hs hd Q hQ
  obtain ⟨g0, hs0⟩ := hg cx g a w hs
  refine wp_loop_ghost (fun m a w => ∃ σ g, I m σ ∧ SR cx g σ a w) n ⟨σ0, g0, h0, hs0⟩ ?_
  rintro m a w ⟨σ1, g1, hI, hs1⟩
  refine round m σ1 hI cx g1 a w hs1 hd _ (fun e σ' g' a' w' hK hs' => ?_)
  cases e with
  | normal =>
    obtain ⟨m', σ'', hlt, hG, hI'⟩ := hK
    obtain ⟨g'', hs''⟩ := hG cx g' a' w' hs'
    exact ⟨m', hlt, σ'', g'', hI', hs''⟩
  | exit id => exact hQ (.exit id) σ' g' a' w' hK hs'
  | ret => exact hQ .ret σ' g' a' w' hK hs'

theorem mem_dstOk {n id : Nat} {draw : Bool} (h : dstOk n (.region id ops draw) = true) (o : Oper) (ho : o ∈ ops.toList) (d : Nat) (hd : o.dst = some d) : d < n := by
  simp only [dstOk, Array.all_eq_true_iff_forall_mem] at h
  have := h o (by simpa using ho)
  rw [hd] at this
  simpa using this

theorem W.region {id : Nat} (h : OpsT P ops ops.toList σ (KK .normal)) : W P (.region id ops false) σ KK := by
  intro cx g a w hs hd Q hQ
  refine wp_region ?_
  have := h cx g a w hs (mem_dstOk hd) Q (fun σ' g' a' w' hK hs' => hQ .normal σ' g' a' w' hK hs')
  have e := wpOps_eq_wpList (P := P) (ops := ops) (Q := Q) ops.toList 0 (fun j => by simp)
  rw [List.range_eq_range', ← Array.length_toList, e]
  exact this

end
end Go.Pm
