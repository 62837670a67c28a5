/- The pure machine, part U: copies into a row of ours, one element more in its place, a make appended, rows that lie apart. Conditions: none (definitions and lemmas alone). -/
import Derived.Lib.Overlaps
import Derived.Lib.AppendZerosOnto
import Derived.Test.YtidinbjehfodoaaPmV
namespace Go.Pm
open Go
set_option linter.unusedVariables false
set_option linter.unusedSimpArgs false

/-- Two rows of ours lie apart. -/
theorem OpL.apart {P : Program} {o : Oper} {σ : St} {t e sz bytes f k1 k2 off m : Nat} {zs : List Value} {x y : Operand} {es1 es2 : List (List T)} {e1 e2 : TypeId} {fn : Func} {tR : TypeId} (S : SlT P t e sz bytes zs)
    (hfn : P.funcs[f]? = some fn) (hname : (fn.name == "runtime.NumGoroutine") = false) (hb : fn.body.isNone = true) (hn : Extern.findNext fn = none) (he : Extern.find fn = some (Extern.SlicesOverlaps.overlaps #[t, t] #[tR]))
    (ho : o.op = .call { callee := .value (.func f), args := #[x, y], argTypes := #[t, t] }) (hx : rd σ x = some (.own k1)) (h1 : σ.tk k1 = some (.rows e1 sz es1 false)) (hy : rd σ y = some (.view k2 sz off m)) (h2 : σ.tk k2 = some (.rows e2 sz es2 false))
    (hne : k1 ≠ k2) (p1 : 0 < es1.length) (p2 : 0 < m) : OpL P o σ [k1, k2] ⟨some (.imm (.val (.bool false))), [], []⟩ := by
  obtain ⟨ie, z, j1, j2, j3, j4, rfl, rfl⟩ := S.parts
  have pos := S.pos
  intro σ' hs hfp hfree
  have hx' := (hs x (by simp [ho, Op.operands, Call.operands])).trans hx
  have hy' := (hs y (by simp [ho, Op.operands, Call.operands])).trans hy
  have h1' := (hfp k1 (by simp)).trans h1
  have h2' := (hfp k2 (by simp)).trans h2
  refine .of_value fun cx g a w h => ⟨_, ?_, RepA.ofVal _ _ _⟩
  have hrx := rd_rep h x _ hx'
  have hry := rd_rep h y _ hy'
  generalize hex : a.eval x = vx at hrx
  generalize hey : a.eval y = vy at hry
  cases hrx with
  | own _ u1 =>
  cases hry with
  | view0 => omega
  | view _ _ _ _ b2 m0 c0 cc u2 hv2 g1 g2 =>
  cases h.tk k1 _ h1' with
  | rows _ _ _ _ xs t1 t2 t3 t4 t5 =>
  cases h.tk k2 _ h2' with
  | rows _ _ _ _ ys r1 r2 r3 r4 r5 =>
    rcases t1.2 with ⟨a1, a2⟩ | ⟨b1, cap1, cur1, a1, a0, a2, a3, a4, a5, a6⟩
    · omega
    · rcases r1.2 with ⟨d1, d2⟩ | ⟨b2', cap2, cur2, d1, d0, d2, d3, d4, d5, d6⟩
      · rw [hv2] at d1; cases d1
      · rw [hv2] at d1; cases d1
        have hbb : b1 ≠ b2 := fun q => hne (h.inj k1 k2 _ _ b1 h1' h2' (by rw [a1]; rfl) (by rw [hv2, q]; rfl))
        have big : ∀ (n c : Nat), 0 < n → n ≤ c → c * ie.size ≠ 0 := fun n c h1 h2 => Nat.mul_ne_zero (by omega) (by omega)
        have hov := Lib.run_overlaps_apart (P := P) w t tR e S.ht ie.size (fun w => by simp [sizeOf, typeInfo, j1]) ⟨b1, 0, none⟩ ⟨b2, off * ie.size, none⟩ es1.length cap1 m cc hbb e1 e2 cur1.size cur2.size
          (by simp [World.shape?, a2]) (by simp [World.shape?, d2]) (by rw [d5]; exact big es2.length _ (by omega) d3) (frozen_of_row w b1 0 cur1 e1 a2) (frozen_of_row w b1 cur1.size cur1 e1 a2)
        have hcf := run_callFunc_extern hfn hname hb hn he #[.slice (some ⟨b1, 0, none⟩) es1.length cap1, .slice (some ⟨b2, off * ie.size, none⟩) m cc] w
        rw [hov] at hcf
        have ef : a.eval (.func f) = .func (.func f) #[] #[] := rfl
        simp [execOp, ho, resolve, invoke, hex, hey, a1, ef, Deferred.ofValue, hcf]


theorem TRow.refl : ∀ l : List T, TRow l l
  | [] => .nil
  | x :: l => .cons (.same x) (TRow.refl l)

section
variable {P : Program} {o : Oper} {σ : St}

variable {sl : List (Nat × Option AV)} {tk : List (Nat × Option Tok)} {n d : Nat} {ops : Array Oper} {l : List Oper} {fp : List Nat} {K : List Stp → St → Prop}
/-- A value, and tokens that turn. -/
theorem RunK.k {v : AV} {ts : List (Nat × Option Tok)} (hd : o.dst = some d) (hg : Met ops (mkSt sl tk n) o.guard true) (h : OpL P o (mkSt sl tk n) fp ⟨some v, ts, []⟩) (k : RunK P ops l (mkSt ((d, some v) :: sl) (ts ++ tk) n) (fun ms => K ((fp, .out ⟨some v, ts, []⟩) :: ms))) :
    RunK P ops (o :: l) (mkSt sl tk n) K := let ⟨_, _, k, hK⟩ := k; ⟨_, _, .c (m := 0) hd hg h k, hK⟩
end


variable {α : Type} {enc : α → List T}

end Go.Pm
