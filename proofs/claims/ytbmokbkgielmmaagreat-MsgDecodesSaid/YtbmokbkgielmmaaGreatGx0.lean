/- Shows what functions of the program come to, each as a plain function: written by a program of the author's for this claim. -/
import Derived.Test.YtbmokbkgielmmaaGreatTy
namespace Go.Pm
open Go
theorem Z {α : Sort _} {a : α} : a = a := rfl
theorem L {a b : Nat} (h : Nat.ble a b = true) : a ≤ b := Nat.le_of_ble_eq_true h
abbrev im (l : List T) : List X := l.map X.imm
theorem cI {σ : St} {t : T} {l : List AV} {xs : List X} {C Z : List Nat} (h : Cfs σ l xs C Z) : Cfs σ (.imm t :: l) (.imm t :: xs) C Z := cC (.imm _) h
section
variable {P : Program} {ops : Array Oper} {o : Oper} {l : List Oper} {sl : List (Nat × Option AV)} {tk : List (Nat × Option Tok)} {n d : Nat} {K : List Stp → St → Prop}
theorem RunK.M {x : Operand} {y : AV} (h : @Eq (Option Nat × Option (Nat × Bool) × Op × Option AV) (o.dst, o.guard, o.op, rd (mkSt sl tk n) x) (some d, none, .move x, some y)) (k : RunK P ops l (mkSt ((d, some y) :: sl) tk n) (fun ms => K (([], .out ⟨some y, [], []⟩) :: ms))) :
    RunK P ops (o :: l) (mkSt sl tk n) K := by
  simp only [Prod.mk.injEq] at h; exact .m h.1 (by rw [h.2.1]; rfl) h.2.2.1 h.2.2.2 k
theorem RunK.A {x : Operand} {y : AV} (h : @Eq (Option Nat × Option (Nat × Bool) × Op × Option AV) (o.dst, o.guard, o.op, rd (mkSt sl tk n) x) (some d, none, .assign x, some y)) (k : RunK P ops l (mkSt ((d, some y) :: sl) tk n) (fun ms => K (([], .out ⟨some y, [], []⟩) :: ms))) :
    RunK P ops (o :: l) (mkSt sl tk n) K := by
  simp only [Prod.mk.injEq] at h; exact .a h.1 (by rw [h.2.1]; rfl) h.2.2.1 h.2.2.2 k
theorem RunK.B {op : BinOp} {t t' : TypeId} {x y : Operand} {k₀ : IntKind} {m m' : Int} {z : Value}
    (h : @Eq (Option Nat × Option (Nat × Bool) × Op × Option AV × Option AV × Option Value) (o.dst, o.guard, o.op, rd (mkSt sl tk n) x, rd (mkSt sl tk n) y, Pm.binI op k₀ m m') (some d, none, .binOp op t x y t', some (.imm (.val (.int k₀ m))), some (.imm (.val (.int k₀ m'))), some z))
    (k : RunK P ops l (mkSt ((d, some (.imm (.val z))) :: sl) tk n) (fun ms => K (([], .out ⟨some (.imm (.val z)), [], []⟩) :: ms))) :
    RunK P ops (o :: l) (mkSt sl tk n) K := by
  simp only [Prod.mk.injEq] at h; exact .v h.1 (by rw [h.2.1]; rfl) (OpL.binI h.2.2.1 h.2.2.2.1 h.2.2.2.2.1 h.2.2.2.2.2) k
theorem RunK.F {s f off : Nat} {x : Operand} {p q : AV} (hb : fieldB P s f off = true)
    (h : @Eq (Option Nat × Option (Nat × Bool) × Op × Option AV × Option AV) (o.dst, o.guard, o.op, rd (mkSt sl tk n) x, p.plus off) (some d, none, .fieldAddr s x f, some p, some q))
    (k : RunK P ops l (mkSt ((d, some q) :: sl) tk n) (fun ms => K (([], .out ⟨some q, [], []⟩) :: ms))) :
    RunK P ops (o :: l) (mkSt sl tk n) K := by
  simp only [Prod.mk.injEq] at h; exact .v h.1 (by rw [h.2.1]; rfl) (O.fld hb h.2.2.1 h.2.2.2.1 h.2.2.2.2) k
theorem RunK.V {v : AV} {fp : List Nat} (h0 : @Eq (Option Nat × Option (Nat × Bool)) (o.dst, o.guard) (some d, none)) (h : OpL P o (mkSt sl tk n) fp ⟨some v, [], []⟩) (k : RunK P ops l (mkSt ((d, some v) :: sl) tk n) (fun ms => K ((fp, .out ⟨some v, [], []⟩) :: ms))) :
    RunK P ops (o :: l) (mkSt sl tk n) K := by
  simp only [Prod.mk.injEq] at h0; exact .v h0.1 (by rw [h0.2]; rfl) h k
theorem RunK.S {t m k off : Nat} {b : Bool} {x y : Operand} {all cs : List AV} {z : AV} (ht : tyV P t = some (b, m))
    (h : @Eq (Op × Option Nat × Option (Nat × Bool) × Option AV × Option AV × List AV × Nat × Option Tok × Bool × Bool × Bool) (o.op, o.dst, o.guard, rd (mkSt sl tk n) x, rd (mkSt sl tk n) y, z.cells, cs.length, (mkSt sl tk n).tk k, Nat.ble (off + m) all.length, ones cs, live (mkSt sl tk n) (ownKeys cs))
      (.store t x y, none, none, some (.ptr k off), some z, cs, m, some (.box all), true, true, true))
    (all' : List AV) (ha : splice all off cs = all') (kk : RunK P ops l (mkSt sl ([(k, some (.box all'))] ++ tk) n) (fun ms => K ((k :: ownKeys cs, .out ⟨none, [(k, some (.box all'))], []⟩) :: ms))) :
    RunK P ops (o :: l) (mkSt sl tk n) K := by
  simp only [Prod.mk.injEq] at h
  obtain ⟨h1, h2, h3, h4, h5, h6, h7, h8, h9, h10, h11⟩ := h
  exact .s h2 (by rw [h3]; rfl) (O.st ht h1 h2 h4 h5 h6 h7 h8 h9 h10 h11 ha) kk
theorem RunK.C {f : Nat} {fo : Operand} {args : Array Operand} {ats : Array TypeId} {cap avs : List AV} {xs : List X} {r : X} {ss : List (Option X)} {C Z : List Nat}
    (av : AV) (ts : List (Nat × Option Tok)) (m : Nat) (hsp : Spec P f xs r ss) (hok : callOk P f = true)
    (h : @Eq (Option Nat × Option (Nat × Bool) × Op × Option AV × Option (List AV)) (o.dst, o.guard, o.op, rd (mkSt sl tk n) fo, rds (mkSt sl tk n) args.toList) (some d, none, .call { callee := .value fo, args := args, argTypes := ats }, some (.fn f cap), some avs))
    (hc : Cfs (mkSt sl tk n) (avs ++ cap) xs C Z)
    (h' : @Eq (Bool × Bool × AV × List (Nat × Option Tok) × Nat) (nodupB C, disjB C Z, (imp r n).1, (callOut (mkSt sl tk n) (imp r n).1 (imp r n).2.1 (backo (avs ++ cap) xs ss (imp r n).2.2).1 C Z n (backo (avs ++ cap) xs ss (imp r n).2.2).2).tk, (backo (avs ++ cap) xs ss (imp r n).2.2).2)
      (true, true, av, ts, n + m))
    (k : RunK P ops l (mkSt ((d, some av) :: sl) (ts ++ tk) (n + m)) (fun ms => K ((C ++ Z, .out ⟨some av, ts, List.range' n m⟩) :: ms))) :
    RunK P ops (o :: l) (mkSt sl tk n) K := by
  simp only [Prod.mk.injEq] at h h'
  obtain ⟨h1, h2, h3, h4, h5⟩ := h; obtain ⟨g1, g2, g3, g4, g5⟩ := h'
  exact .call av ts m hsp h1 (by rw [h2]; rfl) h3 hok h4 h5 hc g1 g2 g3 g4 g5 k
theorem RunK.U {v : AV} {fp : List Nat} {j dj : Nat} {want b : Bool} {oj : Oper} (h0 : @Eq (Option Nat × Option (Nat × Bool) × Option Oper × Option Nat × Option AV) (o.dst, o.guard, ops[j]?, oj.dst, lks sl dj) (some d, some (j, want), some oj, some dj, some (.imm (.val (.bool b))))) (hb : b = want)
    (h : OpL P o (mkSt sl tk n) fp ⟨some v, [], []⟩) (k : RunK P ops l (mkSt ((d, some v) :: sl) tk n) (fun ms => K ((fp, .out ⟨some v, [], []⟩) :: ms))) : RunK P ops (o :: l) (mkSt sl tk n) K := by
  simp only [Prod.mk.injEq] at h0; exact .v h0.1 (by rw [h0.2.1]; exact met h0.2.2.1 h0.2.2.2.1 h0.2.2.2.2 hb) h k
theorem RunK.X {j dj : Nat} {want b : Bool} {oj : Oper} (h0 : @Eq (Option Nat × Option (Nat × Bool) × Option Oper × Option Nat × Option AV) (o.dst, o.guard, ops[j]?, oj.dst, lks sl dj) (some d, some (j, want), some oj, some dj, some (.imm (.val (.bool b))))) (hb : b = !want)
    (k : RunK P ops l (mkSt ((d, some (.imm (.val undef))) :: sl) tk n) (fun ms => K (([], .skip) :: ms))) : RunK P ops (o :: l) (mkSt sl tk n) K := by
  simp only [Prod.mk.injEq] at h0; exact .x h0.1 (by rw [h0.2.1]; exact unmet h0.2.2.1 h0.2.2.2.1 h0.2.2.2.2 hb) k
theorem RunK.N {x : Operand} {y : AV} {j dj : Nat} {want b : Bool} {oj : Oper} (h0 : @Eq (Option Nat × Option (Nat × Bool) × Option Oper × Option Nat × Option AV × Op × Option AV) (o.dst, o.guard, ops[j]?, oj.dst, lks sl dj, o.op, rd (mkSt sl tk n) x) (some d, some (j, want), some oj, some dj, some (.imm (.val (.bool b))), .move x, some y)) (hb : b = want)
    (k : RunK P ops l (mkSt ((d, some y) :: sl) tk n) (fun ms => K (([], .out ⟨some y, [], []⟩) :: ms))) : RunK P ops (o :: l) (mkSt sl tk n) K := by
  simp only [Prod.mk.injEq] at h0; exact .m h0.1 (by rw [h0.2.1]; exact met h0.2.2.1 h0.2.2.2.1 h0.2.2.2.2.1 hb) h0.2.2.2.2.2.1 h0.2.2.2.2.2.2 k
theorem RunK.G {op : BinOp} {t t' : TypeId} {x y : Operand} {k₀ : IntKind} {m m' : Int} {z : Value} {j dj : Nat} {want b : Bool} {oj : Oper} (h0 : @Eq (Option Nat × Option (Nat × Bool) × Option Oper × Option Nat × Option AV) (o.dst, o.guard, ops[j]?, oj.dst, lks sl dj) (some d, some (j, want), some oj, some dj, some (.imm (.val (.bool b))))) (hb : b = want)
    (h : @Eq (Op × Option AV × Option AV × Option Value) (o.op, rd (mkSt sl tk n) x, rd (mkSt sl tk n) y, Pm.binI op k₀ m m') (.binOp op t x y t', some (.imm (.val (.int k₀ m))), some (.imm (.val (.int k₀ m'))), some z))
    (k : RunK P ops l (mkSt ((d, some (.imm (.val z))) :: sl) tk n) (fun ms => K (([], .out ⟨some (.imm (.val z)), [], []⟩) :: ms))) : RunK P ops (o :: l) (mkSt sl tk n) K := by
  simp only [Prod.mk.injEq] at h; exact .U h0 hb (OpL.binI h.1 h.2.1 h.2.2.1 h.2.2.2) k
theorem RunK.H {s f off : Nat} {x : Operand} {p q : AV} {j dj : Nat} {want b : Bool} {oj : Oper} (hf : fieldB P s f off = true) (h0 : @Eq (Option Nat × Option (Nat × Bool) × Option Oper × Option Nat × Option AV) (o.dst, o.guard, ops[j]?, oj.dst, lks sl dj) (some d, some (j, want), some oj, some dj, some (.imm (.val (.bool b))))) (hb : b = want)
    (h : @Eq (Op × Option AV × Option AV) (o.op, rd (mkSt sl tk n) x, p.plus off) (.fieldAddr s x f, some p, some q))
    (k : RunK P ops l (mkSt ((d, some q) :: sl) tk n) (fun ms => K (([], .out ⟨some q, [], []⟩) :: ms))) : RunK P ops (o :: l) (mkSt sl tk n) K := by
  simp only [Prod.mk.injEq] at h; exact .U h0 hb (O.fld hf h.1 h.2.1 h.2.2) k
theorem RunK.T {c x y : Operand} {b : Bool} {z : AV} (hb : b = true) (h : @Eq (Option Nat × Option (Nat × Bool) × Op × Option AV × Option AV) (o.dst, o.guard, o.op, rd (mkSt sl tk n) c, rd (mkSt sl tk n) x) (some d, none, .pick c x y, some (.imm (.val (.bool b))), some z))
    (k : RunK P ops l (mkSt ((d, some z) :: sl) tk n) (fun ms => K (([], .out ⟨some z, [], []⟩) :: ms))) : RunK P ops (o :: l) (mkSt sl tk n) K := by
  simp only [Prod.mk.injEq] at h; exact .v h.1 (by rw [h.2.1]; rfl) (O.pickT hb h.2.2.1 h.2.2.2.1 h.2.2.2.2) k
theorem RunK.E {c x y : Operand} {b : Bool} {z : AV} (hb : b = false) (h : @Eq (Option Nat × Option (Nat × Bool) × Op × Option AV × Option AV) (o.dst, o.guard, o.op, rd (mkSt sl tk n) c, rd (mkSt sl tk n) y) (some d, none, .pick c x y, some (.imm (.val (.bool b))), some z))
    (k : RunK P ops l (mkSt ((d, some z) :: sl) tk n) (fun ms => K (([], .out ⟨some z, [], []⟩) :: ms))) : RunK P ops (o :: l) (mkSt sl tk n) K := by
  simp only [Prod.mk.injEq] at h; exact .v h.1 (by rw [h.2.1]; rfl) (O.pickF hb h.2.2.1 h.2.2.2.1 h.2.2.2.2) k
end
theorem lv {P : Program} {σ : St} {fn : Func} {x : X} {r : T} {y : AV} (h1 : resAs P σ fn.results.toList = some [y]) (h2 : wrapRes [y] = .imm r) : Leaves P fn [x] (.imm r) [none] .ret σ :=
  leaves (C1 := []) (Z1 := []) (.inr rfl) h1 (by rw [h2]; exact Cf.imm r) (cN .nil) rfl rfl
theorem W.cnd {P : Program} {σ : St} {c d : Code} {KK : Px → St → Prop} {x : Operand} {b : Bool} {α : Type} {m m' : Option α} {r : α} (hx : rd σ x = some (.imm (.val (.bool b)))) (h : (if b = true then m else m') = some r)
    (ht : b = true → m = some r → W P c σ KK) (hf : b = false → m' = some r → W P d σ KK) : W P (.cond x c d) σ KK := W.cond hx (fun q => ht q (ifT q h)) (fun q => hf q (ifF q h))
theorem Gm {sl sl' : List (Nat × Option AV)} {tk tk' : List (Nat × Option Tok)} {n n' : Nat} (ρ : List (Nat × Nat)) (h1 : RS (lkr ρ) n' (lks sl) sl') (h2 : RT (lkr ρ) n' (lkt tk) tk')
    (h : @Eq (Bool × Bool × Bool) (nodupB ((tk'.map (·.1)).map (lkr ρ)), ρ.all fun p => Nat.ble 1000 p.1, Nat.ble 1000 n') (true, true, true)) : Gives (mkSt sl tk n) (mkSt sl' tk' n') := by
  simp only [Prod.mk.injEq] at h; exact Gives.mkR ρ h1 h2 h.1 h.2.1 h.2.2
end Go.Pm
namespace Go.Pm
abbrev zl1 : List AV := .i 0 :: []
abbrev zl2 : List AV := .b false :: zl1
abbrev zl3 : List AV := .i 0 :: zl2
abbrev zl4 : List AV := .imm (.val (.slice none 0 0)) :: zl3
abbrev zl5 : List AV := .i 0 :: zl4
abbrev zl6 : List AV := .s [] :: zl5
abbrev zl7 : List AV := .i 0 :: zl6
abbrev zl8 : List AV := .i 0 :: zl7
abbrev zl9 : List AV := .i 0 :: zl8
abbrev zl10 : List AV := .i 0 :: zl9
abbrev zl11 : List AV := .i 0 :: zl10
abbrev zl12 : List AV := .i 0 :: zl11
abbrev zl13 : List AV := .i 0 :: zl12
abbrev zl14 : List AV := .i 0 :: zl13
abbrev zl15 : List AV := .i 0 :: zl14
abbrev zl16 : List AV := .s [] :: zl15
abbrev zl17 : List AV := .i 0 :: zl16
abbrev zl18 : List AV := .imm (.val (.slice none 0 0)) :: zl17
abbrev zl19 : List AV := .imm (.val (.slice none 0 0)) :: zl18
abbrev zl20 : List AV := .i 0 :: zl19
abbrev zl21 : List AV := .i 0 :: zl20
abbrev zl22 : List AV := .imm (.val (.slice none 0 0)) :: zl21
abbrev zl23 : List AV := .i 0 :: zl22
abbrev zl24 : List AV := .i 0 :: zl23
abbrev zl25 : List AV := .i 0 :: zl24
abbrev zl26 : List AV := .s [] :: zl25
abbrev zl27 : List AV := .i 0 :: zl26
abbrev zl28 : List AV := .i 0 :: zl27
abbrev zl29 : List AV := .s [] :: zl28
abbrev zl30 : List AV := .i 0 :: zl29
abbrev zl31 : List AV := .i 0 :: zl30
abbrev zl32 : List AV := .i 0 :: zl31
abbrev zl33 : List AV := .s [] :: zl32
abbrev zl34 : List AV := .s [] :: zl33
abbrev zl35 : List AV := .i 0 :: zl34
abbrev zl36 : List AV := .i 0 :: zl35
end Go.Pm
namespace Go.Proofs.YtbmokbkgielmmaaGreat
open Go Go.Pm
set_option linter.unusedVariables false
set_option maxRecDepth 100000
set_option maxHeartbeats 4000000
set_option linter.unusedSimpArgs false
noncomputable def name_letter.f (x0 : Int) : Option (Bool) :=
 ((
 if ((decide (x0 ≥ 97)) && (decide (x0 ≤ 122))) = true then
 some ((decide (x0 ≥ 97)) && (decide (x0 ≤ 122)))
 else some ((decide (x0 ≥ 65)) && (decide (x0 ≤ 90))) : Option (Bool))).bind fun o5 =>
 if o5 = true then
 some true
 else if ((x0 == 215) || (x0 == 247)) = true then
 some false
 else some ((decide (x0 ≥ 192)) && (decide (x0 ≤ 383)))
theorem name_letter.ok {x0 : Int} {r : Bool} (h : name_letter.f x0 = some r) : Pm.Spec prog 89 [.imm (.val (.int .i32 x0))] (.imm (.val (.bool r))) [none] := by
 unfold name_letter.f at h; refine Pm.Spec.of_body Tryz.func89 Z (by kernel_rfl) (L Z) (L Z) ?_; refine W.ghost (σ' := (mkSt [(0, some (.imm (.val (.int .i32 x0))))] [] 1000)) (Gives.entry (.c Z .n) .n) (W.seq (W.pk (.A Z (.nil (W.seq (W.block (W.seq (W.seq (W.fork (mkSt [(0, some (.imm (.val (.int .i32 x0)))), (3, some (.b ((decide (x0 ≥ 97)) && (decide (x0 ≤ 122)))))] [] 1000) ?_ ?_)))))))))
 ·obtain ⟨o5, b6, h⟩ := bnd1 h; refine W.fork (mkSt [(0, some (.imm (.val (.int .i32 x0)))), (3, some (.b o5))] [] 1000) ?_ ?_
  ·refine W.cnd Z h (fun q9 h => ?_) (fun q9 h => ?_)
   ·refine W.seq (W.pk (.A Z (.nil (W.ret ?_)))); cases h; exact lv Z Z
   ·refine W.seq (W.fork (mkSt [(0, some (.imm (.val (.int .i32 x0)))), (16, some (.b ((x0 == 215) || (x0 == 247))))] [] 1000) ?_ ?_)
    ·refine W.cnd Z h (fun q11 h => ?_) (fun q11 h => ?_)
     ·refine W.seq (W.pk (.A Z (.nil (W.ret ?_)))); cases h; exact lv Z Z
     ·refine W.skip (W.seq (W.fork (mkSt [(2, some (.b ((decide (x0 ≥ 192)) && (decide (x0 ≤ 383)))))] [] 1000) ?_ ?_))
      ·refine W.ret ?_; cases h; exact lv Z Z
      ·clear h; refine W.pk (.M Z (.B Z (.M Z ?_))); rcases tf (decide (x0 ≥ 192)) with g12 | g12
       ·exact .N Z g12 (.G Z g12 Z (.T g12 Z (.A Z (.nil (toN (Gm [] (.c Z (sbb (by simp only [g12, BL])) Z .n) .n Z))))))
       ·exact .X Z g12 (.X Z g12 (.E g12 Z (.A Z (.nil (toN (Gm [] (.c Z (sbb (by simp only [g12, BL])) Z .n) .n Z))))))
    ·clear h; refine W.pk (.M Z (.B Z (.M Z ?_))); rcases tf (x0 == 215) with g10 | g10
     ·exact .X Z g10 (.X Z g10 (.T g10 Z (.A Z (.nil (toN (Gm [] (.r Z Z (.c Z (sbb (by simp only [g10, BL])) Z .n)) .n Z))))))
     ·exact .N Z g10 (.G Z g10 Z (.E g10 Z (.A Z (.nil (toN (Gm [] (.r Z Z (.c Z (sbb (by simp only [g10, BL])) Z .n)) .n Z))))))
  ·clear h; have h := b6; refine W.cnd Z h (fun q7 h => ?_) (fun q7 h => ?_)
   ·refine W.skip ?_; cases h; exact toN (Gm [] (.e Z Z) .n Z)
   ·refine W.fork (mkSt [(0, some (.imm (.val (.int .i32 x0)))), (3, some (.b ((decide (x0 ≥ 65)) && (decide (x0 ≤ 90)))))] [] 1000) ?_ ?_
    ·cases h; exact toN (Gm [] (.e Z Z) .n Z)
    ·clear h; refine W.pk (.M Z (.B Z (.M Z ?_))); rcases tf (decide (x0 ≥ 65)) with g8 | g8
     ·exact .N Z g8 (.G Z g8 Z (.T g8 Z (.A Z (.nil (toN (Gm [] (.r Z Z (.c Z (sbb (by simp only [g8, BL])) Z .n)) .n Z))))))
     ·exact .X Z g8 (.X Z g8 (.E g8 Z (.A Z (.nil (toN (Gm [] (.r Z Z (.c Z (sbb (by simp only [g8, BL])) Z .n)) .n Z))))))
 ·clear h; refine W.pk (.M Z (.B Z (.M Z ?_))); rcases tf (decide (x0 ≥ 97)) with g1 | g1
  ·exact .N Z g1 (.G Z g1 Z (.T g1 Z (.A Z (.nil (toN (Gm [] (.r Z Z (.c Z (sbb (by simp only [g1, BL])) Z .n)) .n Z))))))
  ·exact .X Z g1 (.X Z g1 (.E g1 Z (.A Z (.nil (toN (Gm [] (.r Z Z (.c Z (sbb (by simp only [g1, BL])) Z .n)) .n Z))))))
noncomputable def name_digit.f (x0 : Int) : Option (Bool) :=
 some ((decide (x0 ≥ 48)) && (decide (x0 ≤ 57)))
theorem name_digit.ok {x0 : Int} {r : Bool} (h : name_digit.f x0 = some r) : Pm.Spec prog 90 [.imm (.val (.int .i32 x0))] (.imm (.val (.bool r))) [none] := by
 unfold name_digit.f at h; refine Pm.Spec.of_body Tryz.func90 Z (by kernel_rfl) (L Z) (L Z) ?_; refine W.ghost (σ' := (mkSt [(0, some (.imm (.val (.int .i32 x0))))] [] 1000)) (Gives.entry (.c Z .n) .n) (W.seq (W.pk (.A Z (.nil (W.seq (W.fork (mkSt [(2, some (.b ((decide (x0 ≥ 48)) && (decide (x0 ≤ 57)))))] [] 1000) ?_ ?_))))))
 ·refine W.ret ?_; cases h; exact lv Z Z
 ·clear h; refine W.pk (.M Z (.B Z (.M Z ?_))); rcases tf (decide (x0 ≥ 48)) with g1 | g1
  ·exact .N Z g1 (.G Z g1 Z (.T g1 Z (.A Z (.nil (toN (Gm [] (.c Z (sbb (by simp only [g1, BL])) Z .n) .n Z))))))
  ·exact .X Z g1 (.X Z g1 (.E g1 Z (.A Z (.nil (toN (Gm [] (.c Z (sbb (by simp only [g1, BL])) Z .n) .n Z))))))
noncomputable def name_joint.f (x0 : Int) : Option (Bool) :=
 if (x0 == 32) = true then
 if (x0 == 32) = true then
 some true
 else some false
 else if (x0 == 45) = true then
 if (x0 == 45) = true then
 some true
 else some false
 else if (x0 == 46) = true then
 if (x0 == 46) = true then
 some true
 else some false
 else if (x0 == 38) = true then
 if (x0 == 38) = true then
 some true
 else some false
 else if (x0 == 39) = true then
 some true
 else some false
theorem name_joint.ok {x0 : Int} {r : Bool} (h : name_joint.f x0 = some r) : Pm.Spec prog 91 [.imm (.val (.int .i32 x0))] (.imm (.val (.bool r))) [none] := by
 unfold name_joint.f at h; refine Pm.Spec.of_body Tryz.func91 Z (by kernel_rfl) (L Z) (L Z) ?_; refine W.ghost (σ' := (mkSt [(0, some (.imm (.val (.int .i32 x0))))] [] 1000)) (Gives.entry (.c Z .n) .n) (W.seq (W.pk (.A Z (.nil (W.seq (W.seq (W.pk (.M Z (.nil (W.block (W.seq ?_))))))))))); refine W.seq (W.pk (.B Z (.A Z (.nil (W.cnd Z h (fun q1 h => ?_) (fun q1 h => ?_))))))
 ·refine W.skip (W.cnd Z h (fun q2 h => ?_) (fun q2 h => ?_))
  ·refine W.seq (W.pk (.A Z (.nil (W.ret ?_)))); cases h; exact lv Z Z
  ·refine W.skip (W.seq (W.pk (.A Z (.nil (W.ret ?_))))); cases h; exact lv Z Z
 ·refine W.seq (W.pk (.B Z (.A Z (.nil (W.cnd Z h (fun q3 h => ?_) (fun q3 h => ?_))))))
  ·refine W.skip (W.cnd Z h (fun q4 h => ?_) (fun q4 h => ?_))
   ·refine W.seq (W.pk (.A Z (.nil (W.ret ?_)))); cases h; exact lv Z Z
   ·refine W.skip (W.seq (W.pk (.A Z (.nil (W.ret ?_))))); cases h; exact lv Z Z
  ·refine W.seq (W.pk (.B Z (.A Z (.nil (W.cnd Z h (fun q5 h => ?_) (fun q5 h => ?_))))))
   ·refine W.skip (W.cnd Z h (fun q6 h => ?_) (fun q6 h => ?_))
    ·refine W.seq (W.pk (.A Z (.nil (W.ret ?_)))); cases h; exact lv Z Z
    ·refine W.skip (W.seq (W.pk (.A Z (.nil (W.ret ?_))))); cases h; exact lv Z Z
   ·refine W.seq (W.pk (.B Z (.A Z (.nil (W.cnd Z h (fun q7 h => ?_) (fun q7 h => ?_))))))
    ·refine W.skip (W.cnd Z h (fun q8 h => ?_) (fun q8 h => ?_))
     ·refine W.seq (W.pk (.A Z (.nil (W.ret ?_)))); cases h; exact lv Z Z
     ·refine W.skip (W.seq (W.pk (.A Z (.nil (W.ret ?_))))); cases h; exact lv Z Z
    ·refine W.pk (.B Z (.A Z (.nil (W.cnd Z h (fun q9 h => ?_) (fun q9 h => ?_)))))
     ·refine W.seq (W.pk (.A Z (.nil (W.ret ?_)))); cases h; exact lv Z Z
     ·refine W.skip (W.seq (W.pk (.A Z (.nil (W.ret ?_))))); cases h; exact lv Z Z
noncomputable def name_Check.b0 (x0 : Bs) (v34 : Int) (v35 : Int) (v36 : Nat) : Option ((Int × Int × Nat) ⊕ ((Int × Int) ⊕ (Int × Int))) :=
 if (nextOk x0 v36) = true then
 if nextOk x0 v36 = true then
 if nextOk x0 v36 = true then
 if (v34 == 40) = true then
 some (.inr (.inl (((v36 : Nat) : Int), 2)))
 else (name_letter.f (nextC x0 v36)).bind fun t109 =>
 (if (!t109) = true then name_digit.f (nextC x0 v36) else some default).bind fun t111 =>
 (if ((!t109) && (!t111)) = true then name_joint.f (nextC x0 v36) else some default).bind fun t113 =>
 if (((!t109) && (!t111)) && (!t113)) = true then
 some (.inr (.inl (((v36 : Nat) : Int), 11)))
 else (if (v34 == 0) = true then name_letter.f (nextC x0 v36) else some default).bind fun t118 =>
 ((
 if ((v34 == 0) && (!t118)) = true then
 some ((v34 == 0) && (!t118))
 else (if ((nextC x0 v36) == 32) = true then name_joint.f v35 else some default).bind fun t131 =>
 some (((((nextC x0 v36) == 32) && t131) && (v35 != 46)) && (v35 != 38)) : Option (Bool))).bind fun o128 =>
 if o128 = true then
 some (.inr (.inl (((v36 : Nat) : Int), 11)))
 else some (.inl ((IntKind.wrap .i64 (v34 + 1)), (nextC x0 v36), (nextP x0 v36)))
 else none
 else none
 else some (.inr (.inr (v34, v35)))
noncomputable def name_Check.r0 (x0 : Bs) (s : Int × Int × Nat) : Option ((Int × Int × Nat) ⊕ ((Int × Int) ⊕ (Int × Int))) := name_Check.b0 x0 s.1 s.2.1 s.2.2
noncomputable def name_Check.f (x0 : Bs) : Option (Int × Int) :=
 if (decide ((List.length x0 : Int) > 160)) = true then
 some (0, 2)
 else (loop (name_Check.r0 x0) (0, 32, 0)).bind fun o102 =>
 match o102 with
 | .inl r137 => some r137
 | .inr w101 =>
 if ((w101.1 == 0) || (w101.2 == 32)) = true then
 some ((List.length x0 : Int), 11)
 else some ((List.length x0 : Int), 0)
theorem name_Check.ok {x0 : Bs} {r : Int × Int} (h : name_Check.f x0 = some r) : Pm.Spec prog 40 [.imm (.val (.string (tx x0)))] (.tup [.imm (.val (.int .i64 r.1)), .imm (.val (.int .i64 r.2))]) [none] := by
 unfold name_Check.f at h; refine Pm.Spec.of_body Tryz.func40 Z (by kernel_rfl) (L Z) (L Z) ?_; refine W.ghost (σ' := (mkSt [(0, some (.s x0))] [] 1000)) (Gives.entry (.c Z .n) .n) (W.seq (W.pk (.A Z (.A Z (.nil (W.seq (W.seq (W.pk (.M Z (.V Z (O.lenS u9 Z Z) (.B Z ?_))))))))))); refine .nil (W.cnd Z h (fun q1 h => ?_) (fun q1 h => ?_))
 ·refine W.seq (W.pk (.A Z (.A Z (.nil (W.ret ?_))))); cases h; exact leaves (.inr Z) Z (.tup _ _ _ _ (cI (cI .nil))) (cN .nil) Z Z
 ·refine W.skip (W.seq (W.pk (.A Z (.nil (W.seq (W.pk (.A Z (.nil (W.seq (W.seq (W.pk ?_))))))))))); refine .M Z (.t Z Z (O.range u9 Z Z) (.nil ?_)); obtain ⟨o102, b103, z104⟩ := bnd1 h; refine W.fork2 (out := o102) (fun (w101 : Int × Int) => mkSt [(0, some (.s x0)), (4, some (.i w101.1)), (5, some (.imm (.val (.int .i32 w101.2))))] [] 1001) ?_ ?_
  ·clear h; refine W.block (W.loopF (fun (s_ : Int × Int × Nat) => mkSt [(0, some (.s x0)), (4, some (.i s_.1)), (5, some (.imm (.val (.int .i32 s_.2.1)))), (12, some (.ptr 1000 0))] [(1000, some (.iter (tx x0) s_.2.2))] 1001) b103 (Gm [] (.e Z Z) (.r Z Z Z .n) Z) ?_); rintro ⟨v34, v35, v36⟩ s_ hr; have h : name_Check.b0 x0 v34 v35 v36 = some s_ := hr; unfold name_Check.b0 at h; refine W.seq (W.pk (.k Z Z (O.next Z Z Z) (.V Z (O.nx0 Z Z) (.nil (W.seq (W.cnd Z h (fun q105 h => ?_) (fun q105 h => ?_)))))))
   ·refine W.skip (W.block (W.seq ?_)); obtain ⟨c106, h⟩ := chk h; obtain ⟨c107, h⟩ := chk h; refine W.pk (.V Z (O.nx1 c106 Z Z) (.V Z (O.nx2 c107 Z Z) (.A Z (.A Z (.nil (W.seq (W.block (W.seq (W.pk (.M Z (.B Z ?_))))))))))); refine .A Z (.nil (W.cnd Z h (fun q108 h => ?_) (fun q108 h => ?_)))
    ·refine W.seq (W.pk (.M Z (.A Z (.A Z (.nil (W.ret ?_)))))); cases h; refine rdR fun e_ => ?_; subst e_; have h := z104; dsimp only at h; refine fkR ?_; cases h; exact leaves (.inr Z) Z (.tup _ _ _ _ (cI (cI .nil))) (cN .nil) Z Z
    ·refine W.seq ?_; obtain ⟨t109, b110, h⟩ := bnd1 h; obtain ⟨t111, b112, h⟩ := bnd1 h; obtain ⟨t113, b114, h⟩ := bnd1 h; refine W.fork (mkSt [(0, some (.s x0)), (4, some (.i v34)), (5, some (.imm (.val (.int .i32 v35)))), (6, some (.i ((v36 : Nat) : Int))), (7, some (.imm (.val (.int .i32 (nextC x0 v36))))), (12, some (.ptr 1000 0)), (21, some (.b (((!t109) && (!t111)) && (!t113))))] [(1000, some (.iter (tx x0) (nextP x0 v36)))] 1001) ?_ ?_
     ·refine W.cnd Z h (fun q117 h => ?_) (fun q117 h => ?_)
      ·refine W.seq (W.pk (.M Z (.A Z (.A Z (.nil (W.ret ?_)))))); cases h; refine rdR fun e_ => ?_; subst e_; have h := z104; dsimp only at h; refine fkR ?_; cases h; exact leaves (.inr Z) Z (.tup _ _ _ _ (cI (cI .nil))) (cN .nil) Z Z
      ·refine W.seq (W.seq ?_); obtain ⟨t118, b119, h⟩ := bnd1 h; refine W.fork (mkSt [(0, some (.s x0)), (4, some (.i v34)), (5, some (.imm (.val (.int .i32 v35)))), (6, some (.i ((v36 : Nat) : Int))), (7, some (.imm (.val (.int .i32 (nextC x0 v36))))), (12, some (.ptr 1000 0)), (36, some (.b ((v34 == 0) && (!t118))))] [(1000, some (.iter (tx x0) (nextP x0 v36)))] 1001) ?_ ?_
       ·obtain ⟨o128, b129, h⟩ := bnd1 h; refine W.fork (mkSt [(0, some (.s x0)), (4, some (.i v34)), (6, some (.i ((v36 : Nat) : Int))), (7, some (.imm (.val (.int .i32 (nextC x0 v36))))), (12, some (.ptr 1000 0)), (36, some (.b o128))] [(1000, some (.iter (tx x0) (nextP x0 v36)))] 1001) ?_ ?_
        ·refine W.cnd Z h (fun q136 h => ?_) (fun q136 h => ?_)
         ·refine W.seq (W.pk (.M Z (.A Z (.A Z (.nil (W.ret ?_)))))); cases h; refine rdR fun e_ => ?_; subst e_; have h := z104; dsimp only at h; refine fkR ?_; cases h; exact leaves (.inr Z) Z (.tup _ _ _ _ (cI (cI .nil))) (cN .nil) Z Z
         ·refine W.skip (W.seq (W.pk (.M Z (.A Z (.nil (W.pk (.M Z (.B Z (.A Z (.nil ?_)))))))))); cases h; exact rdN (Gm [] (.e Z Z) (.r Z Z Z .n) Z)
        ·clear h; have h := b129; refine W.cnd Z h (fun q130 h => ?_) (fun q130 h => ?_)
         ·refine W.skip ?_; cases h; exact toN (Gm [] (.e Z Z) (.r Z Z Z .n) Z)
         ·obtain ⟨t131, b132, h⟩ := bnd1 h; refine W.fork (mkSt [(0, some (.s x0)), (4, some (.i v34)), (6, some (.i ((v36 : Nat) : Int))), (7, some (.imm (.val (.int .i32 (nextC x0 v36))))), (12, some (.ptr 1000 0)), (36, some (.b (((((nextC x0 v36) == 32) && t131) && (v35 != 46)) && (v35 != 38))))] [(1000, some (.iter (tx x0) (nextP x0 v36)))] 1001) ?_ ?_
          ·cases h; exact toN (Gm [] (.e Z Z) (.r Z Z Z .n) Z)
          ·clear h; refine W.pk (.M Z (.B Z (.M Z ?_))); rcases tf ((nextC x0 v36) == 32) with g133 | g133
           ·refine .N Z g133 (.call (.b t131) [] 0 (name_joint.ok ((if_pos (by simp only [g133, BL])).symm.trans b132)) Z (met Z Z Z g133) Z ca91 Z Z (cI .nil) Z Z Z Z Z ?_); refine .T g133 Z (.M Z ?_); rcases tf t131 with g134 | g134
            ·refine .N Z g134 (.G Z g134 Z (.T g134 Z (.M Z ?_))); rcases tf (v35 != 46) with g135 | g135
             ·exact .N Z g135 (.G Z g135 Z (.T g135 Z (.A Z (.nil (toN (Gm [] (.r Z Z (.r Z Z (.r Z Z (.r Z Z (.r Z Z (.c Z (sbb (by simp only [g133, g134, g135, BL])) Z .n)))))) (.r Z Z Z .n) Z))))))
             ·exact .X Z g135 (.X Z g135 (.E g135 Z (.A Z (.nil (toN (Gm [] (.r Z Z (.r Z Z (.r Z Z (.r Z Z (.r Z Z (.c Z (sbb (by simp only [g133, g134, g135, BL])) Z .n)))))) (.r Z Z Z .n) Z))))))
            ·exact .X Z g134 (.X Z g134 (.E g134 Z (.M Z (.X Z Z (.X Z Z (.E Z Z (.A Z (.nil (toN (Gm [] (.r Z Z (.r Z Z (.r Z Z (.r Z Z (.r Z Z (.c Z (sbb (by simp only [g133, g134, BL])) Z .n)))))) (.r Z Z Z .n) Z))))))))))
           ·refine .X Z g133 (.X Z g133 (.E g133 Z (.M Z (.X Z Z (.X Z Z (.E Z Z (.M Z (.X Z Z (.X Z Z (.E Z Z (.A Z ?_))))))))))); exact .nil (toN (Gm [] (.r Z Z (.r Z Z (.r Z Z (.r Z Z (.r Z Z (.c Z (sbb (by simp only [g133, BL])) Z .n)))))) (.r Z Z Z .n) Z))
       ·clear h; refine W.pk (.M Z (.B Z (.M Z ?_))); rcases tf (v34 == 0) with g120 | g120
        ·refine .N Z g120 (.call (.b t118) [] 0 (name_letter.ok ((if_pos (by simp only [g120, BL])).symm.trans b119)) Z (met Z Z Z g120) Z ca89 Z Z (cI .nil) Z Z Z Z Z ?_); exact .U Z g120 (OpL.unV Z Z Z) (.T g120 Z (.A Z (.nil (toN (Gm [] (.r Z Z (.r Z Z (.r Z Z (.r Z Z (.r Z Z (.r Z Z (.c Z (sbb (by simp only [g120, BL])) Z .n))))))) (.r Z Z Z .n) Z)))))
        ·(iterate 3 refine .X Z g120 ?_); exact .E g120 Z (.A Z (.nil (toN (Gm [] (.r Z Z (.r Z Z (.r Z Z (.r Z Z (.r Z Z (.r Z Z (.c Z (sbb (by simp only [g120, BL])) Z .n))))))) (.r Z Z Z .n) Z))))
     ·clear h; refine W.pk (.M Z (.C (.b t109) [] 0 (name_letter.ok b110) ca89 Z (cI .nil) Z ?_)); refine .V Z (OpL.unV Z Z Z) (.M Z ?_); rcases tf t109 with g115 | g115
      ·(iterate 3 refine .X Z (notT g115) ?_); exact .E (notT g115) Z (.M Z (.X Z Z (.X Z Z (.X Z Z (.E Z Z (.A Z (.nil (toN (Gm [] (.r Z Z (.r Z Z (.r Z Z (.r Z Z (.r Z Z (.r Z Z (.c Z (sbb (by simp only [g115, BL])) Z .n))))))) (.r Z Z Z .n) Z)))))))))
      ·refine .N Z (notF g115) (.call (.b t111) [] 0 (name_digit.ok ((if_pos (by simp only [g115, BL])).symm.trans b112)) Z (met Z Z Z (notF g115)) Z ca90 Z Z (cI .nil) Z Z Z Z Z ?_); refine .U Z (notF g115) (OpL.unV Z Z Z) (.T (notF g115) Z (.M Z ?_)); rcases tf t111 with g116 | g116
       ·(iterate 3 refine .X Z (notT g116) ?_); exact .E (notT g116) Z (.A Z (.nil (toN (Gm [] (.r Z Z (.r Z Z (.r Z Z (.r Z Z (.r Z Z (.r Z Z (.c Z (sbb (by simp only [g115, g116, BL])) Z .n))))))) (.r Z Z Z .n) Z))))
       ·refine .N Z (notF g116) (.call (.b t113) [] 0 (name_joint.ok ((if_pos (by simp only [g115, g116, BL])).symm.trans b114)) Z (met Z Z Z (notF g116)) Z ca91 Z Z (cI .nil) Z Z Z Z Z ?_); exact .U Z (notF g116) (OpL.unV Z Z Z) (.T (notF g116) Z (.A Z (.nil (toN (Gm [] (.r Z Z (.r Z Z (.r Z Z (.r Z Z (.r Z Z (.r Z Z (.c Z (sbb (by simp only [g115, g116, BL])) Z .n))))))) (.r Z Z Z .n) Z)))))
   ·refine W.exit ?_; cases h; refine rdX fun e_ => ?_; subst e_; (repeat with_reducible refine thru ?_); exact hit (fkN (Gm [] (.e Z Z) .n Z))
  ·intro w101 e_; subst e_; clear h; have h := z104; dsimp only at h; refine W.seq (W.seq (W.fork (mkSt [(0, some (.s x0)), (67, some (.b ((w101.1 == 0) || (w101.2 == 32))))] [] 1001) ?_ ?_))
   ·refine W.cnd Z h (fun q139 h => ?_) (fun q139 h => ?_)
    ·refine W.seq (W.pk (.M Z (.V Z (O.lenS u9 Z Z) (.A Z (.A Z (.nil (W.ret ?_))))))); cases h; exact leaves (.inr Z) Z (.tup _ _ _ _ (cI (cI .nil))) (cN .nil) Z Z
    ·refine W.skip (W.seq (W.pk (.M Z (.V Z (O.lenS u9 Z Z) (.A Z (.A Z (.nil (W.ret ?_)))))))); cases h; exact leaves (.inr Z) Z (.tup _ _ _ _ (cI (cI .nil))) (cN .nil) Z Z
   ·clear h; refine W.pk (.M Z (.B Z (.M Z ?_))); rcases tf (w101.1 == 0) with g138 | g138
    ·exact .X Z g138 (.X Z g138 (.T g138 Z (.nil (toN (Gm [] (.r Z Z (.c Z (sbb (by simp only [g138, BL])) Z .n)) .n Z)))))
    ·exact .N Z g138 (.G Z g138 Z (.E g138 Z (.nil (toN (Gm [] (.r Z Z (.c Z (sbb (by simp only [g138, BL])) Z .n)) .n Z)))))
noncomputable def msg_member.f (x0 : Int) : Option (Bool) :=
 some ((decide (x0 ≥ 1)) && (decide (x0 ≤ 32)))
theorem msg_member.ok {x0 : Int} {r : Bool} (h : msg_member.f x0 = some r) : Pm.Spec prog 41 [.imm (.val (.int .i64 x0))] (.imm (.val (.bool r))) [none] := by
 unfold msg_member.f at h; refine Pm.Spec.of_body Tryz.func41 Z (by kernel_rfl) (L Z) (L Z) ?_; refine W.ghost (σ' := (mkSt [(0, some (.i x0))] [] 1000)) (Gives.entry (.c Z .n) .n) (W.seq (W.pk (.A Z (.nil (W.seq (W.fork (mkSt [(2, some (.b ((decide (x0 ≥ 1)) && (decide (x0 ≤ 32)))))] [] 1000) ?_ ?_))))))
 ·refine W.ret ?_; cases h; exact lv Z Z
 ·clear h; refine W.pk (.M Z (.B Z (.M Z ?_))); rcases tf (decide (x0 ≥ 1)) with g1 | g1
  ·exact .N Z g1 (.G Z g1 Z (.T g1 Z (.A Z (.nil (toN (Gm [] (.c Z (sbb (by simp only [g1, BL])) Z .n) .n Z))))))
  ·exact .X Z g1 (.X Z g1 (.E g1 Z (.A Z (.nil (toN (Gm [] (.c Z (sbb (by simp only [g1, BL])) Z .n) .n Z))))))
noncomputable def isin_digit.f (x0 : Int) : Option (Bool) :=
 some ((decide (x0 ≥ 48)) && (decide (x0 ≤ 57)))
theorem isin_digit.ok {x0 : Int} {r : Bool} (h : isin_digit.f x0 = some r) : Pm.Spec prog 93 [.imm (.val (.int .u8 x0))] (.imm (.val (.bool r))) [none] := by
 unfold isin_digit.f at h; refine Pm.Spec.of_body Tryz.func93 Z (by kernel_rfl) (L Z) (L Z) ?_; refine W.ghost (σ' := (mkSt [(0, some (.imm (.val (.int .u8 x0))))] [] 1000)) (Gives.entry (.c Z .n) .n) (W.seq (W.pk (.A Z (.nil (W.seq (W.fork (mkSt [(2, some (.b ((decide (x0 ≥ 48)) && (decide (x0 ≤ 57)))))] [] 1000) ?_ ?_))))))
 ·refine W.ret ?_; cases h; exact lv Z Z
 ·clear h; refine W.pk (.M Z (.B Z (.M Z ?_))); rcases tf (decide (x0 ≥ 48)) with g1 | g1
  ·exact .N Z g1 (.G Z g1 Z (.T g1 Z (.A Z (.nil (toN (Gm [] (.c Z (sbb (by simp only [g1, BL])) Z .n) .n Z))))))
  ·exact .X Z g1 (.X Z g1 (.E g1 Z (.A Z (.nil (toN (Gm [] (.c Z (sbb (by simp only [g1, BL])) Z .n) .n Z))))))
noncomputable def isin_upper.f (x0 : Int) : Option (Bool) :=
 some ((decide (x0 ≥ 65)) && (decide (x0 ≤ 90)))
theorem isin_upper.ok {x0 : Int} {r : Bool} (h : isin_upper.f x0 = some r) : Pm.Spec prog 119 [.imm (.val (.int .u8 x0))] (.imm (.val (.bool r))) [none] := by
 unfold isin_upper.f at h; refine Pm.Spec.of_body Tryz.func119 Z (by kernel_rfl) (L Z) (L Z) ?_; refine W.ghost (σ' := (mkSt [(0, some (.imm (.val (.int .u8 x0))))] [] 1000)) (Gives.entry (.c Z .n) .n) (W.seq (W.pk (.A Z (.nil (W.seq (W.fork (mkSt [(2, some (.b ((decide (x0 ≥ 65)) && (decide (x0 ≤ 90)))))] [] 1000) ?_ ?_))))))
 ·refine W.ret ?_; cases h; exact lv Z Z
 ·clear h; refine W.pk (.M Z (.B Z (.M Z ?_))); rcases tf (decide (x0 ≥ 65)) with g1 | g1
  ·exact .N Z g1 (.G Z g1 Z (.T g1 Z (.A Z (.nil (toN (Gm [] (.c Z (sbb (by simp only [g1, BL])) Z .n) .n Z))))))
  ·exact .X Z g1 (.X Z g1 (.E g1 Z (.A Z (.nil (toN (Gm [] (.c Z (sbb (by simp only [g1, BL])) Z .n) .n Z))))))
noncomputable def isin_shape.b0 (x0 : Bs) (v11 : Int) : Option (Int ⊕ (Bool ⊕ Unit)) :=
 if (decide (v11 < (List.length x0 : Int))) = true then
 if (0 : Int) ≤ v11 ∧ v11 < (List.length x0 : Int) then
 (isin_upper.f (byte x0 v11)).bind fun t38 =>
 if ((!t38) = true ∧ (decide (v11 < 2)) = false → (0 : Int) ≤ v11 ∧ v11 < (List.length x0 : Int)) then
 (if (!t38) = true ∧ (decide (v11 < 2)) = false then isin_digit.f (byte x0 v11) else some default).bind fun t41 =>
 if ((!t38) && ((decide (v11 < 2)) || (!t41))) = true then
 some (.inr (.inl false))
 else some (.inl (IntKind.wrap .i64 (v11 + 1)))
 else none
 else none
 else some (.inr (.inr ()))
noncomputable def isin_shape.r0 (x0 : Bs) (s : Int) : Option (Int ⊕ (Bool ⊕ Unit)) := isin_shape.b0 x0 s
noncomputable def isin_shape.f (x0 : Bs) : Option (Bool) :=
 (loop (isin_shape.r0 x0) 0).bind fun o33 =>
 match o33 with
 | .inl r46 => some r46
 | .inr w32 =>
 some ((List.length x0 : Int) == 11)
theorem isin_shape.ok {x0 : Bs} {r : Bool} (h : isin_shape.f x0 = some r) : Pm.Spec prog 110 [.imm (.val (.string (tx x0)))] (.imm (.val (.bool r))) [none] := by
 unfold isin_shape.f at h; refine Pm.Spec.of_body Tryz.func110 Z (by kernel_rfl) (L Z) (L Z) ?_; refine W.ghost (σ' := (mkSt [(0, some (.s x0))] [] 1000)) (Gives.entry (.c Z .n) .n) (W.seq (W.pk (.A Z (.nil (W.seq (W.seq (W.pk (.M Z (.V Z (O.lenS u9 Z Z) (.M Z (.nil ?_))))))))))); obtain ⟨o33, b34, z35⟩ := bnd1 h; refine W.fork2 (out := o33) (fun (w32 : Unit) => mkSt [(0, some (.s x0))] [] 1000) ?_ ?_
 ·clear h; refine W.block (W.loopF (fun (s_ : Int) => mkSt [(0, some (.s x0)), (5, some (.i (List.length x0 : Int))), (6, some (.i s_))] [] 1000) b34 (Gm [] (.e Z Z) .n Z) ?_); rintro v11 s_ hr; have h : isin_shape.b0 x0 v11 = some s_ := hr; unfold isin_shape.b0 at h; refine W.seq (W.pk (.B Z (.nil (W.seq (W.cnd Z h (fun q36 h => ?_) (fun q36 h => ?_))))))
  ·refine W.skip (W.seq (W.block (W.seq (W.pk (.M Z (.A Z (.nil (W.seq ?_)))))))); obtain ⟨c37, h⟩ := chk h; obtain ⟨t38, b39, h⟩ := bnd1 h; obtain ⟨c40, h⟩ := chk h; obtain ⟨t41, b42, h⟩ := bnd1 h; refine W.fork (mkSt [(0, some (.s x0)), (5, some (.i (List.length x0 : Int))), (6, some (.i v11)), (24, some (.b ((!t38) && ((decide (v11 < 2)) || (!t41)))))] [] 1000) ?_ ?_
   ·refine W.cnd Z h (fun q45 h => ?_) (fun q45 h => ?_)
    ·refine W.seq (W.pk (.A Z (.nil (W.ret ?_)))); cases h; refine rdR fun e_ => ?_; subst e_; have h := z35; dsimp only at h; refine fkR ?_; cases h; exact lv Z Z
    ·refine W.skip (W.pk (.B Z (.M Z (.nil ?_)))); cases h; exact rdN (Gm [] (.e Z Z) .n Z)
   ·clear h; refine W.pk (.M Z (.M Z (.V Z (O.idxS u9 c37 Z Z Z) (.C (.b t38) [] 0 (isin_upper.ok b39) ca119 Z (cI .nil) Z ?_)))); refine .V Z (OpL.unV Z Z Z) (.M Z ?_); rcases tf t38 with g43 | g43
    ·(iterate 3 refine .X Z (notT g43) ?_); (iterate 5 refine .x Z (unmetU Z Z Z) ?_); exact .X Z (notT g43) (.E (notT g43) Z (.nil (toN (Gm [] (.r Z Z (.r Z Z (.r Z Z (.c Z (sbb (by simp only [g43, BL])) Z .n)))) .n Z))))
    ·refine .N Z (notF g43) (.G Z (notF g43) Z (.N Z (notF g43) ?_)); rcases tf (decide (v11 < 2)) with g44 | g44
     ·(iterate 5 refine .X Z g44 ?_); exact .U Z (notF g43) (O.pickT g44 Z Z Z) (.T (notF g43) Z (.nil (toN (Gm [] (.r Z Z (.r Z Z (.r Z Z (.c Z (sbb (by simp only [g43, g44, BL])) Z .n)))) .n Z))))
     ·refine .N Z g44 (.N Z g44 (.U Z g44 (O.idxS u9 (c40 ⟨(by simp only [g43, g44, BL]), (by simp only [g43, g44, BL])⟩) Z Z Z) ?_)); refine .call (.b t41) [] 0 (isin_digit.ok ((if_pos ⟨(by simp only [g43, g44, BL]), (by simp only [g43, g44, BL])⟩).symm.trans b42)) Z (met Z Z Z g44) Z ca93 Z Z (cI .nil) Z Z Z Z Z ?_; exact .U Z g44 (OpL.unV Z Z Z) (.U Z (notF g43) (O.pickF g44 Z Z Z) (.T (notF g43) Z (.nil (toN (Gm [] (.r Z Z (.r Z Z (.r Z Z (.c Z (sbb (by simp only [g43, g44, BL])) Z .n)))) .n Z)))))
  ·refine W.exit ?_; cases h; refine rdX fun e_ => ?_; subst e_; (repeat with_reducible refine thru ?_); exact hit (fkN (Gm [] (.r Z Z .n) .n Z))
 ·intro w32 e_; subst e_; clear h; have h := z35; dsimp only at h; refine W.seq (W.pk (.M Z (.V Z (O.lenS u9 Z Z) (.B Z (.A Z (.nil (W.ret ?_))))))); cases h; exact lv Z Z
noncomputable def isin_total_1.f (x0 : Int) (x1 : Bool) (x2 : Int) : Option (Bool × Int) :=
 if x1 = true then
 some ((!x1), (IntKind.wrap .i64 (x2 + (IntKind.wrap .i64 ((IntKind.wrap .i64 (Int.tdiv (IntKind.wrap .i64 (x0 * 2)) 10)) + (Int.tmod (IntKind.wrap .i64 (x0 * 2)) 10))))))
 else some ((!x1), (IntKind.wrap .i64 (x2 + x0)))
theorem isin_total_1.ok {x0 : Int} {x1 : Bool} {x2 : Int} {r : Bool × Int} (h : isin_total_1.f x0 x1 x2 = some r) : Pm.Spec prog 120 [.imm (.val (.int .i64 x0)), .xbox [.imm (.val (.bool x1))], .xbox [.imm (.val (.int .i64 x2))]] (.tup []) [none, some (.xbox [.imm (.val (.bool r.1))]), some (.xbox [.imm (.val (.int .i64 r.2))])] := by
 unfold isin_total_1.f at h; refine Pm.Spec.of_body Tryz.func120 Z (by kernel_rfl) (L Z) (L Z) ?_; refine W.ghost (σ' := (mkSt [(0, some (.i x0)), (1, some (.ptr 0 0)), (2, some (.ptr 1 0))] [(0, some (.box [.b x1])), (1, some (.box [.i x2]))] 1000)) (Gives.entry (.c Z (.c Z (.c Z .n))) (.c Z (.c Z .n))) (W.seq (W.seq (W.pk (.V Z (O.ld (y := .b x1) ty4 Z Z Z) (.nil (W.cnd Z h (fun q1 h => ?_) (fun q1 h => ?_)))))))
 ·refine W.seq (W.pk (.M Z (.B Z (.A Z (.nil (W.pk (.M Z (.V Z (O.quo Z Z Z (by decide)) ?_)))))))); refine .M Z (.V Z (O.rem Z Z Z (by decide)) ?_); refine .B Z (.A Z (.nil (W.seq (W.pk (.V Z (O.ld (y := .i x2) ty3 Z Z Z) (.M Z (.B Z (.S ty3 Z [.i (IntKind.wrap .i64 (x2 + (IntKind.wrap .i64 ((IntKind.wrap .i64 (Int.tdiv (IntKind.wrap .i64 (x0 * 2)) 10)) + (Int.tmod (IntKind.wrap .i64 (x0 * 2)) 10)))))] Z (.nil (W.pk (.V Z (O.ld (y := .b x1) ty4 Z Z Z) ?_))))))))))); refine .V Z (OpL.unV Z Z Z) (.S ty4 Z [.b (!x1)] Z (.nil ?_)); cases h; exact leaves (.inl Z) Z (.tup _ _ _ _ .nil) (cN (cS (.ptr _ _ _ _ _ Z (cI .nil)) (cS (.ptr _ _ _ _ _ Z (cI .nil)) .nil))) Z Z
 ·refine W.skip (W.seq (W.pk (.V Z (O.ld (y := .i x2) ty3 Z Z Z) (.M Z (.B Z (.S ty3 Z [.i (IntKind.wrap .i64 (x2 + x0))] Z (.nil (W.pk (.V Z (O.ld (y := .b x1) ty4 Z Z Z) (.V Z (OpL.unV Z Z Z) (.S ty4 Z [.b (!x1)] Z ?_))))))))))); refine .nil ?_; cases h; exact leaves (.inl Z) Z (.tup _ _ _ _ .nil) (cN (cS (.ptr _ _ _ _ _ Z (cI .nil)) (cS (.ptr _ _ _ _ _ Z (cI .nil)) .nil))) Z Z
noncomputable def isin_total.b0 (x0 : Bs) (v14 : Int) (v15 : Bool) (v16 : Int) : Option ((Int × Bool × Int) ⊕ Int) :=
 if (decide (v14 ≥ 0)) = true then
 if (0 : Int) ≤ v14 ∧ v14 < (List.length x0 : Int) then
 (isin_digit.f (byte x0 v14)).bind fun t49 =>
 if t49 = true then
 if (0 : Int) ≤ v14 ∧ v14 < (List.length x0 : Int) then
 (isin_total_1.f (IntKind.wrap .i64 (IntKind.wrap .u8 ((byte x0 v14) - 48))) v15 v16).bind fun t53 =>
 some (.inl ((IntKind.wrap .i64 (v14 - 1)), t53.1, t53.2))
 else none
 else if (0 : Int) ≤ v14 ∧ v14 < (List.length x0 : Int) then
 (isin_total_1.f (Int.tmod (IntKind.wrap .i64 ((IntKind.wrap .i64 (IntKind.wrap .u8 ((byte x0 v14) - 65))) + 10)) 10) v15 v16).bind fun t56 =>
 (isin_total_1.f (IntKind.wrap .i64 (Int.tdiv (IntKind.wrap .i64 ((IntKind.wrap .i64 (IntKind.wrap .u8 ((byte x0 v14) - 65))) + 10)) 10)) t56.1 t56.2).bind fun t58 =>
 some (.inl ((IntKind.wrap .i64 (v14 - 1)), t58.1, t58.2))
 else none
 else none
 else some (.inr v16)
noncomputable def isin_total.r0 (x0 : Bs) (s : Int × Bool × Int) : Option ((Int × Bool × Int) ⊕ Int) := isin_total.b0 x0 s.1 s.2.1 s.2.2
noncomputable def isin_total.f (x0 : Bs) (x1 : Bool) : Option (Int) :=
 (loop (isin_total.r0 x0) ((IntKind.wrap .i64 ((List.length x0 : Int) - 1)), x1, 0)).bind fun o44 =>
 some o44
theorem isin_total.ok {x0 : Bs} {x1 : Bool} {r : Int} (h : isin_total.f x0 x1 = some r) : Pm.Spec prog 111 [.imm (.val (.string (tx x0))), .imm (.val (.bool x1))] (.imm (.val (.int .i64 r))) [none, none] := by
 unfold isin_total.f at h; refine Pm.Spec.of_body Tryz.func111 Z (by kernel_rfl) (L Z) (L Z) ?_; refine W.ghost (σ' := (mkSt [(0, some (.s x0)), (1, some (.b x1))] [] 1000)) (Gives.entry (.c Z (.c Z .n)) .n) (W.seq (W.pk (.t Z Z (O.box Z Z Z Z Z) (.A Z (.nil (W.seq (W.pk (.t Z Z (O.alloc z3 Z) (.S ty3 Z [.i 0] Z (.nil (W.seq ?_))))))))))); refine W.pk (.V Z (OpL.mkfn Z Z) (.A Z (.nil (W.seq (W.seq (W.pk (.M Z (.V Z (O.lenS u9 Z Z) (.B Z (.A Z (.nil ?_))))))))))); obtain ⟨o44, b45, h⟩ := bnd1 h; refine W.fork (mkSt [(5, some (.ptr 1001 0))] [(1001, some (.box [.i o44]))] 1002) ?_ ?_
 ·refine W.seq (W.pk (.V Z (O.ld (y := .i o44) ty3 Z Z Z) (.A Z (.nil (W.ret ?_))))); cases h; exact leaves (.inr Z) Z (.imm _) (cN (cN .nil)) Z Z
 ·clear h; refine W.block (W.loopF (fun (s_ : Int × Bool × Int) => mkSt [(0, some (.s x0)), (5, some (.ptr 1001 0)), (6, some (.fn 120 [.ptr 1000 0, .ptr 1001 0])), (7, some (.i s_.1))] [(1000, some (.box [.b s_.2.1])), (1001, some (.box [.i s_.2.2]))] 1002) b45 (Gm [] (.e Z Z) (.e Z Z) Z) ?_); rintro ⟨v14, v15, v16⟩ s_ hr; have h : isin_total.b0 x0 v14 v15 v16 = some s_ := hr; unfold isin_total.b0 at h; refine W.seq (W.seq (W.pk (.M Z (.B Z (.nil (W.cnd Z h (fun q47 h => ?_) (fun q47 h => ?_)))))))
  ·refine W.skip (W.seq (W.block (W.seq (W.seq ?_)))); obtain ⟨c48, h⟩ := chk h; obtain ⟨t49, b50, h⟩ := bnd1 h; refine W.pk (.M Z (.M Z (.V Z (O.idxS u9 c48 Z Z Z) (.C (.b t49) [] 0 (isin_digit.ok b50) ca93 Z (cI .nil) Z ?_)))); refine .nil (W.cnd Z h (fun q51 h => ?_) (fun q51 h => ?_))
   ·refine W.seq ?_; obtain ⟨c52, h⟩ := chk h; obtain ⟨t53, b54, h⟩ := bnd1 h; refine W.pk (.M Z (.M Z (.M Z (.V Z (O.idxS u9 c52 Z Z Z) (.B Z (.V Z (O.conv h5 u3 Z Z) (.C (.tup []) [(1000, some (.box [.b t53.1])), (1001, some (.box [.i t53.2])), (1000, none), (1001, none)] 0 (isin_total_1.ok b54) ca120 Z (cI (cC (.ptr _ _ _ _ _ Z (cI .nil)) (cC (.ptr _ _ _ _ _ Z (cI .nil)) .nil))) Z ?_))))))); refine .nil (W.exit ?_); (repeat with_reducible refine thru ?_); refine hit (W.pk (.M Z (.B Z (.A Z (.nil ?_))))); cases h; exact rdN (Gm [] (.e Z Z) (.e Z Z) Z)
   ·refine W.skip (W.seq ?_); obtain ⟨c55, h⟩ := chk h; refine W.pk (.M Z (.M Z (.V Z (O.idxS u9 c55 Z Z Z) (.B Z (.V Z (O.conv h5 u3 Z Z) (.B Z (.A Z (.nil (W.seq ?_))))))))); obtain ⟨t56, b57, h⟩ := bnd1 h; refine W.pk (.M Z (.M Z (.V Z (O.rem Z Z Z (by decide)) ?_))); refine .C (.tup []) [(1000, some (.box [.b t56.1])), (1001, some (.box [.i t56.2])), (1000, none), (1001, none)] 0 (isin_total_1.ok b57) ca120 Z (cI (cC (.ptr _ _ _ _ _ Z (cI .nil)) (cC (.ptr _ _ _ _ _ Z (cI .nil)) .nil))) Z ?_; refine .nil ?_; obtain ⟨t58, b59, h⟩ := bnd1 h; refine W.pk (.M Z (.M Z (.V Z (O.quo Z Z Z (by decide)) ?_))); refine .C (.tup []) [(1000, some (.box [.b t58.1])), (1001, some (.box [.i t58.2])), (1000, none), (1001, none)] 0 (isin_total_1.ok b59) ca120 Z (cI (cC (.ptr _ _ _ _ _ Z (cI .nil)) (cC (.ptr _ _ _ _ _ Z (cI .nil)) .nil))) Z ?_; refine .nil (W.pk (.M Z (.B Z (.A Z (.nil ?_))))); cases h; exact rdN (Gm [] (.e Z Z) (.e Z Z) Z)
  ·refine W.exit ?_; cases h; refine rdX fun e_ => ?_; subst e_; (repeat with_reducible refine thru ?_); exact hit (toN (Gm [] (.r Z Z .n) (.r Z Z Z .n) Z))
noncomputable def isin_Digit.f (x0 : Bs) : Option (Int × Int) :=
 (isin_shape.f x0).bind fun t1 =>
 if (!t1) = true then
 some (0, 11)
 else (isin_total.f x0 true).bind fun t4 =>
 some ((IntKind.wrap .u8 (IntKind.wrap .i64 (48 + (Int.tmod (IntKind.wrap .i64 (10 - (Int.tmod t4 10))) 10)))), 0)
theorem isin_Digit.ok {x0 : Bs} {r : Int × Int} (h : isin_Digit.f x0 = some r) : Pm.Spec prog 94 [.imm (.val (.string (tx x0)))] (.tup [.imm (.val (.int .u8 r.1)), .imm (.val (.int .i64 r.2))]) [none] := by
 unfold isin_Digit.f at h; refine Pm.Spec.of_body Tryz.func94 Z (by kernel_rfl) (L Z) (L Z) ?_; refine W.ghost (σ' := (mkSt [(0, some (.s x0))] [] 1000)) (Gives.entry (.c Z .n) .n) (W.seq (W.pk (.A Z (.A Z (.nil (W.seq (W.seq ?_))))))); obtain ⟨t1, b2, h⟩ := bnd1 h; refine W.pk (.M Z (.C (.b t1) [] 0 (isin_shape.ok b2) ca110 Z (cI .nil) Z ?_)); refine .V Z (OpL.unV Z Z Z) (.nil (W.cnd Z h (fun q3 h => ?_) (fun q3 h => ?_)))
 ·refine W.seq (W.pk (.A Z (.A Z (.nil (W.ret ?_))))); cases h; exact leaves (.inr Z) Z (.tup _ _ _ _ (cI (cI .nil))) (cN .nil) Z Z
 ·refine W.skip (W.seq ?_); obtain ⟨t4, b5, h⟩ := bnd1 h; refine W.pk (.M Z (.C (.i t4) [] 0 (isin_total.ok b5) ca111 Z (cI (cI .nil)) Z ?_)); refine .V Z (O.rem Z Z Z (by decide)) ?_; refine .B Z (.V Z (O.rem Z Z Z (by decide)) ?_); refine .B Z (.V Z (O.conv h3 u5 Z Z) (.A Z (.A Z (.nil (W.ret ?_))))); cases h; exact leaves (.inr Z) Z (.tup _ _ _ _ (cI (cI .nil))) (cN .nil) Z Z
noncomputable def isin_Check.f (x0 : Bs) : Option (Int) :=
 if (((List.length x0 : Int) != 12) = false → (0 : Int) ≤ 11 ∧ 11 < (List.length x0 : Int)) then
 (if ((List.length x0 : Int) != 12) = false then isin_digit.f (byte x0 11) else some default).bind fun t2 =>
 if (((List.length x0 : Int) != 12) || (!t2)) = true then
 some 11
 else if (0 : Int) ≤ 0 ∧ (0 : Int) ≤ 11 ∧ 11 ≤ (List.length x0 : Int) then
 (isin_Digit.f (List.take (Int.toNat 11 - Int.toNat 0) (List.drop (Int.toNat 0) x0))).bind fun t7 =>
 if ((t7.2 == 0) = true → (0 : Int) ≤ 11 ∧ 11 < (List.length x0 : Int)) then
 if ((t7.2 == 0) && (t7.1 != (byte x0 11))) = true then
 some 12
 else some t7.2
 else none
 else none
 else none
theorem isin_Check.ok {x0 : Bs} {r : Int} (h : isin_Check.f x0 = some r) : Pm.Spec prog 49 [.imm (.val (.string (tx x0)))] (.imm (.val (.int .i64 r))) [none] := by
 unfold isin_Check.f at h; refine Pm.Spec.of_body Tryz.func49 Z (by kernel_rfl) (L Z) (L Z) ?_; refine W.ghost (σ' := (mkSt [(0, some (.s x0))] [] 1000)) (Gives.entry (.c Z .n) .n) (W.seq (W.pk (.A Z (.nil (W.seq (W.seq ?_)))))); obtain ⟨c1, h⟩ := chk h; obtain ⟨t2, b3, h⟩ := bnd1 h; refine W.fork (mkSt [(0, some (.s x0)), (13, some (.b (((List.length x0 : Int) != 12) || (!t2))))] [] 1000) ?_ ?_
 ·refine W.cnd Z h (fun q5 h => ?_) (fun q5 h => ?_)
  ·refine W.seq (W.pk (.A Z (.nil (W.ret ?_)))); cases h; exact lv Z Z
  ·refine W.skip (W.seq ?_); obtain ⟨c6, h⟩ := chk h; obtain ⟨t7, b8, h⟩ := bnd1 h; refine W.pk (.M Z (.V Z (O.partS u9 c6 Z Z Z Z) (.C (.tup [.imm (.val (.int .u8 t7.1)), .i t7.2]) [] 0 (isin_Digit.ok b8) ca94 Z (cI .nil) Z ?_))); refine .M Z ?_; (iterate 2 refine .V Z (OpL.extract Z Z Z) ?_); refine .A Z (.A Z (.nil (W.seq (W.seq ?_)))); obtain ⟨c9, h⟩ := chk h; refine W.fork (mkSt [(4, some (.i t7.2)), (27, some (.b ((t7.2 == 0) && (t7.1 != (byte x0 11)))))] [] 1000) ?_ ?_
   ·refine W.cnd Z h (fun q11 h => ?_) (fun q11 h => ?_)
    ·refine W.pk (.A Z (.nil (W.seq (W.pk (.M Z (.A Z (.nil (W.ret ?_)))))))); cases h; exact lv Z Z
    ·refine W.skip (W.seq (W.pk (.M Z (.A Z (.nil (W.ret ?_)))))); cases h; exact lv Z Z
   ·clear h; refine W.pk (.M Z (.B Z (.M Z ?_))); rcases tf (t7.2 == 0) with g10 | g10
    ·refine .N Z g10 (.N Z g10 (.U Z g10 (O.idxS u9 (c9 (by simp only [g10, BL])) Z Z Z) ?_)); exact .G Z g10 Z (.T g10 Z (.nil (toN (Gm [] (.r Z Z (.c Z (sbb (by simp only [g10, BL])) Z .n)) .n Z))))
    ·(iterate 4 refine .X Z g10 ?_); exact .E g10 Z (.nil (toN (Gm [] (.r Z Z (.c Z (sbb (by simp only [g10, BL])) Z .n)) .n Z)))
 ·clear h; refine W.pk (.M Z (.V Z (O.lenS u9 Z Z) (.B Z (.M Z ?_)))); rcases tf ((List.length x0 : Int) != 12) with g4 | g4
  ·(iterate 4 refine .X Z g4 ?_); exact .T g4 Z (.nil (toN (Gm [] (.r Z Z (.c Z (sbb (by simp only [g4, BL])) Z .n)) .n Z)))
  ·refine .N Z g4 (.U Z g4 (O.idxS u9 (c1 (by simp only [g4, BL])) Z Z Z) ?_); refine .call (.b t2) [] 0 (isin_digit.ok ((if_pos (by simp only [g4, BL])).symm.trans b3)) Z (met Z Z Z g4) Z ca93 Z Z (cI .nil) Z Z Z Z Z ?_; exact .U Z g4 (OpL.unV Z Z Z) (.E g4 Z (.nil (toN (Gm [] (.r Z Z (.c Z (sbb (by simp only [g4, BL])) Z .n)) .n Z))))
noncomputable def isin_Currency.f (x0 : Bs) : Option (Bool) :=
 if (x0 == [69, 85, 82]) = true then
 if (x0 == [69, 85, 82]) = true then
 some true
 else some false
 else if (x0 == [85, 83, 68]) = true then
 if (x0 == [85, 83, 68]) = true then
 some true
 else some false
 else if (x0 == [71, 66, 80]) = true then
 if (x0 == [71, 66, 80]) = true then
 some true
 else some false
 else if (x0 == [67, 72, 70]) = true then
 if (x0 == [67, 72, 70]) = true then
 some true
 else some false
 else if (x0 == [74, 80, 89]) = true then
 if (x0 == [74, 80, 89]) = true then
 some true
 else some false
 else if (x0 == [83, 69, 75]) = true then
 if (x0 == [83, 69, 75]) = true then
 some true
 else some false
 else if (x0 == [78, 79, 75]) = true then
 if (x0 == [78, 79, 75]) = true then
 some true
 else some false
 else if (x0 == [68, 75, 75]) = true then
 some true
 else some false
theorem isin_Currency.ok {x0 : Bs} {r : Bool} (h : isin_Currency.f x0 = some r) : Pm.Spec prog 47 [.imm (.val (.string (tx x0)))] (.imm (.val (.bool r))) [none] := by
 unfold isin_Currency.f at h; refine Pm.Spec.of_body Tryz.func47 Z (by kernel_rfl) (L Z) (L Z) ?_; refine W.ghost (σ' := (mkSt [(0, some (.s x0))] [] 1000)) (Gives.entry (.c Z .n) .n) (W.seq (W.pk (.A Z (.nil (W.seq (W.seq (W.pk (.M Z (.nil (W.block (W.seq ?_))))))))))); refine W.seq (W.pk (.V Z (O.cmpS Z Z Z Z) (.A Z (.nil (W.cnd Z h (fun q1 h => ?_) (fun q1 h => ?_))))))
 ·refine W.skip (W.cnd Z h (fun q2 h => ?_) (fun q2 h => ?_))
  ·refine W.seq (W.pk (.A Z (.nil (W.ret ?_)))); cases h; exact lv Z Z
  ·refine W.skip (W.seq (W.pk (.A Z (.nil (W.ret ?_))))); cases h; exact lv Z Z
 ·refine W.seq (W.pk (.V Z (O.cmpS Z Z Z Z) (.A Z (.nil (W.cnd Z h (fun q3 h => ?_) (fun q3 h => ?_))))))
  ·refine W.skip (W.cnd Z h (fun q4 h => ?_) (fun q4 h => ?_))
   ·refine W.seq (W.pk (.A Z (.nil (W.ret ?_)))); cases h; exact lv Z Z
   ·refine W.skip (W.seq (W.pk (.A Z (.nil (W.ret ?_))))); cases h; exact lv Z Z
  ·refine W.seq (W.pk (.V Z (O.cmpS Z Z Z Z) (.A Z (.nil (W.cnd Z h (fun q5 h => ?_) (fun q5 h => ?_))))))
   ·refine W.skip (W.cnd Z h (fun q6 h => ?_) (fun q6 h => ?_))
    ·refine W.seq (W.pk (.A Z (.nil (W.ret ?_)))); cases h; exact lv Z Z
    ·refine W.skip (W.seq (W.pk (.A Z (.nil (W.ret ?_))))); cases h; exact lv Z Z
   ·refine W.seq (W.pk (.V Z (O.cmpS Z Z Z Z) (.A Z (.nil (W.cnd Z h (fun q7 h => ?_) (fun q7 h => ?_))))))
    ·refine W.skip (W.cnd Z h (fun q8 h => ?_) (fun q8 h => ?_))
     ·refine W.seq (W.pk (.A Z (.nil (W.ret ?_)))); cases h; exact lv Z Z
     ·refine W.skip (W.seq (W.pk (.A Z (.nil (W.ret ?_))))); cases h; exact lv Z Z
    ·refine W.seq (W.pk (.V Z (O.cmpS Z Z Z Z) (.A Z (.nil (W.cnd Z h (fun q9 h => ?_) (fun q9 h => ?_))))))
     ·refine W.skip (W.cnd Z h (fun q10 h => ?_) (fun q10 h => ?_))
      ·refine W.seq (W.pk (.A Z (.nil (W.ret ?_)))); cases h; exact lv Z Z
      ·refine W.skip (W.seq (W.pk (.A Z (.nil (W.ret ?_))))); cases h; exact lv Z Z
     ·refine W.seq (W.pk (.V Z (O.cmpS Z Z Z Z) (.A Z (.nil (W.cnd Z h (fun q11 h => ?_) (fun q11 h => ?_))))))
      ·refine W.skip (W.cnd Z h (fun q12 h => ?_) (fun q12 h => ?_))
       ·refine W.seq (W.pk (.A Z (.nil (W.ret ?_)))); cases h; exact lv Z Z
       ·refine W.skip (W.seq (W.pk (.A Z (.nil (W.ret ?_))))); cases h; exact lv Z Z
      ·refine W.seq (W.pk (.V Z (O.cmpS Z Z Z Z) (.A Z (.nil (W.cnd Z h (fun q13 h => ?_) (fun q13 h => ?_))))))
       ·refine W.skip (W.cnd Z h (fun q14 h => ?_) (fun q14 h => ?_))
        ·refine W.seq (W.pk (.A Z (.nil (W.ret ?_)))); cases h; exact lv Z Z
        ·refine W.skip (W.seq (W.pk (.A Z (.nil (W.ret ?_))))); cases h; exact lv Z Z
       ·refine W.pk (.V Z (O.cmpS Z Z Z Z) (.A Z (.nil (W.cnd Z h (fun q15 h => ?_) (fun q15 h => ?_)))))
        ·refine W.seq (W.pk (.A Z (.nil (W.ret ?_)))); cases h; exact lv Z Z
        ·refine W.skip (W.seq (W.pk (.A Z (.nil (W.ret ?_))))); cases h; exact lv Z Z
noncomputable def isin_Asset.f (x0 : api_Asset) : Option (Int) :=
 (isin_Check.f x0.ISIN).bind fun t1 =>
 if (t1 != 0) = true then
 some t1
 else (isin_Currency.f x0.Currency).bind fun t4 =>
 if (!t4) = true then
 some 11
 else if ((((decide (x0.Issuer < 0)) || (decide (x0.Issuer > 9999))) || (decide (x0.Rating < 0))) || (decide (x0.Rating > 20))) = true then
 some 1
 else if ((decide (x0.Maturity < 0)) || (decide (x0.Maturity > 200000))) = true then
 some 10
 else some 0
theorem isin_Asset.ok {x0 : api_Asset} {r : Int} (h : isin_Asset.f x0 = some r) : Pm.Spec prog 42 [.agg (im (api_Asset.enc x0))] (.imm (.val (.int .i64 r))) [none] := by
 unfold isin_Asset.f at h; refine Pm.Spec.of_body Tryz.func42 Z (by kernel_rfl) (L Z) (L Z) ?_; refine W.ghost (σ' := (mkSt [(0, some (.agg (api_Asset.av x0)))] [] 1000)) (Gives.entry (.c Z .n) .n) (W.seq (W.pk (.t Z Z (O.box Z Z Z Z Z) (.A Z (.nil (W.seq (W.seq ?_))))))); obtain ⟨t1, b2, h⟩ := bnd1 h; refine W.pk (.F fld23_0 Z (.V Z (O.ld (y := .s x0.ISIN) ty9 Z Z Z) (.C (.i t1) [] 0 (isin_Check.ok b2) ca49 Z (cI .nil) Z ?_))); refine .A Z (.nil (W.seq (W.pk (.M Z (.B Z (.nil (W.cnd Z h (fun q3 h => ?_) (fun q3 h => ?_))))))))
 ·refine W.seq (W.pk (.M Z (.A Z (.nil (W.ret ?_))))); cases h; exact lv Z Z
 ·refine W.skip (W.seq (W.block (W.seq ?_))); obtain ⟨t4, b5, h⟩ := bnd1 h; refine W.pk (.F fld23_4 Z (.V Z (O.ld (y := .s x0.Currency) ty9 Z Z Z) (.C (.b t4) [] 0 (isin_Currency.ok b5) ca47 Z (cI .nil) Z ?_))); refine .V Z (OpL.unV Z Z Z) (.A Z (.nil (W.cnd Z h (fun q6 h => ?_) (fun q6 h => ?_))))
  ·refine W.seq (W.pk (.A Z (.nil (W.ret ?_)))); cases h; exact lv Z Z
  ·refine W.seq (W.fork (mkSt [(1, some (.ptr 1000 0)), (15, some (.b ((((decide (x0.Issuer < 0)) || (decide (x0.Issuer > 9999))) || (decide (x0.Rating < 0))) || (decide (x0.Rating > 20)))))] [(1000, some (.box (api_Asset.av x0)))] 1001) ?_ ?_)
   ·refine W.cnd Z h (fun q10 h => ?_) (fun q10 h => ?_)
    ·refine W.seq (W.pk (.A Z (.nil (W.ret ?_)))); cases h; exact lv Z Z
    ·refine W.seq (W.fork (mkSt [(34, some (.b ((decide (x0.Maturity < 0)) || (decide (x0.Maturity > 200000)))))] [] 1001) ?_ ?_)
     ·refine W.cnd Z h (fun q12 h => ?_) (fun q12 h => ?_)
      ·refine W.seq (W.pk (.A Z (.nil (W.ret ?_)))); cases h; exact lv Z Z
      ·refine W.skip (W.seq (W.pk (.A Z (.nil (W.ret ?_))))); cases h; exact lv Z Z
     ·clear h; refine W.pk (.F fld23_3 Z (.V Z (O.ld (y := .i x0.Maturity) ty3 Z Z Z) (.B Z (.M Z ?_)))); rcases tf (decide (x0.Maturity < 0)) with g11 | g11
      ·(iterate 3 refine .X Z g11 ?_); exact .T g11 Z (.A Z (.nil (toN (Gm [] (.c Z (sbb (by simp only [g11, BL])) Z .n) .n Z))))
      ·exact .H fld23_3 Z g11 Z (.U Z g11 (O.ld (y := .i x0.Maturity) ty3 Z Z Z) (.G Z g11 Z (.E g11 Z (.A Z (.nil (toN (Gm [] (.c Z (sbb (by simp only [g11, BL])) Z .n) .n Z)))))))
   ·clear h; refine W.pk (.F fld23_1 Z (.V Z (O.ld (y := .i x0.Issuer) ty3 Z Z Z) (.B Z (.M Z ?_)))); rcases tf (decide (x0.Issuer < 0)) with g7 | g7
    ·refine .X Z g7 (.X Z g7 (.X Z g7 (.T g7 Z (.M Z (.X Z Z (.X Z Z (.X Z Z (.T Z Z (.M Z (.X Z Z (.X Z Z ?_))))))))))); exact .X Z Z (.T Z Z (.A Z (.nil (toN (Gm [] (.r Z Z (.c Z (sbb (by simp only [g7, BL])) Z .n)) (.r Z Z Z .n) Z)))))
    ·refine .H fld23_1 Z g7 Z (.U Z g7 (O.ld (y := .i x0.Issuer) ty3 Z Z Z) (.G Z g7 Z (.E g7 Z (.M Z ?_)))); rcases tf (decide (x0.Issuer > 9999)) with g8 | g8
     ·exact .X Z g8 (.X Z g8 (.X Z g8 (.T g8 Z (.M Z (.X Z Z (.X Z Z (.X Z Z (.T Z Z (.A Z (.nil (toN (Gm [] (.r Z Z (.c Z (sbb (by simp only [g7, g8, BL])) Z .n)) (.r Z Z Z .n) Z))))))))))))
     ·refine .H fld23_2 Z g8 Z (.U Z g8 (O.ld (y := .i x0.Rating) ty3 Z Z Z) (.G Z g8 Z (.E g8 Z (.M Z ?_)))); rcases tf (decide (x0.Rating < 0)) with g9 | g9
      ·exact .X Z g9 (.X Z g9 (.X Z g9 (.T g9 Z (.A Z (.nil (toN (Gm [] (.r Z Z (.c Z (sbb (by simp only [g7, g8, g9, BL])) Z .n)) (.r Z Z Z .n) Z)))))))
      ·exact .H fld23_2 Z g9 Z (.U Z g9 (O.ld (y := .i x0.Rating) ty3 Z Z Z) (.G Z g9 Z (.E g9 Z (.A Z (.nil (toN (Gm [] (.r Z Z (.c Z (sbb (by simp only [g7, g8, g9, BL])) Z .n)) (.r Z Z Z .n) Z)))))))
noncomputable def msg_Basket_1.f (x0 : Int) : Option (Bool) :=
 some ((decide (x0 ≥ 0)) && (decide (x0 ≤ 1000000)))
theorem msg_Basket_1.ok {x0 : Int} {r : Bool} (h : msg_Basket_1.f x0 = some r) : Pm.Spec prog 92 [.imm (.val (.int .i64 x0))] (.imm (.val (.bool r))) [none] := by
 unfold msg_Basket_1.f at h; refine Pm.Spec.of_body Tryz.func92 Z (by kernel_rfl) (L Z) (L Z) ?_; refine W.ghost (σ' := (mkSt [(0, some (.i x0))] [] 1000)) (Gives.entry (.c Z .n) .n) (W.seq (W.pk (.A Z (.nil (W.seq (W.fork (mkSt [(2, some (.b ((decide (x0 ≥ 0)) && (decide (x0 ≤ 1000000)))))] [] 1000) ?_ ?_))))))
 ·refine W.ret ?_; cases h; exact lv Z Z
 ·clear h; refine W.pk (.M Z (.B Z (.M Z ?_))); rcases tf (decide (x0 ≥ 0)) with g1 | g1
  ·exact .N Z g1 (.G Z g1 Z (.T g1 Z (.A Z (.nil (toN (Gm [] (.c Z (sbb (by simp only [g1, BL])) Z .n) .n Z))))))
  ·exact .X Z g1 (.X Z g1 (.E g1 Z (.A Z (.nil (toN (Gm [] (.c Z (sbb (by simp only [g1, BL])) Z .n) .n Z))))))
noncomputable def msg_Basket.b0 (x0 : api_Basket) (v30 : Int) : Option (Int ⊕ (Int ⊕ Unit)) :=
 if (decide (v30 < (List.length x0.Cuts : Int))) = true then
 if (0 : Int) ≤ v30 ∧ v30 < (List.length x0.Cuts : Int) then
 if ((((((decide (((nth x0.Cuts v30).Days) < 0)) || (decide (((nth x0.Cuts v30).Days) > 200000))) || (decide (((nth x0.Cuts v30).Rating) < 0))) || (decide (((nth x0.Cuts v30).Rating) > 20))) || (decide (((nth x0.Cuts v30).Cut) < 0))) || (decide (((nth x0.Cuts v30).Cut) ≥ 1000000))) = true then
 some (.inr (.inl 1))
 else some (.inl (IntKind.wrap .i64 (v30 + 1)))
 else none
 else some (.inr (.inr ()))
noncomputable def msg_Basket.r0 (x0 : api_Basket) (s : Int) : Option (Int ⊕ (Int ⊕ Unit)) := msg_Basket.b0 x0 s
noncomputable def msg_Basket.b1 (x0 : api_Basket) (v67 : Int) : Option (Int ⊕ (Int ⊕ Unit)) :=
 if (decide (v67 < (List.length x0.Barred : Int))) = true then
 if (0 : Int) ≤ v67 ∧ v67 < (List.length x0.Barred : Int) then
 if (((decide ((nth x0.Barred v67) < 0)) || (decide ((nth x0.Barred v67) > 9999))) = false ∧ (decide (v67 > 0)) = true → (0 : Int) ≤ (IntKind.wrap .i64 (v67 - 1)) ∧ (IntKind.wrap .i64 (v67 - 1)) < (List.length x0.Barred : Int)) then
 if (((decide ((nth x0.Barred v67) < 0)) || (decide ((nth x0.Barred v67) > 9999))) || ((decide (v67 > 0)) && (decide ((nth x0.Barred v67) ≤ (nth x0.Barred (IntKind.wrap .i64 (v67 - 1))))))) = true then
 some (.inr (.inl 1))
 else some (.inl (IntKind.wrap .i64 (v67 + 1)))
 else none
 else none
 else some (.inr (.inr ()))
noncomputable def msg_Basket.r1 (x0 : api_Basket) (s : Int) : Option (Int ⊕ (Int ⊕ Unit)) := msg_Basket.b1 x0 s
noncomputable def msg_Basket.f (x0 : api_Basket) : Option (Int) :=
 if ((((((decide (x0.ID < 1)) || (decide (x0.ID > 64))) || (decide (x0.Version < 1))) || (decide (x0.Version > 1125899906842624))) || (decide (x0.Rating < 0))) || (decide (x0.Rating > 20))) = true then
 some 1
 else (msg_Basket_1.f x0.Issuer).bind fun t7 =>
 (if (!t7) = false then msg_Basket_1.f x0.Asset else some default).bind fun t9 =>
 if (((((!t7) || (!t9)) || ((List.length x0.Cuts : Int) == 0)) || (decide ((List.length x0.Cuts : Int) > 64))) || (decide ((List.length x0.Barred : Int) > 64))) = true then
 some 1
 else if (((decide (x0.Least < 0)) || (decide (x0.Most < x0.Least))) || (decide (x0.Most > 200000))) = true then
 some 10
 else (isin_Currency.f x0.Currency).bind fun t19 =>
 if (!t19) = true then
 some 11
 else (loop (msg_Basket.r0 x0) 0).bind fun o48 =>
 match o48 with
 | .inl r59 => some r59
 | .inr w47 =>
 (loop (msg_Basket.r1 x0) 0).bind fun o83 =>
 match o83 with
 | .inl r93 => some r93
 | .inr w82 =>
 some 0
theorem msg_Basket.ok {x0 : api_Basket} {r : Int} (h : msg_Basket.f x0 = some r) : Pm.Spec prog 43 [.agg (im (api_Basket.enc x0))] (.imm (.val (.int .i64 r))) [none] := by
 unfold msg_Basket.f at h; refine Pm.Spec.of_body Tryz.func43 Z (by kernel_rfl) (L Z) (L Z) ?_; refine W.ghost (σ' := (mkSt [(0, some (.agg (api_Basket.av x0)))] [] 1000)) (Gives.entry (.c Z .n) .n) (W.seq (W.pk (.t Z Z (O.box Z Z Z Z Z) (.A Z (.nil (W.seq (W.pk (.A Z (.nil (W.seq (W.block ?_))))))))))); refine W.seq (W.fork (mkSt [(1, some (.ptr 1000 0)), (3, some (.fn 92 [])), (8, some (.b ((((((decide (x0.ID < 1)) || (decide (x0.ID > 64))) || (decide (x0.Version < 1))) || (decide (x0.Version > 1125899906842624))) || (decide (x0.Rating < 0))) || (decide (x0.Rating > 20)))))] [(1000, some (.box (api_Basket.av x0)))] 1001) ?_ ?_)
 ·refine W.cnd Z h (fun q6 h => ?_) (fun q6 h => ?_)
  ·refine W.seq (W.pk (.A Z (.nil (W.ret ?_)))); cases h; exact lv Z Z
  ·refine W.seq ?_; obtain ⟨t7, b8, h⟩ := bnd1 h; obtain ⟨t9, b10, h⟩ := bnd1 h; refine W.fork (mkSt [(1, some (.ptr 1000 0)), (37, some (.b (((((!t7) || (!t9)) || ((List.length x0.Cuts : Int) == 0)) || (decide ((List.length x0.Cuts : Int) > 64))) || (decide ((List.length x0.Barred : Int) > 64)))))] [(1000, some (.box (api_Basket.av x0)))] 1001) ?_ ?_
   ·refine W.cnd Z h (fun q15 h => ?_) (fun q15 h => ?_)
    ·refine W.seq (W.pk (.A Z (.nil (W.ret ?_)))); cases h; exact lv Z Z
    ·refine W.seq (W.fork (mkSt [(1, some (.ptr 1000 0)), (68, some (.b (((decide (x0.Least < 0)) || (decide (x0.Most < x0.Least))) || (decide (x0.Most > 200000)))))] [(1000, some (.box (api_Basket.av x0)))] 1001) ?_ ?_)
     ·refine W.cnd Z h (fun q18 h => ?_) (fun q18 h => ?_)
      ·refine W.seq (W.pk (.A Z (.nil (W.ret ?_)))); cases h; exact lv Z Z
      ·refine W.seq ?_; obtain ⟨t19, b20, h⟩ := bnd1 h; refine W.pk (.F fld27_2 Z (.V Z (O.ld (y := .s x0.Currency) ty9 Z Z Z) (.C (.b t19) [] 0 (isin_Currency.ok b20) ca47 Z (cI .nil) Z ?_))); refine .V Z (OpL.unV Z Z Z) (.A Z (.nil (W.cnd Z h (fun q21 h => ?_) (fun q21 h => ?_))))
       ·refine W.seq (W.pk (.A Z (.nil (W.ret ?_)))); cases h; exact lv Z Z
       ·refine W.skip (W.seq (W.seq (W.pk (.F fld27_6 Z (.V Z (O.ld (y := .imm (.row 3 (List.map api_Cut.enc x0.Cuts))) ty24 Z Z Z) (.V Z (O.lenR sl24 Z Z) (.M Z (.nil ?_)))))))); obtain ⟨o48, b49, z50⟩ := bnd1 h; refine W.fork2 (out := o48) (fun (w47 : Unit) => mkSt [(1, some (.ptr 1000 0))] [(1000, some (.box (api_Basket.av x0)))] 1001) ?_ ?_
        ·clear h; refine W.block (W.loopF (fun (s_ : Int) => mkSt [(1, some (.ptr 1000 0)), (90, some (.imm (.row 3 (List.map api_Cut.enc x0.Cuts)))), (91, some (.i (List.length x0.Cuts : Int))), (92, some (.i s_))] [(1000, some (.box (api_Basket.av x0)))] 1001) b49 (Gm [] (.e Z Z) (.r Z Z Z .n) Z) ?_); rintro v30 s_ hr; have h : msg_Basket.b0 x0 v30 = some s_ := hr; unfold msg_Basket.b0 at h; refine W.seq (W.pk (.B Z (.nil (W.seq (W.cnd Z h (fun q51 h => ?_) (fun q51 h => ?_))))))
         ·refine W.skip (W.seq (W.block (W.seq ?_))); obtain ⟨c52, h⟩ := chk h; refine W.pk (.V Z (O.idx sl24 c52 Z Z Z) (.V Z (O.ldN ty103 Z Z Z) (.t Z Z (O.alloc z103 Z) (.S ty103 Z [.i ((nth x0.Cuts v30).Days), .i ((nth x0.Cuts v30).Rating), .i ((nth x0.Cuts v30).Cut)] Z (.nil (W.seq (W.fork (mkSt [(1, some (.ptr 1000 0)), (90, some (.imm (.row 3 (List.map api_Cut.enc x0.Cuts)))), (91, some (.i (List.length x0.Cuts : Int))), (92, some (.i v30)), (123, some (.b ((((((decide (((nth x0.Cuts v30).Days) < 0)) || (decide (((nth x0.Cuts v30).Days) > 200000))) || (decide (((nth x0.Cuts v30).Rating) < 0))) || (decide (((nth x0.Cuts v30).Rating) > 20))) || (decide (((nth x0.Cuts v30).Cut) < 0))) || (decide (((nth x0.Cuts v30).Cut) ≥ 1000000)))))] [(1000, some (.box (api_Basket.av x0)))] 1002) ?_ ?_)))))))
          ·refine W.cnd Z h (fun q58 h => ?_) (fun q58 h => ?_)
           ·refine W.seq (W.pk (.A Z (.nil (W.ret ?_)))); cases h; refine rdR fun e_ => ?_; subst e_; have h := z50; dsimp only at h; refine fkR ?_; cases h; exact lv Z Z
           ·refine W.skip (W.pk (.B Z (.M Z (.nil ?_)))); cases h; exact rdN (Gm [] (.e Z Z) (.r Z Z Z .n) Z)
          ·clear h; refine W.pk (.F fld103_0 Z (.V Z (O.ld (y := .i ((nth x0.Cuts v30).Days)) ty3 Z Z Z) (.B Z (.M Z ?_)))); rcases tf (decide (((nth x0.Cuts v30).Days) < 0)) with g53 | g53
           ·(iterate 3 refine .X Z g53 ?_); refine .T g53 Z (.M Z (.X Z Z (.X Z Z (.X Z Z (.T Z Z (.M Z (.X Z Z (.X Z Z (.X Z Z (.T Z Z (.M Z ?_))))))))))); exact .X Z Z (.X Z Z (.X Z Z (.T Z Z (.M Z (.X Z Z (.X Z Z (.X Z Z (.T Z Z (.nil (toN (Gm [] (.r Z Z (.r Z Z (.r Z Z (.r Z Z (.c Z (sbb (by simp only [g53, BL])) Z .n))))) (.r Z Z Z .n) Z)))))))))))
           ·refine .H fld103_0 Z g53 Z (.U Z g53 (O.ld (y := .i ((nth x0.Cuts v30).Days)) ty3 Z Z Z) (.G Z g53 Z (.E g53 Z (.M Z ?_)))); rcases tf (decide (((nth x0.Cuts v30).Days) > 200000)) with g54 | g54
            ·(iterate 3 refine .X Z g54 ?_); refine .T g54 Z (.M Z (.X Z Z (.X Z Z (.X Z Z (.T Z Z (.M Z (.X Z Z (.X Z Z (.X Z Z (.T Z Z (.M Z ?_))))))))))); exact .X Z Z (.X Z Z (.X Z Z (.T Z Z (.nil (toN (Gm [] (.r Z Z (.r Z Z (.r Z Z (.r Z Z (.c Z (sbb (by simp only [g53, g54, BL])) Z .n))))) (.r Z Z Z .n) Z))))))
            ·refine .H fld103_1 Z g54 Z (.U Z g54 (O.ld (y := .i ((nth x0.Cuts v30).Rating)) ty3 Z Z Z) (.G Z g54 Z (.E g54 Z (.M Z ?_)))); rcases tf (decide (((nth x0.Cuts v30).Rating) < 0)) with g55 | g55
             ·(iterate 3 refine .X Z g55 ?_); refine .T g55 Z (.M Z (.X Z Z (.X Z Z (.X Z Z (.T Z Z (.M Z (.X Z Z (.X Z Z (.X Z Z (.T Z Z (.nil ?_))))))))))); exact toN (Gm [] (.r Z Z (.r Z Z (.r Z Z (.r Z Z (.c Z (sbb (by simp only [g53, g54, g55, BL])) Z .n))))) (.r Z Z Z .n) Z)
             ·refine .H fld103_1 Z g55 Z (.U Z g55 (O.ld (y := .i ((nth x0.Cuts v30).Rating)) ty3 Z Z Z) (.G Z g55 Z (.E g55 Z (.M Z ?_)))); rcases tf (decide (((nth x0.Cuts v30).Rating) > 20)) with g56 | g56
              ·(iterate 3 refine .X Z g56 ?_); exact .T g56 Z (.M Z (.X Z Z (.X Z Z (.X Z Z (.T Z Z (.nil (toN (Gm [] (.r Z Z (.r Z Z (.r Z Z (.r Z Z (.c Z (sbb (by simp only [g53, g54, g55, g56, BL])) Z .n))))) (.r Z Z Z .n) Z))))))))
              ·refine .H fld103_2 Z g56 Z (.U Z g56 (O.ld (y := .i ((nth x0.Cuts v30).Cut)) ty3 Z Z Z) (.G Z g56 Z (.E g56 Z (.M Z ?_)))); rcases tf (decide (((nth x0.Cuts v30).Cut) < 0)) with g57 | g57
               ·(iterate 3 refine .X Z g57 ?_); exact .T g57 Z (.nil (toN (Gm [] (.r Z Z (.r Z Z (.r Z Z (.r Z Z (.c Z (sbb (by simp only [g53, g54, g55, g56, g57, BL])) Z .n))))) (.r Z Z Z .n) Z)))
               ·exact .H fld103_2 Z g57 Z (.U Z g57 (O.ld (y := .i ((nth x0.Cuts v30).Cut)) ty3 Z Z Z) (.G Z g57 Z (.E g57 Z (.nil (toN (Gm [] (.r Z Z (.r Z Z (.r Z Z (.r Z Z (.c Z (sbb (by simp only [g53, g54, g55, g56, g57, BL])) Z .n))))) (.r Z Z Z .n) Z))))))
         ·refine W.exit ?_; cases h; refine rdX fun e_ => ?_; subst e_; (repeat with_reducible refine thru ?_); exact hit (fkN (Gm [] (.r Z Z .n) (.r Z Z Z .n) Z))
        ·intro w47 e_; subst e_; clear h; have h := z50; dsimp only at h; refine W.seq (W.seq (W.pk (.F fld27_9 Z (.V Z (O.ld (y := .imm (.row 1 (List.map (encI .i64) x0.Barred))) ty25 Z Z Z) (.V Z (O.lenR sl25 Z Z) (.M Z (.nil ?_))))))); obtain ⟨o83, b84, z85⟩ := bnd1 h; refine W.fork2 (out := o83) (fun (w82 : Unit) => mkSt [] [] 1001) ?_ ?_
         ·clear h; refine W.block (W.loopF (fun (s_ : Int) => mkSt [(1, some (.ptr 1000 0)), (126, some (.imm (.row 1 (List.map (encI .i64) x0.Barred)))), (127, some (.i (List.length x0.Barred : Int))), (128, some (.i s_))] [(1000, some (.box (api_Basket.av x0)))] 1001) b84 (Gm [] (.e Z Z) (.r Z Z Z .n) Z) ?_); rintro v67 s_ hr; have h : msg_Basket.b1 x0 v67 = some s_ := hr; unfold msg_Basket.b1 at h; refine W.seq (W.pk (.B Z (.nil (W.seq (W.cnd Z h (fun q86 h => ?_) (fun q86 h => ?_))))))
          ·refine W.skip (W.seq (W.block (W.seq ?_))); obtain ⟨c87, h⟩ := chk h; refine W.pk (.M Z (.V Z (O.idx sl25 c87 Z Z Z) (.V Z (O.ld (y := .i (nth x0.Barred v67)) ty3 Z Z Z) (.A Z (.A Z (.nil (W.seq ?_))))))); obtain ⟨c88, h⟩ := chk h; refine W.fork (mkSt [(1, some (.ptr 1000 0)), (126, some (.imm (.row 1 (List.map (encI .i64) x0.Barred)))), (127, some (.i (List.length x0.Barred : Int))), (128, some (.i v67)), (152, some (.b (((decide ((nth x0.Barred v67) < 0)) || (decide ((nth x0.Barred v67) > 9999))) || ((decide (v67 > 0)) && (decide ((nth x0.Barred v67) ≤ (nth x0.Barred (IntKind.wrap .i64 (v67 - 1)))))))))] [(1000, some (.box (api_Basket.av x0)))] 1001) ?_ ?_
           ·refine W.cnd Z h (fun q92 h => ?_) (fun q92 h => ?_)
            ·refine W.seq (W.pk (.A Z (.nil (W.ret ?_)))); cases h; refine rdR fun e_ => ?_; subst e_; have h := z85; dsimp only at h; refine fkR ?_; cases h; exact lv Z Z
            ·refine W.skip (W.pk (.B Z (.M Z (.nil ?_)))); cases h; exact rdN (Gm [] (.e Z Z) (.r Z Z Z .n) Z)
           ·clear h; refine W.pk (.M Z (.B Z (.M Z ?_))); rcases tf (decide ((nth x0.Barred v67) < 0)) with g89 | g89
            ·refine .X Z g89 (.X Z g89 (.T g89 Z (.M Z (.X Z Z (.X Z Z (.X Z Z ?_)))))); (iterate 8 refine .x Z (unmetU Z Z Z) ?_); exact .X Z Z (.T Z Z (.nil (toN (Gm [] (.r Z Z (.r Z Z (.r Z Z (.r Z Z (.c Z (sbb (by simp only [g89, BL])) Z .n))))) (.r Z Z Z .n) Z))))
            ·refine .N Z g89 (.G Z g89 Z (.E g89 Z (.M Z ?_))); rcases tf (decide ((nth x0.Barred v67) > 9999)) with g90 | g90
             ·(iterate 3 refine .X Z g90 ?_); (iterate 8 refine .x Z (unmetU Z Z Z) ?_); exact .X Z g90 (.T g90 Z (.nil (toN (Gm [] (.r Z Z (.r Z Z (.r Z Z (.r Z Z (.c Z (sbb (by simp only [g89, g90, BL])) Z .n))))) (.r Z Z Z .n) Z))))
             ·refine .N Z g90 (.G Z g90 Z (.N Z g90 ?_)); rcases tf (decide (v67 > 0)) with g91 | g91
              ·refine .N Z g91 (.H fld27_9 Z g91 Z (.U Z g91 (O.ld (y := .imm (.row 1 (List.map (encI .i64) x0.Barred))) ty25 Z Z Z) (.N Z g91 (.G Z g91 Z (.U Z g91 (O.idx sl25 (c88 ⟨(by simp only [g89, g90, g91, BL]), (by simp only [g89, g90, g91, BL])⟩) Z Z Z) ?_))))); exact .U Z g91 (O.ld (y := .i (nth x0.Barred (IntKind.wrap .i64 (v67 - 1)))) ty3 Z Z Z) (.G Z g91 Z (.U Z g90 (O.pickT g91 Z Z Z) (.E g90 Z (.nil (toN (Gm [] (.r Z Z (.r Z Z (.r Z Z (.r Z Z (.c Z (sbb (by simp only [g89, g90, g91, BL])) Z .n))))) (.r Z Z Z .n) Z))))))
              ·(iterate 8 refine .X Z g91 ?_); exact .U Z g90 (O.pickF g91 Z Z Z) (.E g90 Z (.nil (toN (Gm [] (.r Z Z (.r Z Z (.r Z Z (.r Z Z (.c Z (sbb (by simp only [g89, g90, g91, BL])) Z .n))))) (.r Z Z Z .n) Z))))
          ·refine W.exit ?_; cases h; refine rdX fun e_ => ?_; subst e_; (repeat with_reducible refine thru ?_); exact hit (fkN (Gm [] .n .n Z))
         ·intro w82 e_; subst e_; clear h; have h := z85; dsimp only at h; refine W.seq (W.pk (.A Z (.nil (W.ret ?_)))); cases h; exact lv Z Z
     ·clear h; refine W.pk (.F fld27_4 Z (.V Z (O.ld (y := .i x0.Least) ty3 Z Z Z) (.B Z (.M Z ?_)))); rcases tf (decide (x0.Least < 0)) with g16 | g16
      ·(iterate 5 refine .X Z g16 ?_); exact .T g16 Z (.M Z (.X Z Z (.X Z Z (.X Z Z (.T Z Z (.A Z (.nil (toN (Gm [] (.r Z Z (.c Z (sbb (by simp only [g16, BL])) Z .n)) (.r Z Z Z .n) Z)))))))))
      ·refine .H fld27_5 Z g16 Z (.U Z g16 (O.ld (y := .i x0.Most) ty3 Z Z Z) (.H fld27_4 Z g16 Z (.U Z g16 (O.ld (y := .i x0.Least) ty3 Z Z Z) (.G Z g16 Z (.E g16 Z (.M Z ?_)))))); rcases tf (decide (x0.Most < x0.Least)) with g17 | g17
       ·(iterate 3 refine .X Z g17 ?_); exact .T g17 Z (.A Z (.nil (toN (Gm [] (.r Z Z (.c Z (sbb (by simp only [g16, g17, BL])) Z .n)) (.r Z Z Z .n) Z))))
       ·exact .H fld27_5 Z g17 Z (.U Z g17 (O.ld (y := .i x0.Most) ty3 Z Z Z) (.G Z g17 Z (.E g17 Z (.A Z (.nil (toN (Gm [] (.r Z Z (.c Z (sbb (by simp only [g16, g17, BL])) Z .n)) (.r Z Z Z .n) Z)))))))
   ·clear h; refine W.pk (.M Z (.F fld27_7 Z (.V Z (O.ld (y := .i x0.Issuer) ty3 Z Z Z) (.C (.b t7) [] 0 (msg_Basket_1.ok b8) ca92 Z (cI .nil) Z ?_)))); refine .V Z (OpL.unV Z Z Z) (.M Z ?_); rcases tf t7 with g11 | g11
    ·refine .N Z (notT g11) (.H fld27_8 Z (notT g11) Z (.U Z (notT g11) (O.ld (y := .i x0.Asset) ty3 Z Z Z) (.call (.b t9) [] 0 (msg_Basket_1.ok ((if_pos (by simp only [g11, BL])).symm.trans b10)) Z (met Z Z Z (notT g11)) Z ca92 Z Z (cI .nil) Z Z Z Z Z ?_))); refine .U Z (notT g11) (OpL.unV Z Z Z) (.E (notT g11) Z (.M Z ?_)); rcases tf t9 with g12 | g12
     ·refine .H fld27_6 Z (notT g12) Z (.U Z (notT g12) (O.ld (y := .imm (.row 3 (List.map api_Cut.enc x0.Cuts))) ty24 Z Z Z) (.U Z (notT g12) (O.lenR sl24 Z Z) (.G Z (notT g12) Z (.E (notT g12) Z (.M Z ?_))))); rcases tf ((List.length x0.Cuts : Int) == 0) with g13 | g13
      ·(iterate 4 refine .X Z g13 ?_); refine .T g13 Z (.M Z ?_); (iterate 4 refine .X Z Z ?_); exact .T Z Z (.A Z (.nil (toN (Gm [] (.r Z Z (.c Z (sbb (by simp only [g11, g12, g13, BL])) Z .n)) (.r Z Z Z .n) Z))))
      ·refine .H fld27_6 Z g13 Z (.U Z g13 (O.ld (y := .imm (.row 3 (List.map api_Cut.enc x0.Cuts))) ty24 Z Z Z) (.U Z g13 (O.lenR sl24 Z Z) (.G Z g13 Z (.E g13 Z (.M Z ?_))))); rcases tf (decide ((List.length x0.Cuts : Int) > 64)) with g14 | g14
       ·(iterate 4 refine .X Z g14 ?_); exact .T g14 Z (.A Z (.nil (toN (Gm [] (.r Z Z (.c Z (sbb (by simp only [g11, g12, g13, g14, BL])) Z .n)) (.r Z Z Z .n) Z))))
       ·exact .H fld27_9 Z g14 Z (.U Z g14 (O.ld (y := .imm (.row 1 (List.map (encI .i64) x0.Barred))) ty25 Z Z Z) (.U Z g14 (O.lenR sl25 Z Z) (.G Z g14 Z (.E g14 Z (.A Z (.nil (toN (Gm [] (.r Z Z (.c Z (sbb (by simp only [g11, g12, g13, g14, BL])) Z .n)) (.r Z Z Z .n) Z))))))))
     ·(iterate 4 refine .X Z (notF g12) ?_); refine .T (notF g12) Z (.M Z ?_); (iterate 4 refine .X Z Z ?_); refine .T Z Z (.M Z ?_); (iterate 4 refine .X Z Z ?_); exact .T Z Z (.A Z (.nil (toN (Gm [] (.r Z Z (.c Z (sbb (by simp only [g11, g12, BL])) Z .n)) (.r Z Z Z .n) Z))))
    ·(iterate 5 refine .X Z (notF g11) ?_); refine .T (notF g11) Z (.M Z ?_); (iterate 4 refine .X Z Z ?_); refine .T Z Z (.M Z ?_); (iterate 4 refine .X Z Z ?_); refine .T Z Z (.M Z ?_); (iterate 4 refine .X Z Z ?_); exact .T Z Z (.A Z (.nil (toN (Gm [] (.r Z Z (.c Z (sbb (by simp only [g11, BL])) Z .n)) (.r Z Z Z .n) Z))))
 ·clear h; refine W.pk (.F fld27_0 Z (.V Z (O.ld (y := .i x0.ID) ty3 Z Z Z) (.B Z (.M Z ?_)))); rcases tf (decide (x0.ID < 1)) with g1 | g1
  ·refine .X Z g1 (.X Z g1 (.X Z g1 (.T g1 Z (.M Z (.X Z Z (.X Z Z (.X Z Z (.T Z Z (.M Z (.X Z Z (.X Z Z ?_))))))))))); refine .X Z Z (.T Z Z (.M Z (.X Z Z (.X Z Z (.X Z Z (.T Z Z (.M Z (.X Z Z (.X Z Z (.X Z Z (.T Z Z ?_))))))))))); exact .A Z (.nil (toN (Gm [] (.r Z Z (.r Z Z (.c Z (sbb (by simp only [g1, BL])) Z .n))) (.r Z Z Z .n) Z)))
  ·refine .H fld27_0 Z g1 Z (.U Z g1 (O.ld (y := .i x0.ID) ty3 Z Z Z) (.G Z g1 Z (.E g1 Z (.M Z ?_)))); rcases tf (decide (x0.ID > 64)) with g2 | g2
   ·refine .X Z g2 (.X Z g2 (.X Z g2 (.T g2 Z (.M Z (.X Z Z (.X Z Z (.X Z Z (.T Z Z (.M Z (.X Z Z (.X Z Z ?_))))))))))); exact .X Z Z (.T Z Z (.M Z (.X Z Z (.X Z Z (.X Z Z (.T Z Z (.A Z (.nil (toN (Gm [] (.r Z Z (.r Z Z (.c Z (sbb (by simp only [g1, g2, BL])) Z .n))) (.r Z Z Z .n) Z))))))))))
   ·refine .H fld27_1 Z g2 Z (.U Z g2 (O.ld (y := .i x0.Version) ty3 Z Z Z) (.G Z g2 Z (.E g2 Z (.M Z ?_)))); rcases tf (decide (x0.Version < 1)) with g3 | g3
    ·refine .X Z g3 (.X Z g3 (.X Z g3 (.T g3 Z (.M Z (.X Z Z (.X Z Z (.X Z Z (.T Z Z (.M Z (.X Z Z (.X Z Z ?_))))))))))); exact .X Z Z (.T Z Z (.A Z (.nil (toN (Gm [] (.r Z Z (.r Z Z (.c Z (sbb (by simp only [g1, g2, g3, BL])) Z .n))) (.r Z Z Z .n) Z)))))
    ·refine .H fld27_1 Z g3 Z (.U Z g3 (O.ld (y := .i x0.Version) ty3 Z Z Z) (.G Z g3 Z (.E g3 Z (.M Z ?_)))); rcases tf (decide (x0.Version > 1125899906842624)) with g4 | g4
     ·exact .X Z g4 (.X Z g4 (.X Z g4 (.T g4 Z (.M Z (.X Z Z (.X Z Z (.X Z Z (.T Z Z (.A Z (.nil (toN (Gm [] (.r Z Z (.r Z Z (.c Z (sbb (by simp only [g1, g2, g3, g4, BL])) Z .n))) (.r Z Z Z .n) Z))))))))))))
     ·refine .H fld27_3 Z g4 Z (.U Z g4 (O.ld (y := .i x0.Rating) ty3 Z Z Z) (.G Z g4 Z (.E g4 Z (.M Z ?_)))); rcases tf (decide (x0.Rating < 0)) with g5 | g5
      ·exact .X Z g5 (.X Z g5 (.X Z g5 (.T g5 Z (.A Z (.nil (toN (Gm [] (.r Z Z (.r Z Z (.c Z (sbb (by simp only [g1, g2, g3, g4, g5, BL])) Z .n))) (.r Z Z Z .n) Z)))))))
      ·exact .H fld27_3 Z g5 Z (.U Z g5 (O.ld (y := .i x0.Rating) ty3 Z Z Z) (.G Z g5 Z (.E g5 Z (.A Z (.nil (toN (Gm [] (.r Z Z (.r Z Z (.c Z (sbb (by simp only [g1, g2, g3, g4, g5, BL])) Z .n))) (.r Z Z Z .n) Z)))))))
noncomputable def msg_prices.b0 (x0 : List api_Price) (v13 : Int) : Option (Int ⊕ (Int ⊕ Unit)) :=
 if (decide (v13 < (List.length x0 : Int))) = true then
 if (0 : Int) ≤ v13 ∧ v13 < (List.length x0 : Int) then
 (isin_Check.f ((nth x0 v13).ISIN)).bind fun t40 =>
 if (t40 != 0) = true then
 some (.inr (.inl t40))
 else if (((decide (((nth x0 v13).Price) < 1)) || (decide (((nth x0 v13).Price) > 4294967296))) = false ∧ (decide (v13 > 0)) = true → (0 : Int) ≤ (IntKind.wrap .i64 (v13 - 1)) ∧ (IntKind.wrap .i64 (v13 - 1)) < (List.length x0 : Int)) then
 if (((decide (((nth x0 v13).Price) < 1)) || (decide (((nth x0 v13).Price) > 4294967296))) || ((decide (v13 > 0)) && (Go.Op.bytesLess ((nth x0 v13).ISIN) ((nth x0 (IntKind.wrap .i64 (v13 - 1))).ISIN) || ((nth x0 v13).ISIN) == ((nth x0 (IntKind.wrap .i64 (v13 - 1))).ISIN)))) = true then
 some (.inr (.inl 31))
 else some (.inl (IntKind.wrap .i64 (v13 + 1)))
 else none
 else none
 else some (.inr (.inr ()))
noncomputable def msg_prices.r0 (x0 : List api_Price) (s : Int) : Option (Int ⊕ (Int ⊕ Unit)) := msg_prices.b0 x0 s
noncomputable def msg_prices.f (x0 : List api_Price) : Option (Int) :=
 if (((List.length x0 : Int) == 0) || (decide ((List.length x0 : Int) > 64))) = true then
 some 2
 else (loop (msg_prices.r0 x0) 0).bind fun o35 =>
 match o35 with
 | .inl r48 => some r48
 | .inr w34 =>
 some 0
theorem msg_prices.ok {x0 : List api_Price} {r : Int} (h : msg_prices.f x0 = some r) : Pm.Spec prog 44 [.imm (.row 2 (List.map api_Price.enc x0))] (.imm (.val (.int .i64 r))) [none] := by
 unfold msg_prices.f at h; refine Pm.Spec.of_body Tryz.func44 Z (by kernel_rfl) (L Z) (L Z) ?_; refine W.ghost (σ' := (mkSt [(0, some (.imm (.row 2 (List.map api_Price.enc x0))))] [] 1000)) (Gives.entry (.c Z .n) .n) (W.seq (W.pk (.A Z (.nil (W.seq (W.seq (W.fork (mkSt [(0, some (.imm (.row 2 (List.map api_Price.enc x0)))), (13, some (.b (((List.length x0 : Int) == 0) || (decide ((List.length x0 : Int) > 64)))))] [] 1000) ?_ ?_)))))))
 ·refine W.cnd Z h (fun q2 h => ?_) (fun q2 h => ?_)
  ·refine W.seq (W.pk (.A Z (.nil (W.ret ?_)))); cases h; exact lv Z Z
  ·refine W.skip (W.seq (W.seq (W.pk (.M Z (.V Z (O.lenR sl28 Z Z) (.M Z (.nil ?_))))))); obtain ⟨o35, b36, z37⟩ := bnd1 h; refine W.fork2 (out := o35) (fun (w34 : Unit) => mkSt [] [] 1000) ?_ ?_
   ·clear h; refine W.block (W.loopF (fun (s_ : Int) => mkSt [(0, some (.imm (.row 2 (List.map api_Price.enc x0)))), (14, some (.imm (.row 2 (List.map api_Price.enc x0)))), (15, some (.i (List.length x0 : Int))), (16, some (.i s_))] [] 1000) b36 (Gm [] (.e Z Z) .n Z) ?_); rintro v13 s_ hr; have h : msg_prices.b0 x0 v13 = some s_ := hr; unfold msg_prices.b0 at h; refine W.seq (W.pk (.B Z (.nil (W.seq (W.cnd Z h (fun q38 h => ?_) (fun q38 h => ?_))))))
    ·refine W.skip (W.seq (W.block (W.seq ?_))); obtain ⟨c39, h⟩ := chk h; refine W.pk (.M Z (.V Z (O.idx sl28 c39 Z Z Z) (.V Z (O.ldN ty105 Z Z Z) (.t Z Z (O.alloc z105 Z) (.A Z (.S ty105 Z [.s ((nth x0 v13).ISIN), .i ((nth x0 v13).Price)] Z (.nil (W.seq (W.seq ?_))))))))); obtain ⟨t40, b41, h⟩ := bnd1 h; refine W.pk (.F fld105_0 Z (.V Z (O.ld (y := .s ((nth x0 v13).ISIN)) ty9 Z Z Z) (.C (.i t40) [] 0 (isin_Check.ok b41) ca49 Z (cI .nil) Z ?_))); refine .A Z (.nil (W.seq (W.pk (.M Z (.B Z (.nil (W.cnd Z h (fun q42 h => ?_) (fun q42 h => ?_))))))))
     ·refine W.seq (W.pk (.M Z (.A Z (.nil (W.ret ?_))))); cases h; refine rdR fun e_ => ?_; subst e_; have h := z37; dsimp only at h; refine fkR ?_; cases h; exact lv Z Z
     ·refine W.skip (W.seq ?_); obtain ⟨c43, h⟩ := chk h; refine W.fork (mkSt [(0, some (.imm (.row 2 (List.map api_Price.enc x0)))), (14, some (.imm (.row 2 (List.map api_Price.enc x0)))), (15, some (.i (List.length x0 : Int))), (16, some (.i v13)), (49, some (.b (((decide (((nth x0 v13).Price) < 1)) || (decide (((nth x0 v13).Price) > 4294967296))) || ((decide (v13 > 0)) && (Go.Op.bytesLess ((nth x0 v13).ISIN) ((nth x0 (IntKind.wrap .i64 (v13 - 1))).ISIN) || ((nth x0 v13).ISIN) == ((nth x0 (IntKind.wrap .i64 (v13 - 1))).ISIN))))))] [] 1001) ?_ ?_
      ·refine W.cnd Z h (fun q47 h => ?_) (fun q47 h => ?_)
       ·refine W.seq (W.pk (.A Z (.nil (W.ret ?_)))); cases h; refine rdR fun e_ => ?_; subst e_; have h := z37; dsimp only at h; refine fkR ?_; cases h; exact lv Z Z
       ·refine W.skip (W.pk (.B Z (.M Z (.nil ?_)))); cases h; exact rdN (Gm [] (.e Z Z) .n Z)
      ·clear h; refine W.dk (unm 23 [0, 1, 3, 7, 15, 31, 63, 127, 255, 511, 1023, 2047, 4095, 8191, 4095, 4095, 36863, 118783, 249855, 511999, 1048575, 2097151, 4194303]) Z (by kernel_rfl) ?_; refine .F fld105_1 Z (.V Z (O.ld (y := .i ((nth x0 v13).Price)) ty3 Z Z Z) (.B Z (.M Z ?_))); rcases tf (decide (((nth x0 v13).Price) < 1)) with g44 | g44
       ·(iterate 3 refine .X Z g44 ?_); refine .T g44 Z (.M Z (.X Z Z (.X Z Z (.X Z Z ?_)))); (iterate 9 refine .x Z (unmetU Z Z Z) ?_); refine .X Z Z (.T Z Z (.nil ?_)); refine ⟨by kernel_rfl, by kernel_rfl, ?_⟩; exact toN (Gm [] (.r Z Z (.r Z Z (.r Z Z (.r Z Z (.c Z (sbb (by simp only [g44, BL])) Z .n))))) .n Z)
       ·refine .H fld105_1 Z g44 Z (.U Z g44 (O.ld (y := .i ((nth x0 v13).Price)) ty3 Z Z Z) (.G Z g44 Z (.E g44 Z (.M Z ?_)))); rcases tf (decide (((nth x0 v13).Price) > 4294967296)) with g45 | g45
        ·(iterate 3 refine .X Z g45 ?_); (iterate 9 refine .x Z (unmetU Z Z Z) ?_); refine .X Z g45 (.T g45 Z (.nil ?_)); refine ⟨by kernel_rfl, by kernel_rfl, ?_⟩; exact toN (Gm [] (.r Z Z (.r Z Z (.r Z Z (.r Z Z (.c Z (sbb (by simp only [g44, g45, BL])) Z .n))))) .n Z)
        ·refine .N Z g45 (.G Z g45 Z (.N Z g45 ?_)); rcases tf (decide (v13 > 0)) with g46 | g46
         ·refine .H fld105_0 Z g46 Z (.U Z g46 (O.ld (y := .s ((nth x0 v13).ISIN)) ty9 Z Z Z) (.N Z g46 (.N Z g46 (.G Z g46 Z (.U Z g46 (O.idx sl28 (c43 ⟨(by simp only [g44, g45, g46, BL]), (by simp only [g44, g45, g46, BL])⟩) Z Z Z) ?_))))); refine .H fld105_0 Z g46 Z (.U Z g46 (O.ld (y := .s ((nth x0 (IntKind.wrap .i64 (v13 - 1))).ISIN)) ty9 Z Z Z) (.U Z g46 (O.cmpS Z Z Z Z) (.U Z g45 (O.pickT g46 Z Z Z) (.E g45 Z (.nil ?_))))); refine ⟨by kernel_rfl, by kernel_rfl, ?_⟩; exact toN (Gm [] (.r Z Z (.r Z Z (.r Z Z (.r Z Z (.c Z (sbb (by simp only [g44, g45, g46, BL])) Z .n))))) .n Z)
         ·(iterate 9 refine .X Z g46 ?_); refine .U Z g45 (O.pickF g46 Z Z Z) (.E g45 Z (.nil ?_)); refine ⟨by kernel_rfl, by kernel_rfl, ?_⟩; exact toN (Gm [] (.r Z Z (.r Z Z (.r Z Z (.r Z Z (.c Z (sbb (by simp only [g44, g45, g46, BL])) Z .n))))) .n Z)
    ·refine W.exit ?_; cases h; refine rdX fun e_ => ?_; subst e_; (repeat with_reducible refine thru ?_); exact hit (fkN (Gm [] .n .n Z))
   ·intro w34 e_; subst e_; clear h; have h := z37; dsimp only at h; refine W.seq (W.pk (.A Z (.nil (W.ret ?_)))); cases h; exact lv Z Z
 ·clear h; refine W.pk (.M Z (.V Z (O.lenR sl28 Z Z) (.B Z (.M Z ?_)))); rcases tf ((List.length x0 : Int) == 0) with g1 | g1
  ·exact .X Z g1 (.X Z g1 (.X Z g1 (.T g1 Z (.nil (toN (Gm [] (.r Z Z (.c Z (sbb (by simp only [g1, BL])) Z .n)) .n Z))))))
  ·exact .N Z g1 (.U Z g1 (O.lenR sl28 Z Z) (.G Z g1 Z (.E g1 Z (.nil (toN (Gm [] (.r Z Z (.c Z (sbb (by simp only [g1, BL])) Z .n)) .n Z))))))
noncomputable def calendar_Good.f (x0 : Int) : Option (Bool) :=
 some ((decide (x0 ≥ 0)) && (decide (x0 ≤ 200000)))
theorem calendar_Good.ok {x0 : Int} {r : Bool} (h : calendar_Good.f x0 = some r) : Pm.Spec prog 46 [.imm (.val (.int .i64 x0))] (.imm (.val (.bool r))) [none] := by
 unfold calendar_Good.f at h; refine Pm.Spec.of_body Tryz.func46 Z (by kernel_rfl) (L Z) (L Z) ?_; refine W.ghost (σ' := (mkSt [(0, some (.i x0))] [] 1000)) (Gives.entry (.c Z .n) .n) (W.seq (W.pk (.A Z (.nil (W.seq (W.fork (mkSt [(2, some (.b ((decide (x0 ≥ 0)) && (decide (x0 ≤ 200000)))))] [] 1000) ?_ ?_))))))
 ·refine W.ret ?_; cases h; exact lv Z Z
 ·clear h; refine W.pk (.M Z (.B Z (.M Z ?_))); rcases tf (decide (x0 ≥ 0)) with g1 | g1
  ·exact .N Z g1 (.G Z g1 Z (.T g1 Z (.A Z (.nil (toN (Gm [] (.c Z (sbb (by simp only [g1, BL])) Z .n) .n Z))))))
  ·exact .X Z g1 (.X Z g1 (.E g1 Z (.A Z (.nil (toN (Gm [] (.c Z (sbb (by simp only [g1, BL])) Z .n) .n Z))))))
noncomputable def msg_arg.f (x0 : Bool) (x1 : Int) : Option (Int) :=
 if x0 = true then
 some 0
 else some x1
theorem msg_arg.ok {x0 : Bool} {x1 : Int} {r : Int} (h : msg_arg.f x0 x1 = some r) : Pm.Spec prog 45 [.imm (.val (.bool x0)), .imm (.val (.int .i64 x1))] (.imm (.val (.int .i64 r))) [none, none] := by
 unfold msg_arg.f at h; refine Pm.Spec.of_body Tryz.func45 Z (by kernel_rfl) (L Z) (L Z) ?_; refine W.ghost (σ' := (mkSt [(0, some (.b x0)), (1, some (.i x1))] [] 1000)) (Gives.entry (.c Z (.c Z .n)) .n) (W.seq (W.pk (.A Z (.nil (W.seq (W.seq (W.pk (.M Z (.nil (W.cnd Z h (fun q1 h => ?_) (fun q1 h => ?_)))))))))))
 ·refine W.seq (W.pk (.A Z (.nil (W.ret ?_)))); cases h; exact leaves (.inr Z) Z (.imm _) (cN (cN .nil)) Z Z
 ·refine W.skip (W.seq (W.pk (.M Z (.A Z (.nil (W.ret ?_)))))); cases h; exact leaves (.inr Z) Z (.imm _) (cN (cN .nil)) Z Z
noncomputable def msg_amount.f (x0 : Int) : Option (Bool) :=
 some (((x0 != 0) && (decide (x0 ≥ (-1125899906842624)))) && (decide (x0 ≤ 1125899906842624)))
theorem msg_amount.ok {x0 : Int} {r : Bool} (h : msg_amount.f x0 = some r) : Pm.Spec prog 48 [.imm (.val (.int .i64 x0))] (.imm (.val (.bool r))) [none] := by
 unfold msg_amount.f at h; refine Pm.Spec.of_body Tryz.func48 Z (by kernel_rfl) (L Z) (L Z) ?_; refine W.ghost (σ' := (mkSt [(0, some (.i x0))] [] 1000)) (Gives.entry (.c Z .n) .n) (W.seq (W.pk (.A Z (.nil (W.seq (W.fork (mkSt [(2, some (.b (((x0 != 0) && (decide (x0 ≥ (-1125899906842624)))) && (decide (x0 ≤ 1125899906842624)))))] [] 1000) ?_ ?_))))))
 ·refine W.ret ?_; cases h; exact lv Z Z
 ·clear h; refine W.pk (.M Z (.B Z (.M Z ?_))); rcases tf (x0 != 0) with g1 | g1
  ·refine .N Z g1 (.G Z g1 Z (.T g1 Z (.M Z ?_))); rcases tf (decide (x0 ≥ (-1125899906842624))) with g2 | g2
   ·exact .N Z g2 (.G Z g2 Z (.T g2 Z (.A Z (.nil (toN (Gm [] (.c Z (sbb (by simp only [g1, g2, BL])) Z .n) .n Z))))))
   ·exact .X Z g2 (.X Z g2 (.E g2 Z (.A Z (.nil (toN (Gm [] (.c Z (sbb (by simp only [g1, g2, BL])) Z .n) .n Z))))))
  ·exact .X Z g1 (.X Z g1 (.E g1 Z (.M Z (.X Z Z (.X Z Z (.E Z Z (.A Z (.nil (toN (Gm [] (.c Z (sbb (by simp only [g1, BL])) Z .n) .n Z))))))))))
noncomputable def msg_quote.f (x0 : api_Quote) : Option (Int) :=
 if (((((decide (x0.ID < 1)) || (decide (x0.ID > 1125899906842624))) || ((x0.Side != 1) && (x0.Side != 2))) || (decide (x0.Basket < 1))) || (decide (x0.Basket > 64))) = true then
 some 1
 else if ((((decide (x0.Amount < 1)) || (decide (x0.Amount > 1125899906842624))) || (decide (x0.Rate < (-1000000)))) || (decide (x0.Rate > 1000000))) = true then
 some 1
 else (calendar_Good.f x0.Start).bind fun t12 =>
 (if (!t12) = false ∧ (x0.End != 0) = true then calendar_Good.f x0.End else some default).bind fun t14 =>
 if ((!t12) || ((x0.End != 0) && (((!t14) || (decide (x0.End ≤ x0.Start))) || (decide ((IntKind.wrap .i64 (x0.End - x0.Start)) > 3660))))) = true then
 some 10
 else some 0
theorem msg_quote.ok {x0 : api_Quote} {r : Int} (h : msg_quote.f x0 = some r) : Pm.Spec prog 50 [.agg (im (api_Quote.enc x0))] (.imm (.val (.int .i64 r))) [none] := by
 unfold msg_quote.f at h; refine Pm.Spec.of_body Tryz.func50 Z (by kernel_rfl) (L Z) (L Z) ?_; refine W.ghost (σ' := (mkSt [(0, some (.agg (api_Quote.av x0)))] [] 1000)) (Gives.entry (.c Z .n) .n) (W.seq (W.pk (.t Z Z (O.box Z Z Z Z Z) (.A Z (.nil (W.seq (W.block (W.seq (W.fork (mkSt [(1, some (.ptr 1000 0)), (3, some (.b (((((decide (x0.ID < 1)) || (decide (x0.ID > 1125899906842624))) || ((x0.Side != 1) && (x0.Side != 2))) || (decide (x0.Basket < 1))) || (decide (x0.Basket > 64)))))] [(1000, some (.box (api_Quote.av x0)))] 1001) ?_ ?_)))))))))
 ·refine W.cnd Z h (fun q7 h => ?_) (fun q7 h => ?_)
  ·refine W.seq (W.pk (.A Z (.nil (W.ret ?_)))); cases h; exact lv Z Z
  ·refine W.seq (W.fork (mkSt [(1, some (.ptr 1000 0)), (32, some (.b ((((decide (x0.Amount < 1)) || (decide (x0.Amount > 1125899906842624))) || (decide (x0.Rate < (-1000000)))) || (decide (x0.Rate > 1000000)))))] [(1000, some (.box (api_Quote.av x0)))] 1001) ?_ ?_)
   ·refine W.cnd Z h (fun q11 h => ?_) (fun q11 h => ?_)
    ·refine W.seq (W.pk (.A Z (.nil (W.ret ?_)))); cases h; exact lv Z Z
    ·refine W.seq ?_; obtain ⟨t12, b13, h⟩ := bnd1 h; obtain ⟨t14, b15, h⟩ := bnd1 h; refine W.fork (mkSt [(51, some (.b ((!t12) || ((x0.End != 0) && (((!t14) || (decide (x0.End ≤ x0.Start))) || (decide ((IntKind.wrap .i64 (x0.End - x0.Start)) > 3660)))))))] [] 1001) ?_ ?_
     ·refine W.cnd Z h (fun q20 h => ?_) (fun q20 h => ?_)
      ·refine W.seq (W.pk (.A Z (.nil (W.ret ?_)))); cases h; exact lv Z Z
      ·refine W.skip (W.seq (W.pk (.A Z (.nil (W.ret ?_))))); cases h; exact lv Z Z
     ·clear h; refine W.pk (.F fld30_6 Z (.V Z (O.ld (y := .i x0.Start) ty3 Z Z Z) (.C (.b t12) [] 0 (calendar_Good.ok b13) ca46 Z (cI .nil) Z ?_))); refine .V Z (OpL.unV Z Z Z) (.M Z ?_); rcases tf t12 with g16 | g16
      ·refine .H fld30_7 Z (notT g16) Z (.U Z (notT g16) (O.ld (y := .i x0.End) ty3 Z Z Z) (.G Z (notT g16) Z (.N Z (notT g16) ?_))); rcases tf (x0.End != 0) with g17 | g17
       ·refine .H fld30_7 Z g17 Z (.U Z g17 (O.ld (y := .i x0.End) ty3 Z Z Z) (.call (.b t14) [] 0 (calendar_Good.ok ((if_pos ⟨(by simp only [g16, g17, BL]), (by simp only [g16, g17, BL])⟩).symm.trans b15)) Z (met Z Z Z g17) Z ca46 Z Z (cI .nil) Z Z Z Z Z ?_)); refine .U Z g17 (OpL.unV Z Z Z) (.N Z g17 ?_); rcases tf t14 with g18 | g18
        ·refine .H fld30_7 Z (notT g18) Z (.U Z (notT g18) (O.ld (y := .i x0.End) ty3 Z Z Z) (.H fld30_6 Z (notT g18) Z (.U Z (notT g18) (O.ld (y := .i x0.Start) ty3 Z Z Z) (.G Z (notT g18) Z (.U Z g17 (O.pickF (notT g18) Z Z Z) (.N Z g17 ?_)))))); rcases tf (decide (x0.End ≤ x0.Start)) with g19 | g19
         ·(iterate 6 refine .X Z g19 ?_); exact .U Z g17 (O.pickT g19 Z Z Z) (.U Z (notT g16) (O.pickT g17 Z Z Z) (.E (notT g16) Z (.A Z (.nil (toN (Gm [] (.c Z (sbb (by simp only [g16, g17, g18, g19, BL])) Z .n) .n Z))))))
         ·exact .H fld30_7 Z g19 Z (.U Z g19 (O.ld (y := .i x0.End) ty3 Z Z Z) (.H fld30_6 Z g19 Z (.U Z g19 (O.ld (y := .i x0.Start) ty3 Z Z Z) (.G Z g19 Z (.G Z g19 Z (.U Z g17 (O.pickF g19 Z Z Z) (.U Z (notT g16) (O.pickT g17 Z Z Z) (.E (notT g16) Z (.A Z (.nil (toN (Gm [] (.c Z (sbb (by simp only [g16, g17, g18, g19, BL])) Z .n) .n Z))))))))))))
        ·(iterate 5 refine .X Z (notF g18) ?_); refine .U Z g17 (O.pickT (notF g18) Z Z Z) (.N Z g17 ?_); (iterate 6 refine .X Z Z ?_); exact .U Z g17 (O.pickT Z Z Z Z) (.U Z (notT g16) (O.pickT g17 Z Z Z) (.E (notT g16) Z (.A Z (.nil (toN (Gm [] (.c Z (sbb (by simp only [g16, g17, g18, BL])) Z .n) .n Z))))))
       ·(iterate 5 refine .X Z g17 ?_); (iterate 5 refine .x Z (unmetU Z Z Z) ?_); refine .X Z g17 (.X Z g17 ?_); (iterate 6 refine .x Z (unmetU Z Z Z) ?_); exact .X Z g17 (.U Z (notT g16) (O.pickF g17 Z Z Z) (.E (notT g16) Z (.A Z (.nil (toN (Gm [] (.c Z (sbb (by simp only [g16, g17, BL])) Z .n) .n Z))))))
      ·(iterate 4 refine .X Z (notF g16) ?_); (iterate 19 refine .x Z (unmetU Z Z Z) ?_); exact .X Z (notF g16) (.T (notF g16) Z (.A Z (.nil (toN (Gm [] (.c Z (sbb (by simp only [g16, BL])) Z .n) .n Z)))))
   ·clear h; refine W.pk (.F fld30_4 Z (.V Z (O.ld (y := .i x0.Amount) ty3 Z Z Z) (.B Z (.M Z ?_)))); rcases tf (decide (x0.Amount < 1)) with g8 | g8
    ·refine .X Z g8 (.X Z g8 (.X Z g8 (.T g8 Z (.M Z (.X Z Z (.X Z Z (.X Z Z (.T Z Z (.M Z (.X Z Z (.X Z Z ?_))))))))))); exact .X Z Z (.T Z Z (.A Z (.nil (toN (Gm [] (.r Z Z (.c Z (sbb (by simp only [g8, BL])) Z .n)) (.r Z Z Z .n) Z)))))
    ·refine .H fld30_4 Z g8 Z (.U Z g8 (O.ld (y := .i x0.Amount) ty3 Z Z Z) (.G Z g8 Z (.E g8 Z (.M Z ?_)))); rcases tf (decide (x0.Amount > 1125899906842624)) with g9 | g9
     ·exact .X Z g9 (.X Z g9 (.X Z g9 (.T g9 Z (.M Z (.X Z Z (.X Z Z (.X Z Z (.T Z Z (.A Z (.nil (toN (Gm [] (.r Z Z (.c Z (sbb (by simp only [g8, g9, BL])) Z .n)) (.r Z Z Z .n) Z))))))))))))
     ·refine .H fld30_5 Z g9 Z (.U Z g9 (O.ld (y := .i x0.Rate) ty3 Z Z Z) (.G Z g9 Z (.E g9 Z (.M Z ?_)))); rcases tf (decide (x0.Rate < (-1000000))) with g10 | g10
      ·(iterate 3 refine .X Z g10 ?_); exact .T g10 Z (.A Z (.nil (toN (Gm [] (.r Z Z (.c Z (sbb (by simp only [g8, g9, g10, BL])) Z .n)) (.r Z Z Z .n) Z))))
      ·exact .H fld30_5 Z g10 Z (.U Z g10 (O.ld (y := .i x0.Rate) ty3 Z Z Z) (.G Z g10 Z (.E g10 Z (.A Z (.nil (toN (Gm [] (.r Z Z (.c Z (sbb (by simp only [g8, g9, g10, BL])) Z .n)) (.r Z Z Z .n) Z)))))))
 ·clear h; refine W.pk (.F fld30_0 Z (.V Z (O.ld (y := .i x0.ID) ty3 Z Z Z) (.B Z (.M Z ?_)))); rcases tf (decide (x0.ID < 1)) with g1 | g1
  ·refine .X Z g1 (.X Z g1 (.X Z g1 (.T g1 Z (.M Z ?_)))); (iterate 4 refine .X Z Z ?_); (iterate 3 refine .x Z (unmetU Z Z Z) ?_); refine .X Z Z (.T Z Z (.M Z (.X Z Z (.X Z Z (.X Z Z (.T Z Z (.M Z (.X Z Z (.X Z Z (.X Z Z (.T Z Z ?_))))))))))); exact .A Z (.nil (toN (Gm [] (.r Z Z (.c Z (sbb (by simp only [g1, BL])) Z .n)) (.r Z Z Z .n) Z)))
  ·refine .H fld30_0 Z g1 Z (.U Z g1 (O.ld (y := .i x0.ID) ty3 Z Z Z) (.G Z g1 Z (.E g1 Z (.M Z ?_)))); rcases tf (decide (x0.ID > 1125899906842624)) with g2 | g2
   ·(iterate 4 refine .X Z g2 ?_); (iterate 3 refine .x Z (unmetU Z Z Z) ?_); refine .X Z g2 (.T g2 Z (.M Z (.X Z Z (.X Z Z (.X Z Z (.T Z Z (.M Z (.X Z Z (.X Z Z (.X Z Z (.T Z Z ?_))))))))))); exact .A Z (.nil (toN (Gm [] (.r Z Z (.c Z (sbb (by simp only [g1, g2, BL])) Z .n)) (.r Z Z Z .n) Z)))
   ·refine .H fld30_2 Z g2 Z (.U Z g2 (O.ld (y := .i x0.Side) ty3 Z Z Z) (.G Z g2 Z (.N Z g2 ?_))); rcases tf (x0.Side != 1) with g3 | g3
    ·refine .H fld30_2 Z g3 Z (.U Z g3 (O.ld (y := .i x0.Side) ty3 Z Z Z) (.G Z g3 Z (.U Z g2 (O.pickT g3 Z Z Z) (.E g2 Z (.M Z ?_))))); rcases tf (x0.Side != 2) with g4 | g4
     ·exact .X Z g4 (.X Z g4 (.X Z g4 (.T g4 Z (.M Z (.X Z Z (.X Z Z (.X Z Z (.T Z Z (.A Z (.nil (toN (Gm [] (.r Z Z (.c Z (sbb (by simp only [g1, g2, g3, g4, BL])) Z .n)) (.r Z Z Z .n) Z))))))))))))
     ·refine .H fld30_3 Z g4 Z (.U Z g4 (O.ld (y := .i x0.Basket) ty3 Z Z Z) (.G Z g4 Z (.E g4 Z (.M Z ?_)))); rcases tf (decide (x0.Basket < 1)) with g5 | g5
      ·exact .X Z g5 (.X Z g5 (.X Z g5 (.T g5 Z (.A Z (.nil (toN (Gm [] (.r Z Z (.c Z (sbb (by simp only [g1, g2, g3, g4, g5, BL])) Z .n)) (.r Z Z Z .n) Z)))))))
      ·exact .H fld30_3 Z g5 Z (.U Z g5 (O.ld (y := .i x0.Basket) ty3 Z Z Z) (.G Z g5 Z (.E g5 Z (.A Z (.nil (toN (Gm [] (.r Z Z (.c Z (sbb (by simp only [g1, g2, g3, g4, g5, BL])) Z .n)) (.r Z Z Z .n) Z)))))))
    ·refine .X Z g3 (.X Z g3 (.X Z g3 (.U Z g2 (O.pickF g3 Z Z Z) (.E g2 Z (.M Z (.H fld30_3 Z Z Z (.U Z Z (O.ld (y := .i x0.Basket) ty3 Z Z Z) (.G Z Z Z (.E Z Z (.M Z ?_)))))))))); rcases tf (decide (x0.Basket < 1)) with g6 | g6
     ·exact .X Z g6 (.X Z g6 (.X Z g6 (.T g6 Z (.A Z (.nil (toN (Gm [] (.r Z Z (.c Z (sbb (by simp only [g1, g2, g3, g6, BL])) Z .n)) (.r Z Z Z .n) Z)))))))
     ·exact .H fld30_3 Z g6 Z (.U Z g6 (O.ld (y := .i x0.Basket) ty3 Z Z Z) (.G Z g6 Z (.E g6 Z (.A Z (.nil (toN (Gm [] (.r Z Z (.c Z (sbb (by simp only [g1, g2, g3, g6, BL])) Z .n)) (.r Z Z Z .n) Z)))))))
noncomputable def msg_lot.f (x0 : api_Lot) : Option (Int) :=
 if ((decide (x0.Qty < 1)) || (decide (x0.Qty > 1125899906842624))) = true then
 some 1
 else (isin_Check.f x0.ISIN).bind fun t3 =>
 some t3
theorem msg_lot.ok {x0 : api_Lot} {r : Int} (h : msg_lot.f x0 = some r) : Pm.Spec prog 112 [.agg [.imm (.val (.string (tx x0.ISIN))), .imm (.val (.int .i64 x0.Qty))]] (.imm (.val (.int .i64 r))) [none] := by
 unfold msg_lot.f at h; refine Pm.Spec.of_body Tryz.func112 Z (by kernel_rfl) (L Z) (L Z) ?_; refine W.ghost (σ' := (mkSt [(0, some (.agg [.s x0.ISIN, .i x0.Qty]))] [] 1000)) (Gives.entry (.c Z .n) .n) (W.seq (W.pk (.t Z Z (O.box Z Z Z Z Z) (.A Z (.nil (W.seq (W.seq (W.fork (mkSt [(1, some (.ptr 1000 0)), (10, some (.b ((decide (x0.Qty < 1)) || (decide (x0.Qty > 1125899906842624)))))] [(1000, some (.box [.s x0.ISIN, .i x0.Qty]))] 1001) ?_ ?_))))))))
 ·refine W.cnd Z h (fun q2 h => ?_) (fun q2 h => ?_)
  ·refine W.seq (W.pk (.A Z (.nil (W.ret ?_)))); cases h; exact lv Z Z
  ·refine W.skip (W.seq ?_); obtain ⟨t3, b4, h⟩ := bnd1 h; refine W.pk (.F fld32_0 Z (.V Z (O.ld (y := .s x0.ISIN) ty9 Z Z Z) (.C (.i t3) [] 0 (isin_Check.ok b4) ca49 Z (cI .nil) Z ?_))); refine .A Z (.nil (W.ret ?_)); cases h; exact lv Z Z
 ·clear h; refine W.pk (.F fld32_1 Z (.V Z (O.ld (y := .i x0.Qty) ty3 Z Z Z) (.B Z (.M Z ?_)))); rcases tf (decide (x0.Qty < 1)) with g1 | g1
  ·exact .X Z g1 (.X Z g1 (.X Z g1 (.T g1 Z (.nil (toN (Gm [] (.r Z Z (.c Z (sbb (by simp only [g1, BL])) Z .n)) (.r Z Z Z .n) Z))))))
  ·exact .H fld32_1 Z g1 Z (.U Z g1 (O.ld (y := .i x0.Qty) ty3 Z Z Z) (.G Z g1 Z (.E g1 Z (.nil (toN (Gm [] (.r Z Z (.c Z (sbb (by simp only [g1, BL])) Z .n)) (.r Z Z Z .n) Z))))))
noncomputable def msg_swap.b0 (x0 : msg_Swap) (v15 : Int) : Option (Int ⊕ (Int ⊕ Unit)) :=
 if (decide (v15 < (List.length x0.In : Int))) = true then
 if (0 : Int) ≤ v15 ∧ v15 < (List.length x0.In : Int) then
 (msg_lot.f (nth x0.In v15)).bind fun t32 =>
 if (t32 != 0) = true then
 some (.inr (.inl t32))
 else some (.inl (IntKind.wrap .i64 (v15 + 1)))
 else none
 else some (.inr (.inr ()))
noncomputable def msg_swap.r0 (x0 : msg_Swap) (s : Int) : Option (Int ⊕ (Int ⊕ Unit)) := msg_swap.b0 x0 s
noncomputable def msg_swap.f (x0 : msg_Swap) : Option (Int) :=
 (msg_member.f x0.Member).bind fun t1 =>
 if ((((!t1) || (decide (x0.Trade < 1))) || (decide (x0.Trade > 1125899906842624))) || (decide ((List.length x0.In : Int) > 64))) = true then
 some 1
 else (msg_lot.f x0.Out).bind fun t7 =>
 if (t7 != 0) = true then
 some t7
 else (loop (msg_swap.r0 x0) 0).bind fun o27 =>
 match o27 with
 | .inl r35 => some r35
 | .inr w26 =>
 some 0
theorem msg_swap.ok {x0 : msg_Swap} {r : Int} (h : msg_swap.f x0 = some r) : Pm.Spec prog 95 [.agg (im (msg_Swap.enc x0))] (.imm (.val (.int .i64 r))) [none] := by
 unfold msg_swap.f at h; refine Pm.Spec.of_body Tryz.func95 Z (by kernel_rfl) (L Z) (L Z) ?_; refine W.ghost (σ' := (mkSt [(0, some (.agg (msg_Swap.av x0)))] [] 1000)) (Gives.entry (.c Z .n) .n) (W.seq (W.pk (.t Z Z (O.box Z Z Z Z Z) (.A Z (.nil (W.seq (W.seq ?_))))))); obtain ⟨t1, b2, h⟩ := bnd1 h; refine W.fork (mkSt [(1, some (.ptr 1000 0)), (26, some (.b ((((!t1) || (decide (x0.Trade < 1))) || (decide (x0.Trade > 1125899906842624))) || (decide ((List.length x0.In : Int) > 64)))))] [(1000, some (.box (msg_Swap.av x0)))] 1001) ?_ ?_
 ·refine W.cnd Z h (fun q6 h => ?_) (fun q6 h => ?_)
  ·refine W.seq (W.pk (.A Z (.nil (W.ret ?_)))); cases h; exact lv Z Z
  ·refine W.skip (W.seq (W.seq ?_)); obtain ⟨t7, b8, h⟩ := bnd1 h; refine W.pk (.F fld88_2 Z (.V Z (O.ldN ty32 Z Z Z) (.C (.i t7) [] 0 (msg_lot.ok b8) ca112 Z (cC (.agg _ _ _ _ (cI (cI .nil))) .nil) Z ?_))); refine .A Z (.nil (W.seq (W.pk (.M Z (.B Z (.nil (W.cnd Z h (fun q9 h => ?_) (fun q9 h => ?_))))))))
   ·refine W.seq (W.pk (.M Z (.A Z (.nil (W.ret ?_))))); cases h; exact lv Z Z
   ·refine W.skip (W.seq (W.seq (W.pk (.F fld88_3 Z (.V Z (O.ld (y := .imm (.row 2 (List.map api_Lot.enc x0.In))) ty33 Z Z Z) (.V Z (O.lenR sl33 Z Z) (.M Z (.nil ?_)))))))); obtain ⟨o27, b28, z29⟩ := bnd1 h; refine W.fork2 (out := o27) (fun (w26 : Unit) => mkSt [] [] 1001) ?_ ?_
    ·clear h; refine W.block (W.loopF (fun (s_ : Int) => mkSt [(34, some (.imm (.row 2 (List.map api_Lot.enc x0.In)))), (35, some (.i (List.length x0.In : Int))), (36, some (.i s_))] [] 1001) b28 (Gm [] (.e Z Z) .n Z) ?_); rintro v15 s_ hr; have h : msg_swap.b0 x0 v15 = some s_ := hr; unfold msg_swap.b0 at h; refine W.seq (W.pk (.B Z (.nil (W.seq (W.cnd Z h (fun q30 h => ?_) (fun q30 h => ?_))))))
     ·refine W.skip (W.seq (W.block (W.seq ?_))); obtain ⟨c31, h⟩ := chk h; refine W.pk (.V Z (O.idx sl33 c31 Z Z Z) (.V Z (O.ldN ty32 Z Z Z) (.t Z Z (O.alloc z32 Z) (.S ty32 Z [.s ((nth x0.In v15).ISIN), .i ((nth x0.In v15).Qty)] Z (.nil (W.seq ?_)))))); obtain ⟨t32, b33, h⟩ := bnd1 h; refine W.pk (.V Z (O.ldN ty32 Z Z Z) (.C (.i t32) [] 0 (msg_lot.ok b33) ca112 Z (cC (.agg _ _ _ _ (cI (cI .nil))) .nil) Z ?_)); refine .A Z (.nil (W.seq (W.pk (.M Z (.B Z (.nil (W.cnd Z h (fun q34 h => ?_) (fun q34 h => ?_))))))))
      ·refine W.seq (W.pk (.M Z (.A Z (.nil (W.ret ?_))))); cases h; refine rdR fun e_ => ?_; subst e_; have h := z29; dsimp only at h; refine fkR ?_; cases h; exact lv Z Z
      ·refine W.skip (W.pk (.B Z (.M Z (.nil ?_)))); cases h; exact rdN (Gm [] (.e Z Z) .n Z)
     ·refine W.exit ?_; cases h; refine rdX fun e_ => ?_; subst e_; (repeat with_reducible refine thru ?_); exact hit (fkN (Gm [] .n .n Z))
    ·intro w26 e_; subst e_; clear h; have h := z29; dsimp only at h; refine W.seq (W.pk (.A Z (.nil (W.ret ?_)))); cases h; exact lv Z Z
 ·clear h; refine W.pk (.F fld88_0 Z (.V Z (O.ld (y := .i x0.Member) ty3 Z Z Z) (.C (.b t1) [] 0 (msg_member.ok b2) ca41 Z (cI .nil) Z ?_))); refine .V Z (OpL.unV Z Z Z) (.M Z ?_); rcases tf t1 with g3 | g3
  ·refine .H fld88_1 Z (notT g3) Z (.U Z (notT g3) (O.ld (y := .i x0.Trade) ty3 Z Z Z) (.G Z (notT g3) Z (.E (notT g3) Z (.M Z ?_)))); rcases tf (decide (x0.Trade < 1)) with g4 | g4
   ·refine .X Z g4 (.X Z g4 (.X Z g4 (.T g4 Z (.M Z ?_)))); (iterate 4 refine .X Z Z ?_); exact .T Z Z (.nil (toN (Gm [] (.r Z Z (.c Z (sbb (by simp only [g3, g4, BL])) Z .n)) (.r Z Z Z .n) Z)))
   ·refine .H fld88_1 Z g4 Z (.U Z g4 (O.ld (y := .i x0.Trade) ty3 Z Z Z) (.G Z g4 Z (.E g4 Z (.M Z ?_)))); rcases tf (decide (x0.Trade > 1125899906842624)) with g5 | g5
    ·(iterate 4 refine .X Z g5 ?_); exact .T g5 Z (.nil (toN (Gm [] (.r Z Z (.c Z (sbb (by simp only [g3, g4, g5, BL])) Z .n)) (.r Z Z Z .n) Z)))
    ·exact .H fld88_3 Z g5 Z (.U Z g5 (O.ld (y := .imm (.row 2 (List.map api_Lot.enc x0.In))) ty33 Z Z Z) (.U Z g5 (O.lenR sl33 Z Z) (.G Z g5 Z (.E g5 Z (.nil (toN (Gm [] (.r Z Z (.c Z (sbb (by simp only [g3, g4, g5, BL])) Z .n)) (.r Z Z Z .n) Z)))))))
  ·(iterate 3 refine .X Z (notF g3) ?_); refine .T (notF g3) Z (.M Z (.X Z Z (.X Z Z (.X Z Z (.T Z Z (.M Z ?_)))))); (iterate 4 refine .X Z Z ?_); exact .T Z Z (.nil (toN (Gm [] (.r Z Z (.c Z (sbb (by simp only [g3, BL])) Z .n)) (.r Z Z Z .n) Z)))
noncomputable def msg_check.f (x0 : msg_Message) : Option (Int) :=
 if (x0.ismsg_Cancel) = true then
 (msg_member.f ((x0.asmsg_Cancel).Member)).bind fun t2 =>
 (msg_arg.f ((t2 && (decide (((x0.asmsg_Cancel).Quote) ≥ 1))) && (decide (((x0.asmsg_Cancel).Quote) ≤ 1125899906842624))) 1).bind fun t4 =>
 some t4
 else if (x0.ismsg_Notice) = true then
 (msg_member.f ((x0.asmsg_Notice).Member)).bind fun t9 =>
 if (((!t9) || (decide (((x0.asmsg_Notice).Trade) < 1))) || (decide (((x0.asmsg_Notice).Trade) > 1125899906842624))) = true then
 some 1
 else (calendar_Good.f ((x0.asmsg_Notice).Day)).bind fun t14 =>
 (msg_arg.f t14 10).bind fun t16 =>
 some t16
 else if (x0.ismsg_Swap) = true then
 (msg_swap.f (⟨(x0.asmsg_Swap).Member, (x0.asmsg_Swap).Trade, ((x0.asmsg_Swap).Out), (x0.asmsg_Swap).In⟩ : msg_Swap)).bind fun t19 =>
 some t19
 else if (x0.ismsg_Settle) = true then
 (msg_member.f ((x0.asmsg_Settle).Member)).bind fun t22 =>
 if (!t22) = true then
 some 1
 else (calendar_Good.f ((x0.asmsg_Settle).Day)).bind fun t25 =>
 (msg_arg.f t25 10).bind fun t27 =>
 some t27
 else if (x0.ismsg_Default) = true then
 (msg_member.f ((x0.asmsg_Default).Member)).bind fun t30 =>
 (msg_arg.f t30 1).bind fun t32 =>
 some t32
 else if (x0.ismsg_Bound) = true then
 (msg_member.f ((x0.asmsg_Bound).Member)).bind fun t35 =>
 (msg_arg.f ((t35 && (decide (((x0.asmsg_Bound).Amount) ≥ 0))) && (decide (((x0.asmsg_Bound).Amount) ≤ 1125899906842624))) 1).bind fun t37 =>
 some t37
 else if (x0.ismsg_Reset) = true then
 if ((((decide (((x0.asmsg_Reset).Trade) < 1)) || (decide (((x0.asmsg_Reset).Trade) > 1125899906842624))) || (decide (((x0.asmsg_Reset).Rate) < (-1000000)))) || (decide (((x0.asmsg_Reset).Rate) > 1000000))) = true then
 some 1
 else (calendar_Good.f ((x0.asmsg_Reset).Day)).bind fun t46 =>
 (msg_arg.f t46 10).bind fun t48 =>
 some t48
 else some 17
theorem msg_check.ok {x0 : msg_Message} {r : Int} (h : msg_check.f x0 = some r) : Pm.Spec prog 51 [.imm (msg_Message.enc x0)] (.imm (.val (.int .i64 r))) [none] := by
 unfold msg_check.f at h; refine Pm.Spec.of_body Tryz.func51 Z (by kernel_rfl) (L Z) (L Z) ?_; refine W.ghost (σ' := (mkSt [(0, some (.imm (msg_Message.enc x0)))] [] 1000)) (Gives.entry (.c Z .n) .n) (W.seq (W.pk (.A Z (.nil (W.seq (W.seq (W.pk (.M Z (.nil (W.block (W.seq ?_))))))))))); refine W.pk (.V Z (O.asOk (cs := [.i ((x0.asmsg_Cancel).Member), .i ((x0.asmsg_Cancel).Quote)]) pl84 (msg_Message.atmsg_Cancel x0) Z Z Z) ?_); (iterate 2 refine .V Z (OpL.extract Z Z Z) ?_); refine .nil (W.cnd Z h (fun q1 h => ?_) (fun q1 h => ?_))
 ·refine W.seq (W.pk (.t Z Z (O.alloc z84 Z) (.S ty84 Z [.i ((x0.asmsg_Cancel).Member), .i ((x0.asmsg_Cancel).Quote)] Z (.nil (W.seq ?_))))); obtain ⟨t2, b3, h⟩ := bnd1 h; obtain ⟨t4, b5, h⟩ := bnd1 h; refine W.fork (mkSt [(2, some (.i t4))] [] 1001) ?_ ?_
  ·refine W.ret ?_; cases h; exact lv Z Z
  ·clear h; refine W.pk (.F fld84_0 Z (.V Z (O.ld (y := .i ((x0.asmsg_Cancel).Member)) ty3 Z Z Z) (.C (.b t2) [] 0 (msg_member.ok b3) ca41 Z (cI .nil) Z ?_))); refine .M Z ?_; rcases tf t2 with g6 | g6
   ·refine .H fld84_1 Z g6 Z (.U Z g6 (O.ld (y := .i ((x0.asmsg_Cancel).Quote)) ty3 Z Z Z) (.G Z g6 Z (.T g6 Z (.M Z ?_)))); rcases tf (decide (((x0.asmsg_Cancel).Quote) ≥ 1)) with g7 | g7
    ·refine .H fld84_1 Z g7 Z (.U Z g7 (O.ld (y := .i ((x0.asmsg_Cancel).Quote)) ty3 Z Z Z) (.G Z g7 Z (.T g7 Z (.C (.i t4) [] 0 (msg_arg.ok ((show msg_arg.f (decide (((x0.asmsg_Cancel).Quote) ≤ 1125899906842624)) 1 = msg_arg.f ((t2 && (decide (((x0.asmsg_Cancel).Quote) ≥ 1))) && (decide (((x0.asmsg_Cancel).Quote) ≤ 1125899906842624))) 1 from by first | (simp only [g6, g7, BL]; done) | (repeat (first | rw [g6] | rw [g7])) <;> simp only [BL]).trans b5)) ca45 Z (cI (cI .nil)) Z ?_)))); exact .A Z (.nil (toN (Gm [] (.r Z Z .n) .n Z)))
    ·refine .X Z g7 (.X Z g7 (.X Z g7 (.E g7 Z (.C (.i t4) [] 0 (msg_arg.ok ((show msg_arg.f false 1 = msg_arg.f ((t2 && (decide (((x0.asmsg_Cancel).Quote) ≥ 1))) && (decide (((x0.asmsg_Cancel).Quote) ≤ 1125899906842624))) 1 from by first | (simp only [g6, g7, BL]; done) | (repeat (first | rw [g6] | rw [g7])) <;> simp only [BL]).trans b5)) ca45 Z (cI (cI .nil)) Z ?_)))); exact .A Z (.nil (toN (Gm [] (.r Z Z .n) .n Z)))
   ·refine .X Z g6 (.X Z g6 (.X Z g6 (.E g6 Z (.M Z (.X Z Z (.X Z Z (.X Z Z (.E Z Z (.C (.i t4) [] 0 (msg_arg.ok ((show msg_arg.f false 1 = msg_arg.f ((t2 && (decide (((x0.asmsg_Cancel).Quote) ≥ 1))) && (decide (((x0.asmsg_Cancel).Quote) ≤ 1125899906842624))) 1 from by simp only [g6, BL]).trans b5)) ca45 Z (cI (cI .nil)) Z ?_))))))))); exact .A Z (.nil (toN (Gm [] (.r Z Z .n) .n Z)))
 ·refine W.seq (W.pk (.V Z (O.asOk (cs := [.i ((x0.asmsg_Notice).Member), .i ((x0.asmsg_Notice).Trade), .i ((x0.asmsg_Notice).Day)]) pl86 (msg_Message.atmsg_Notice x0) Z Z Z) ?_)); (iterate 2 refine .V Z (OpL.extract Z Z Z) ?_); refine .nil (W.cnd Z h (fun q8 h => ?_) (fun q8 h => ?_))
  ·refine W.seq (W.pk (.t Z Z (O.alloc z86 Z) (.S ty86 Z [.i ((x0.asmsg_Notice).Member), .i ((x0.asmsg_Notice).Trade), .i ((x0.asmsg_Notice).Day)] Z (.nil (W.seq (W.seq ?_)))))); obtain ⟨t9, b10, h⟩ := bnd1 h; refine W.fork (mkSt [(4, some (.ptr 1000 0)), (44, some (.b (((!t9) || (decide (((x0.asmsg_Notice).Trade) < 1))) || (decide (((x0.asmsg_Notice).Trade) > 1125899906842624)))))] [(1000, some (.box [.i ((x0.asmsg_Notice).Member), .i ((x0.asmsg_Notice).Trade), .i ((x0.asmsg_Notice).Day)]))] 1001) ?_ ?_
   ·refine W.cnd Z h (fun q13 h => ?_) (fun q13 h => ?_)
    ·refine W.seq (W.pk (.A Z (.nil (W.ret ?_)))); cases h; exact lv Z Z
    ·refine W.skip (W.seq ?_); obtain ⟨t14, b15, h⟩ := bnd1 h; obtain ⟨t16, b17, h⟩ := bnd1 h; refine W.pk (.F fld86_2 Z (.V Z (O.ld (y := .i ((x0.asmsg_Notice).Day)) ty3 Z Z Z) (.C (.b t14) [] 0 (calendar_Good.ok b15) ca46 Z (cI .nil) Z ?_))); refine .C (.i t16) [] 0 (msg_arg.ok b17) ca45 Z (cI (cI .nil)) Z ?_; refine .A Z (.nil (W.ret ?_)); cases h; exact lv Z Z
   ·clear h; refine W.pk (.F fld86_0 Z (.V Z (O.ld (y := .i ((x0.asmsg_Notice).Member)) ty3 Z Z Z) (.C (.b t9) [] 0 (msg_member.ok b10) ca41 Z (cI .nil) Z ?_))); refine .V Z (OpL.unV Z Z Z) (.M Z ?_); rcases tf t9 with g11 | g11
    ·refine .H fld86_1 Z (notT g11) Z (.U Z (notT g11) (O.ld (y := .i ((x0.asmsg_Notice).Trade)) ty3 Z Z Z) (.G Z (notT g11) Z (.E (notT g11) Z (.M Z ?_)))); rcases tf (decide (((x0.asmsg_Notice).Trade) < 1)) with g12 | g12
     ·(iterate 3 refine .X Z g12 ?_); exact .T g12 Z (.nil (toN (Gm [] (.r Z Z (.c Z (sbb (by simp only [g11, g12, BL])) Z .n)) (.r Z Z Z .n) Z)))
     ·exact .H fld86_1 Z g12 Z (.U Z g12 (O.ld (y := .i ((x0.asmsg_Notice).Trade)) ty3 Z Z Z) (.G Z g12 Z (.E g12 Z (.nil (toN (Gm [] (.r Z Z (.c Z (sbb (by simp only [g11, g12, BL])) Z .n)) (.r Z Z Z .n) Z))))))
    ·(iterate 3 refine .X Z (notF g11) ?_); exact .T (notF g11) Z (.M Z (.X Z Z (.X Z Z (.X Z Z (.T Z Z (.nil (toN (Gm [] (.r Z Z (.c Z (sbb (by simp only [g11, BL])) Z .n)) (.r Z Z Z .n) Z))))))))
  ·refine W.seq (W.pk (.V Z (O.asOk (cs := [.i ((x0.asmsg_Swap).Member), .i ((x0.asmsg_Swap).Trade), .s (((x0.asmsg_Swap).Out).ISIN), .i (((x0.asmsg_Swap).Out).Qty), .imm (.row 2 (List.map api_Lot.enc ((x0.asmsg_Swap).In)))]) pl88 (msg_Message.atmsg_Swap x0) Z Z Z) ?_)); (iterate 2 refine .V Z (OpL.extract Z Z Z) ?_); refine .nil (W.cnd Z h (fun q18 h => ?_) (fun q18 h => ?_))
   ·refine W.seq (W.pk (.t Z Z (O.alloc z88 Z) (.S ty88 Z [.i ((x0.asmsg_Swap).Member), .i ((x0.asmsg_Swap).Trade), .s (((x0.asmsg_Swap).Out).ISIN), .i (((x0.asmsg_Swap).Out).Qty), .imm (.row 2 (List.map api_Lot.enc ((x0.asmsg_Swap).In)))] Z (.nil (W.seq ?_))))); obtain ⟨t19, b20, h⟩ := bnd1 h; refine W.pk (.V Z (O.ldN ty88 Z Z Z) (.C (.i t19) [] 0 (msg_swap.ok b20) ca95 Z (cC (.agg _ _ _ _ (cI (cI (cI (cI (cI .nil)))))) .nil) Z ?_)); refine .A Z (.nil (W.ret ?_)); cases h; exact lv Z Z
   ·refine W.seq (W.pk (.V Z (O.asOk (cs := [.i ((x0.asmsg_Settle).Member), .i ((x0.asmsg_Settle).Day), .b ((x0.asmsg_Settle).Done)]) pl90 (msg_Message.atmsg_Settle x0) Z Z Z) ?_)); (iterate 2 refine .V Z (OpL.extract Z Z Z) ?_); refine .nil (W.cnd Z h (fun q21 h => ?_) (fun q21 h => ?_))
    ·refine W.seq (W.pk (.t Z Z (O.alloc z90 Z) (.S ty90 Z [.i ((x0.asmsg_Settle).Member), .i ((x0.asmsg_Settle).Day), .b ((x0.asmsg_Settle).Done)] Z (.nil (W.seq (W.seq ?_)))))); obtain ⟨t22, b23, h⟩ := bnd1 h; refine W.pk (.F fld90_0 Z (.V Z (O.ld (y := .i ((x0.asmsg_Settle).Member)) ty3 Z Z Z) (.C (.b t22) [] 0 (msg_member.ok b23) ca41 Z (cI .nil) Z ?_))); refine .V Z (OpL.unV Z Z Z) (.nil (W.cnd Z h (fun q24 h => ?_) (fun q24 h => ?_)))
     ·refine W.seq (W.pk (.A Z (.nil (W.ret ?_)))); cases h; exact lv Z Z
     ·refine W.skip (W.seq ?_); obtain ⟨t25, b26, h⟩ := bnd1 h; obtain ⟨t27, b28, h⟩ := bnd1 h; refine W.pk (.F fld90_1 Z (.V Z (O.ld (y := .i ((x0.asmsg_Settle).Day)) ty3 Z Z Z) (.C (.b t25) [] 0 (calendar_Good.ok b26) ca46 Z (cI .nil) Z ?_))); refine .C (.i t27) [] 0 (msg_arg.ok b28) ca45 Z (cI (cI .nil)) Z ?_; refine .A Z (.nil (W.ret ?_)); cases h; exact lv Z Z
    ·refine W.seq (W.pk (.V Z (O.asOk (cs := [.i ((x0.asmsg_Default).Member)]) pl92 (msg_Message.atmsg_Default x0) Z Z Z) ?_)); (iterate 2 refine .V Z (OpL.extract Z Z Z) ?_); refine .nil (W.cnd Z h (fun q29 h => ?_) (fun q29 h => ?_))
     ·refine W.seq (W.pk (.t Z Z (O.alloc z92 Z) (.S ty92 Z [.i ((x0.asmsg_Default).Member)] Z (.nil (W.seq ?_))))); obtain ⟨t30, b31, h⟩ := bnd1 h; obtain ⟨t32, b33, h⟩ := bnd1 h; refine W.pk (.F fld92_0 Z (.V Z (O.ld (y := .i ((x0.asmsg_Default).Member)) ty3 Z Z Z) (.C (.b t30) [] 0 (msg_member.ok b31) ca41 Z (cI .nil) Z ?_))); refine .C (.i t32) [] 0 (msg_arg.ok b33) ca45 Z (cI (cI .nil)) Z ?_; refine .A Z (.nil (W.ret ?_)); cases h; exact lv Z Z
     ·refine W.seq (W.pk (.V Z (O.asOk (cs := [.i ((x0.asmsg_Bound).Member), .i ((x0.asmsg_Bound).Amount)]) pl94 (msg_Message.atmsg_Bound x0) Z Z Z) ?_)); (iterate 2 refine .V Z (OpL.extract Z Z Z) ?_); refine .nil (W.cnd Z h (fun q34 h => ?_) (fun q34 h => ?_))
      ·refine W.seq (W.pk (.t Z Z (O.alloc z94 Z) (.S ty94 Z [.i ((x0.asmsg_Bound).Member), .i ((x0.asmsg_Bound).Amount)] Z (.nil (W.seq ?_))))); obtain ⟨t35, b36, h⟩ := bnd1 h; obtain ⟨t37, b38, h⟩ := bnd1 h; refine W.fork (mkSt [(2, some (.i t37))] [] 1001) ?_ ?_
       ·refine W.ret ?_; cases h; exact lv Z Z
       ·clear h; refine W.pk (.F fld94_0 Z (.V Z (O.ld (y := .i ((x0.asmsg_Bound).Member)) ty3 Z Z Z) (.C (.b t35) [] 0 (msg_member.ok b36) ca41 Z (cI .nil) Z ?_))); refine .M Z ?_; rcases tf t35 with g39 | g39
        ·refine .H fld94_1 Z g39 Z (.U Z g39 (O.ld (y := .i ((x0.asmsg_Bound).Amount)) ty3 Z Z Z) (.G Z g39 Z (.T g39 Z (.M Z ?_)))); rcases tf (decide (((x0.asmsg_Bound).Amount) ≥ 0)) with g40 | g40
         ·refine .H fld94_1 Z g40 Z (.U Z g40 (O.ld (y := .i ((x0.asmsg_Bound).Amount)) ty3 Z Z Z) (.G Z g40 Z (.T g40 Z (.C (.i t37) [] 0 (msg_arg.ok ((show msg_arg.f (decide (((x0.asmsg_Bound).Amount) ≤ 1125899906842624)) 1 = msg_arg.f ((t35 && (decide (((x0.asmsg_Bound).Amount) ≥ 0))) && (decide (((x0.asmsg_Bound).Amount) ≤ 1125899906842624))) 1 from by first | (simp only [g39, g40, BL]; done) | (repeat (first | rw [g39] | rw [g40])) <;> simp only [BL]).trans b38)) ca45 Z (cI (cI .nil)) Z ?_)))); exact .A Z (.nil (toN (Gm [] (.r Z Z .n) .n Z)))
         ·(iterate 3 refine .X Z g40 ?_); refine .E g40 Z (.C (.i t37) [] 0 (msg_arg.ok ((show msg_arg.f false 1 = msg_arg.f ((t35 && (decide (((x0.asmsg_Bound).Amount) ≥ 0))) && (decide (((x0.asmsg_Bound).Amount) ≤ 1125899906842624))) 1 from by first | (simp only [g39, g40, BL]; done) | (repeat (first | rw [g39] | rw [g40])) <;> simp only [BL]).trans b38)) ca45 Z (cI (cI .nil)) Z ?_); exact .A Z (.nil (toN (Gm [] (.r Z Z .n) .n Z)))
        ·(iterate 3 refine .X Z g39 ?_); refine .E g39 Z (.M Z (.X Z Z (.X Z Z (.X Z Z (.E Z Z (.C (.i t37) [] 0 (msg_arg.ok ((show msg_arg.f false 1 = msg_arg.f ((t35 && (decide (((x0.asmsg_Bound).Amount) ≥ 0))) && (decide (((x0.asmsg_Bound).Amount) ≤ 1125899906842624))) 1 from by simp only [g39, BL]).trans b38)) ca45 Z (cI (cI .nil)) Z ?_)))))); exact .A Z (.nil (toN (Gm [] (.r Z Z .n) .n Z)))
      ·refine W.seq (W.pk (.V Z (O.asOk (cs := [.i ((x0.asmsg_Reset).Trade), .i ((x0.asmsg_Reset).Day), .i ((x0.asmsg_Reset).Rate)]) pl96 (msg_Message.atmsg_Reset x0) Z Z Z) ?_)); (iterate 2 refine .V Z (OpL.extract Z Z Z) ?_); refine .nil (W.cnd Z h (fun q41 h => ?_) (fun q41 h => ?_))
       ·refine W.seq (W.pk (.t Z Z (O.alloc z96 Z) (.S ty96 Z [.i ((x0.asmsg_Reset).Trade), .i ((x0.asmsg_Reset).Day), .i ((x0.asmsg_Reset).Rate)] Z (.nil (W.seq (W.seq (W.fork (mkSt [(9, some (.ptr 1000 0)), (109, some (.b ((((decide (((x0.asmsg_Reset).Trade) < 1)) || (decide (((x0.asmsg_Reset).Trade) > 1125899906842624))) || (decide (((x0.asmsg_Reset).Rate) < (-1000000)))) || (decide (((x0.asmsg_Reset).Rate) > 1000000)))))] [(1000, some (.box [.i ((x0.asmsg_Reset).Trade), .i ((x0.asmsg_Reset).Day), .i ((x0.asmsg_Reset).Rate)]))] 1001) ?_ ?_)))))))
        ·refine W.cnd Z h (fun q45 h => ?_) (fun q45 h => ?_)
         ·refine W.seq (W.pk (.A Z (.nil (W.ret ?_)))); cases h; exact lv Z Z
         ·refine W.skip (W.seq ?_); obtain ⟨t46, b47, h⟩ := bnd1 h; obtain ⟨t48, b49, h⟩ := bnd1 h; refine W.pk (.F fld96_1 Z (.V Z (O.ld (y := .i ((x0.asmsg_Reset).Day)) ty3 Z Z Z) (.C (.b t46) [] 0 (calendar_Good.ok b47) ca46 Z (cI .nil) Z ?_))); refine .C (.i t48) [] 0 (msg_arg.ok b49) ca45 Z (cI (cI .nil)) Z ?_; refine .A Z (.nil (W.ret ?_)); cases h; exact lv Z Z
        ·clear h; refine W.pk (.F fld96_0 Z (.V Z (O.ld (y := .i ((x0.asmsg_Reset).Trade)) ty3 Z Z Z) (.B Z (.M Z ?_)))); rcases tf (decide (((x0.asmsg_Reset).Trade) < 1)) with g42 | g42
         ·(iterate 3 refine .X Z g42 ?_); refine .T g42 Z (.M Z (.X Z Z (.X Z Z (.X Z Z (.T Z Z (.M Z (.X Z Z (.X Z Z (.X Z Z (.T Z Z (.nil ?_))))))))))); exact toN (Gm [] (.r Z Z (.c Z (sbb (by simp only [g42, BL])) Z .n)) (.r Z Z Z .n) Z)
         ·refine .H fld96_0 Z g42 Z (.U Z g42 (O.ld (y := .i ((x0.asmsg_Reset).Trade)) ty3 Z Z Z) (.G Z g42 Z (.E g42 Z (.M Z ?_)))); rcases tf (decide (((x0.asmsg_Reset).Trade) > 1125899906842624)) with g43 | g43
          ·(iterate 3 refine .X Z g43 ?_); exact .T g43 Z (.M Z (.X Z Z (.X Z Z (.X Z Z (.T Z Z (.nil (toN (Gm [] (.r Z Z (.c Z (sbb (by simp only [g42, g43, BL])) Z .n)) (.r Z Z Z .n) Z))))))))
          ·refine .H fld96_2 Z g43 Z (.U Z g43 (O.ld (y := .i ((x0.asmsg_Reset).Rate)) ty3 Z Z Z) (.G Z g43 Z (.E g43 Z (.M Z ?_)))); rcases tf (decide (((x0.asmsg_Reset).Rate) < (-1000000))) with g44 | g44
           ·(iterate 3 refine .X Z g44 ?_); exact .T g44 Z (.nil (toN (Gm [] (.r Z Z (.c Z (sbb (by simp only [g42, g43, g44, BL])) Z .n)) (.r Z Z Z .n) Z)))
           ·exact .H fld96_2 Z g44 Z (.U Z g44 (O.ld (y := .i ((x0.asmsg_Reset).Rate)) ty3 Z Z Z) (.G Z g44 Z (.E g44 Z (.nil (toN (Gm [] (.r Z Z (.c Z (sbb (by simp only [g42, g43, g44, BL])) Z .n)) (.r Z Z Z .n) Z))))))
       ·refine W.skip (W.seq (W.pk (.A Z (.nil (W.ret ?_))))); cases h; exact lv Z Z
end Go.Proofs.YtbmokbkgielmmaaGreat
