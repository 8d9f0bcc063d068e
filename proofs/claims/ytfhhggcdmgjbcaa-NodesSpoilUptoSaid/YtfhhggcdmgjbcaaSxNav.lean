/-
  A part of the walk of the seat: laws of a small proof system, and contracts of functions, each proved. Conditions: as each theorem says.
-/
import Derived.Test.YtfhhggcdmgjbcaaSxCode
namespace Go.Proofs.Ytfhhggcdmgjbcaa.Sx
open Go Go.RowKit

/-! ### Code by its place in a function's body -/
def fbody (f : Func) : Code := match f.body with | some c => c | none => .skip
def cl : Code → Code
  | .seq a _ => a
  | .cond _ a _ => a
  | .block _ a => a
  | .loop a => a
  | .scope a => a
  | .rangeFunc _ _ a _ => a
  | c => c
def cr : Code → Code
  | .seq _ b => b
  | .cond _ _ b => b
  | .rangeFunc _ _ _ b => b
  | c => c
def cops : Code → Array Oper
  | .region _ ops _ => ops
  | _ => #[]
inductive Shape where
  | seq
  | region (draws : Bool) (n : Nat)
  | cond (c : Nat)
  | block (id : Nat)
  | loop
  | skip
  | ret
  | exit (id : Nat)
  | other
def shapeOf : Code → Shape
  | .seq _ _ => .seq
  | .region _ ops d => .region d ops.size
  | .cond (.tmp t) _ _ => .cond t
  | .block id _ => .block id
  | .loop _ => .loop
  | .skip => .skip
  | .ret => .ret
  | .exit id => .exit id
  | _ => .other

section
variable {X : Cx} {c : Code} {E : Env} {S : List Item} {Q : Exit → Act → World → Prop}
theorem ev_seq (hs : shapeOf c = .seq) (h : Ev X (cl c) E S (Exit.then ((cr c).wpIn (fence X.r) 0 X.P Q) Q)) : Ev X c E S Q := by
  cases c <;> first | (exact Ev.seq h) | (unfold shapeOf at hs; cases hs) | (rename_i x _ _; cases x <;> cases hs)
theorem ev_region {n : Nat} (hs : shapeOf c = .region false n) (h : Rg X (cops c) 0 n E S Q) : Ev X c E S Q := by
  cases c with
  | region id ops d =>
    simp only [shapeOf, Shape.region.injEq] at hs
    obtain ⟨rfl, rfl⟩ := hs
    exact Ev.region h
  | cond x _ _ => cases x <;> cases hs
  | _ => cases hs
theorem ev_cond {t : Nat} {b : Bool} (hs : shapeOf c = .cond t) (hc : E.get t = some (.bool b)) (ht : b = true → Ev X (cl c) E S Q) (hf : b = false → Ev X (cr c) E S Q) : Ev X c E S Q := by
  cases c with
  | cond x a b' =>
    cases x with
    | tmp u =>
      simp only [shapeOf, Shape.cond.injEq] at hs
      subst hs
      exact Ev.cond hc ht hf
    | _ => cases hs
  | _ => cases hs
theorem ev_cond_t {t : Nat} (hs : shapeOf c = .cond t) (hc : E.get t = some (.bool true)) (ht : Ev X (cl c) E S Q) : Ev X c E S Q := ev_cond hs hc (fun _ => ht) (fun e => by cases e)
theorem ev_cond_f {t : Nat} (hs : shapeOf c = .cond t) (hc : E.get t = some (.bool false)) (hf : Ev X (cr c) E S Q) : Ev X c E S Q := ev_cond hs hc (fun e => by cases e) (fun _ => hf)
theorem ev_block {id : Nat} (hs : shapeOf c = .block id) (h : Ev X (cl c) E S (Exit.inBlock id Q)) : Ev X c E S Q := by
  cases c with
  | block i a =>
    simp only [shapeOf, Shape.block.injEq] at hs
    subst hs
    exact Ev.block h
  | cond x _ _ => cases x <;> cases hs
  | _ => cases hs
theorem ev_skip (hs : shapeOf c = .skip) (h : At X .normal E S Q) : Ev X c E S Q := by
  cases c with
  | skip => exact Ev.skip h
  | cond x _ _ => cases x <;> cases hs
  | _ => cases hs
theorem ev_ret (hs : shapeOf c = .ret) (h : At X .ret E S Q) : Ev X c E S Q := by
  cases c with
  | ret => exact Ev.ret h
  | cond x _ _ => cases x <;> cases hs
  | _ => cases hs
theorem ev_exit {id : Nat} (hs : shapeOf c = .exit id) (h : At X (.exit id) E S Q) : Ev X c E S Q := by
  cases c with
  | exit i =>
    simp only [shapeOf, Shape.exit.injEq] at hs
    subst hs
    exact Ev.exit h
  | cond x _ _ => cases x <;> cases hs
  | _ => cases hs
theorem ev_loop {T : Type} (I : T → Env) (J : T → List Item) (φ : T → Prop) (μ : T → Nat) (t0 : T) (js : List Nat) (hs : shapeOf c = .loop) (h0 : φ t0) (hE : Sub (I t0) E) (hj : pick S js = J t0) (hn : js.Nodup)
    (round : ∀ t, φ t → Ev X (cl c) (I t) (J t) (Exit.then (fun a w => ∃ t', φ t' ∧ μ t' < μ t ∧ Knows X.N X.D (I t') a ∧ Heap X.w0 (J t') w) Q)) : Ev X c E S Q := by
  cases c with
  | loop a => exact Ev.loop I J φ μ t0 js h0 hE hj hn round
  | cond x _ _ => cases x <;> cases hs
  | _ => cases hs
/-- on with the code that stands next -/
theorem at_code {e : Exit} {Q' : Exit → Act → World → Prop} (js : List Nat) (E' : Env) (hs : Sub E' E) (hn : js.Nodup) (hQ : ∀ a w, c.wpIn (fence X.r) 0 X.P Q' a w → Q e a w) (h : Ev X c E' (pick S js) Q') : At X e E S Q :=
  At.code js hs hn hQ h
theorem calls_of {P : Program} {f : FuncId} {fn : Func} {args : List Value} {w : World} {R : Ending → World → Prop} (S : List Item) (hf : P.funcs[f]? = some fn) (hb : fn.body.isSome = true) (hn : Nat.ble args.length fn.ntmps = true)
    (hS : Heap w S w) (h : Ev ⟨none, P, fn.ntmps, [], w⟩ (fbody fn) (envOf args 0) S (bodyPost P fn R)) : Calls P f args.toArray w R := by
  refine calls_of_ev S hf ?_ hn hS h
  unfold fbody
  cases hb' : fn.body with
  | none => rw [hb'] at hb; cases hb
  | some c => rfl
end
end Go.Proofs.Ytfhhggcdmgjbcaa.Sx
