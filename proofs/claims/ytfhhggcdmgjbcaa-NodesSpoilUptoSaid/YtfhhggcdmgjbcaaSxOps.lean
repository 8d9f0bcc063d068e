/-
  A part of the walk of the seat: laws of a small proof system, and contracts of functions, each proved. Conditions: as each theorem says.
-/
import Derived.Test.YtfhhggcdmgjbcaaSxCore
namespace Go.Proofs.Ytfhhggcdmgjbcaa.Sx
open Go Go.RowKit

/-- the operation yields this value, the memory as it is -/
def PV (X : Cx) (E : Env) (S : List Item) (op : Op) (v : Value) : Prop :=
  ∀ a w o, Knows X.N X.D E a → Heap X.w0 S w → o.op = op → (execOp a.eval o).run X.P w = .ok (.value v) w

section
variable {X : Cx} {ops : Array Oper} {i k : Nat} {E : Env} {S : List Item} {Q : Exit → Act → World → Prop}

theorem Rg.pure {d : Nat} {op : Op} {g : Option (Nat × Bool)} {v : Value} (ho : opAt ops i = some (some d, op, g))
    (hc : (calm op && Nat.blt d X.N && Nat.blt i k && (says ops E g == some true)) = true)
    (hv : PV X E S op v) (h : Rg X ops (i + 1) k ((d, v) :: E) S Q) : Rg X ops i k E S Q :=
  Rg.value ho hc fun a w o ha hw hop => ⟨v, w, S, hv a w o ha hw hop, hw, h⟩

/-! ### Values that ask nothing of the memory -/
theorem pv_move {x : Operand} {v : Value} (h : E.op x = some v) : PV X E S (.move x) v := by
  intro a w o ha _ ho
  unfold execOp; rw [ho]; simp [ha.eval h]
theorem pv_assign {x : Operand} {v : Value} (h : E.op x = some v) : PV X E S (.assign x) v := by
  intro a w o ha _ ho
  unfold execOp; rw [ho]; simp [ha.eval h]
theorem pv_pick_t {c x y : Operand} {v : Value} (hc : E.op c = some (.bool true)) (h : E.op x = some v) : PV X E S (.pick c x y) v := by
  intro a w o ha _ ho
  unfold execOp; rw [ho]; simp [ha.eval h, ha.eval hc, asBool]
theorem pv_pick_f {c x y : Operand} {v : Value} (hc : E.op c = some (.bool false)) (h : E.op y = some v) : PV X E S (.pick c x y) v := by
  intro a w o ha _ ho
  unfold execOp; rw [ho]; simp [ha.eval h, ha.eval hc, asBool]
theorem pv_nilCheck {x : Operand} {p : Addr} (h : E.op x = some (.pointer (some p))) : PV X E S (.nilCheck x) (.pointer (some p)) := by
  intro a w o ha _ ho
  unfold execOp; rw [ho]; simp [ha.eval h]
theorem pv_nilCheck_func {x : Operand} {f : FuncId} {fs cs : Array Value} (h : E.op x = some (.func (.func f) fs cs)) : PV X E S (.nilCheck x) (.func (.func f) fs cs) := by
  intro a w o ha _ ho
  unfold execOp; rw [ho]; simp [ha.eval h]
theorem pv_extract {x : Operand} {j : Nat} {vs : Array Value} {v : Value} (h : E.op x = some (.tuple vs)) (hv : vs[j]? = some v) : PV X E S (.extract x j) v := by
  intro a w o ha _ ho
  unfold execOp; rw [ho]; simp [ha.eval h, Instr.extract, hv]
def Env.opsOf (E : Env) : List Operand → Option (List Value)
  | [] => some []
  | x :: xs => match E.op x, Env.opsOf E xs with
    | some v, some vs => some (v :: vs)
    | _, _ => none
theorem Knows.evals {N D E a} (ha : Knows N D E a) : ∀ {xs : List Operand} {vs : List Value}, Env.opsOf E xs = some vs → xs.map a.eval = vs := by
  intro xs
  induction xs with
  | nil => intro vs h; simp [Env.opsOf] at h; simp [← h]
  | cons x xs ih =>
    intro vs h
    simp only [Env.opsOf] at h
    split at h
    · rename_i v ws hv hws
      simp only [Option.some.injEq] at h
      rw [← h, List.map_cons, ha.eval hv, ih hws]
    · cases h
theorem pv_makeFunc {fn : Fn} {xs : List Operand} {vs : List Value} (h : Env.opsOf E xs = some vs) : PV X E S (.makeFunc fn #[] xs.toArray) (.func fn #[] vs.toArray) := by
  intro a w o ha _ ho
  unfold execOp; rw [ho]; simp [Instr.makeFunc, ha.evals h]

/-! ### Numbers -/
theorem eqGuard_int {P : Program} {w : World} {op : BinOp} {t : TypeId} {x y : Operand} {k k' : IntKind} {m n : Int} : (eqGuard op t x y (.int k m) (.int k' n)).run P w = .ok () w := by
  unfold eqGuard
  split <;> simp
theorem eqGuard_str {P : Program} {w : World} {op : BinOp} {t : TypeId} {x y : Operand} {m n : ByteArray} : (eqGuard op t x y (.string m) (.string n)).run P w = .ok () w := by
  unfold eqGuard
  split <;> simp
theorem eqGuard_bool {P : Program} {w : World} {op : BinOp} {t : TypeId} {x y : Operand} {m n : Bool} : (eqGuard op t x y (.bool m) (.bool n)).run P w = .ok () w := by
  unfold eqGuard
  split <;> simp

section
variable {t u : TypeId} {x y : Operand} {q : IntKind} {m n : Int}
theorem pv_int {op : BinOp} {v : Value} (hx : E.op x = some (.int q m)) (hy : E.op y = some (.int q n)) (hb : ∀ w, (binOp op t (.int q m) (.int q n)).run X.P w = .ok v w) : PV X E S (.binOp op t x y u) v := by
  intro a w o ha _ ho
  unfold execOp; rw [ho]; simp [ha.eval hx, ha.eval hy, eqGuard_int, hb]
theorem pv_lss (hx : E.op x = some (.int q m)) (hy : E.op y = some (.int q n)) : PV X E S (.binOp .lss t x y u) (.bool (decide (m < n))) :=
  pv_int hx hy fun w => by simp [binOp, Op.intCmp]
theorem pv_leq (hx : E.op x = some (.int q m)) (hy : E.op y = some (.int q n)) : PV X E S (.binOp .leq t x y u) (.bool (decide (m ≤ n))) :=
  pv_int hx hy fun w => by simp [binOp, Op.intCmp]
theorem pv_gtr (hx : E.op x = some (.int q m)) (hy : E.op y = some (.int q n)) : PV X E S (.binOp .gtr t x y u) (.bool (decide (n < m))) :=
  pv_int hx hy fun w => by simp [binOp, Op.intCmp]
theorem pv_geq (hx : E.op x = some (.int q m)) (hy : E.op y = some (.int q n)) : PV X E S (.binOp .geq t x y u) (.bool (decide (n ≤ m))) :=
  pv_int hx hy fun w => by simp [binOp, Op.intCmp]
theorem pv_eql (hx : E.op x = some (.int q m)) (hy : E.op y = some (.int q n)) : PV X E S (.binOp .eql t x y u) (.bool (decide (m = n))) :=
  pv_int hx hy fun w => by simp only [binOp, Op.intCmp]; simp; rfl
theorem pv_neq (hx : E.op x = some (.int q m)) (hy : E.op y = some (.int q n)) : PV X E S (.binOp .neq t x y u) (.bool (!decide (m = n))) :=
  pv_int hx hy fun w => by simp only [binOp, Op.intCmp]; simp; rfl
theorem pv_add (hx : E.op x = some (.int q m)) (hy : E.op y = some (.int q n)) : PV X E S (.binOp .add t x y u) (.int q (q.wrap (m + n))) :=
  pv_int hx hy fun w => by simp [binOp, Op.intArith]
theorem pv_sub (hx : E.op x = some (.int q m)) (hy : E.op y = some (.int q n)) : PV X E S (.binOp .sub t x y u) (.int q (q.wrap (m - n))) :=
  pv_int hx hy fun w => by simp [binOp, Op.intArith]
theorem pv_mul (hx : E.op x = some (.int q m)) (hy : E.op y = some (.int q n)) : PV X E S (.binOp .mul t x y u) (.int q (q.wrap (m * n))) :=
  pv_int hx hy fun w => by simp [binOp, Op.intArith]
/-- with the sum's bounds known: the sum itself -/
def inKind (q : IntKind) (m : Int) : Prop := q.wrap m = m
theorem pv_addb (hx : E.op x = some (.int q m)) (hy : E.op y = some (.int q n)) (h : inKind q (m + n)) : PV X E S (.binOp .add t x y u) (.int q (m + n)) := by
  have := pv_add (X := X) (S := S) (t := t) (u := u) hx hy
  rwa [show q.wrap (m + n) = m + n from h] at this
theorem pv_subb (hx : E.op x = some (.int q m)) (hy : E.op y = some (.int q n)) (h : inKind q (m - n)) : PV X E S (.binOp .sub t x y u) (.int q (m - n)) := by
  have := pv_sub (X := X) (S := S) (t := t) (u := u) hx hy
  rwa [show q.wrap (m - n) = m - n from h] at this
theorem pv_mulb (hx : E.op x = some (.int q m)) (hy : E.op y = some (.int q n)) (h : inKind q (m * n)) : PV X E S (.binOp .mul t x y u) (.int q (m * n)) := by
  have := pv_mul (X := X) (S := S) (t := t) (u := u) hx hy
  rwa [show q.wrap (m * n) = m * n from h] at this
theorem pv_not {b : Bool} (hx : E.op x = some (.bool b)) : PV X E S (.unOp .not t x) (.bool (!b)) := by
  intro a w o ha _ ho
  unfold execOp; rw [ho]; simp [ha.eval hx, Op.unary]
end
theorem in_i64 {m : Int} (h1 : -9223372036854775808 ≤ m) (h2 : m ≤ 9223372036854775807) : inKind .i64 m := IntWalk.i64_in _ ⟨h1, h2⟩
end
end Go.Proofs.Ytfhhggcdmgjbcaa.Sx
