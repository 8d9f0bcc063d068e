/-
  A part of the walk of the seat: laws of a small proof system, and contracts of functions, each proved. Conditions: as each theorem says.
-/
import Derived.Test.YtfhhggcdmgjbcaaSxRow
import Derived.Test.YtfhhggcdmgjbcaaSxDraw2
namespace Go.Proofs.Ytfhhggcdmgjbcaa.Sx
open Go Go.RowKit

/-! ### Short forms of the rules: what can be worked out is worked out by 'rfl', over accumulators, so that it is worked out whole -/
def nthL {α : Type} : List α → Nat → Option α
  | [], _ => none
  | x :: _, 0 => some x
  | _ :: xs, n + 1 => nthL xs n
theorem nthL_eq {α : Type} : ∀ (l : List α) (n : Nat), nthL l n = l[n]?
  | [], _ => rfl
  | _ :: _, 0 => rfl
  | _ :: xs, n + 1 => by rw [nthL, nthL_eq xs n]; simp
def nthA {α : Type} (a : Array α) (n : Nat) : Option α := nthL a.toList n
theorem nthA_eq {α : Type} (a : Array α) (n : Nat) : nthA a n = a[n]? := by rw [nthA, nthL_eq]; simp
def keepE : List Nat → Env → Env → Option Env
  | [], _, A => some A
  | s :: ss, E, A => match E.get s with
    | some v => keepE ss E ((s, v) :: A)
    | none => none
theorem keepE_sub : ∀ (ss : List Nat) (E A E' : Env), Sub A E → keepE ss E A = some E' → Sub E' E := by
  intro ss
  induction ss with
  | nil => intro E A E' h he; simp only [keepE, Option.some.injEq] at he; rw [← he]; exact h
  | cons s ss ih =>
    intro E A E' h he
    simp only [keepE] at he
    split at he
    · rename_i v hv; exact ih E _ E' (.cons hv h) he
    · cases he
def dropN {α : Type} : Nat → List α → List α
  | 0, l => l
  | _ + 1, [] => []
  | n + 1, _ :: l => dropN n l
theorem dropN_eq {α : Type} : ∀ (n : Nat) (l : List α), dropN n l = l.drop n
  | 0, _ => rfl
  | _ + 1, [] => rfl
  | n + 1, _ :: l => by rw [dropN, dropN_eq n l]; rfl
def newTo (E : Env) : Nat → Env → Bool
  | 0, _ => true
  | _ + 1, [] => true
  | n + 1, (s, _) :: l => (match E.get s with | none => true | some _ => false) && newTo E n l
theorem newTo_get {E : Env} : ∀ (n : Nat) (L : Env) (s : Nat) (v : Value), newTo E n L = true → E.get s = some v → L.get s = Env.get (dropN n L) s
  | 0, _, _, _, _, _ => rfl
  | _ + 1, [], _, _, _, _ => rfl
  | n + 1, (t, u) :: l, s, v, h, hs => by
    simp only [newTo, Bool.and_eq_true] at h
    have hne : Nat.beq s t = false := by
      rw [Bool.eq_false_iff]; intro e
      have := Nat.eq_of_beq_eq_true e
      subst this
      have h1 := h.1
      rw [hs] at h1; cases h1
    simp only [Env.get, hne, cond_false, dropN]
    exact newTo_get n l s v h.2 hs

section
variable {X : Cx} {ops : Array Oper} {i k : Nat} {E : Env} {S : List Item} {Q : Exit → Act → World → Prop} {c : Code}

theorem Rg.p (d : Nat) (op : Op) {v : Value} (hv : PV X E S op v) (h : Rg X ops (i + 1) k ((d, v) :: E) S Q)
    (ho : opAt ops i = some (some d, op, none) := by kernel_rfl) (hc : (calm op && Nat.blt d X.N && Nat.blt i k && (says ops E none == some true)) = true := by kernel_rfl) : Rg X ops i k E S Q :=
  Rg.pure ho hc hv h
theorem Rg.pg (j : Nat) (b : Bool) (d : Nat) (op : Op) {v : Value} (hv : PV X E S op v) (h : Rg X ops (i + 1) k ((d, v) :: E) S Q)
    (ho : opAt ops i = some (some d, op, some (j, b)) := by kernel_rfl) (hc : (calm op && Nat.blt d X.N && Nat.blt i k && (says ops E (some (j, b)) == some true)) = true := by kernel_rfl) : Rg X ops i k E S Q :=
  Rg.pure ho hc hv h
theorem Rg.mv (d s : Nat) {v : Value} (hx : E.get s = some v) (h : Rg X ops (i + 1) k ((d, v) :: E) S Q)
    (ho : opAt ops i = some (some d, .move (.tmp s), none) := by kernel_rfl) (hc : (true && Nat.blt d X.N && Nat.blt i k && (says ops E none == some true)) = true := by kernel_rfl) : Rg X ops i k E S Q :=
  Rg.pure ho hc (pv_move hx) h
theorem Rg.as (d s : Nat) {v : Value} (hx : E.get s = some v) (h : Rg X ops (i + 1) k ((d, v) :: E) S Q)
    (ho : opAt ops i = some (some d, .assign (.tmp s), none) := by kernel_rfl) (hc : (true && Nat.blt d X.N && Nat.blt i k && (says ops E none == some true)) = true := by kernel_rfl) : Rg X ops i k E S Q :=
  Rg.pure ho hc (pv_assign hx) h
theorem Rg.ac (d : Nat) (v : Value) (h : Rg X ops (i + 1) k ((d, v) :: E) S Q)
    (ho : opAt ops i = some (some d, .assign (.const v), none) := by kernel_rfl) (hc : (true && Nat.blt d X.N && Nat.blt i k && (says ops E none == some true)) = true := by kernel_rfl) : Rg X ops i k E S Q :=
  Rg.pure ho hc (pv_assign rfl) h
theorem Rg.mc (d : Nat) (v : Value) (h : Rg X ops (i + 1) k ((d, v) :: E) S Q)
    (ho : opAt ops i = some (some d, .move (.const v), none) := by kernel_rfl) (hc : (true && Nat.blt d X.N && Nat.blt i k && (says ops E none == some true)) = true := by kernel_rfl) : Rg X ops i k E S Q :=
  Rg.pure ho hc (pv_move rfl) h
theorem Rg.ex (d s j : Nat) {vs : Array Value} {v : Value} (hx : E.get s = some (.tuple vs)) (hv : nthA vs j = some v) (h : Rg X ops (i + 1) k ((d, v) :: E) S Q)
    (ho : opAt ops i = some (some d, .extract (.tmp s) j, none) := by kernel_rfl) (hc : (true && Nat.blt d X.N && Nat.blt i k && (says ops E none == some true)) = true := by kernel_rfl) : Rg X ops i k E S Q :=
  Rg.pure ho hc (pv_extract hx (by rw [← nthA_eq]; exact hv)) h
theorem Rg.ld (d t s j : Nat) {b o : Nat} {cs : Array Value} {u : TypeId} {fr : Nat × Nat} {v : Value} (hx : E.get s = some (.pointer (some ⟨b, o, none⟩))) (hj : nthL S j = some (blk b (.cells cs u fr))) (hv : nthA cs o = some v)
    (h : Rg X ops (i + 1) k ((d, v) :: E) S Q) (ht : oneT X.P t = true := by kernel_rfl)
    (ho : opAt ops i = some (some d, .load t (.tmp s), none) := by kernel_rfl) (hc : (true && Nat.blt d X.N && Nat.blt i k && (says ops E none == some true)) = true := by kernel_rfl) : Rg X ops i k E S Q :=
  Rg.pure ho hc (pv_load_blk j hx (by rw [← nthL_eq]; exact hj) ht (by rw [← nthA_eq]; exact hv)) h
theorem Rg.fa (d t s f n : Nat) {b o : Nat} (hx : E.get s = some (.pointer (some ⟨b, o, none⟩))) (h : Rg X ops (i + 1) k ((d, .pointer (some ⟨b, o + n, none⟩)) :: E) S Q) (hf : fieldOff X.P t f = some n := by kernel_rfl)
    (ho : opAt ops i = some (some d, .fieldAddr t (.tmp s) f, none) := by kernel_rfl) (hc : (true && Nat.blt d X.N && Nat.blt i k && (says ops E none == some true)) = true := by kernel_rfl) : Rg X ops i k E S Q :=
  Rg.pure ho hc (pv_fieldAddr hx hf) h
theorem Rg.bx (d t : Nat) (x : Operand) {v : Value} (hx : E.op x = some v) (h : ∀ b, Rg X ops (i + 1) k ((d, .pointer (some ⟨b, 0, none⟩)) :: E) (blk b (.cells v.cells t) :: S) Q)
    (ho : opAt ops i = some (some d, .box t x, none) := by kernel_rfl) (hc : (calm (.box t x) && Nat.blt d X.N && Nat.blt i k && (says ops E none == some true)) = true := by kernel_rfl) : Rg X ops i k E S Q :=
  rg_box ho hc hx h
theorem Rg.al (d t : Nat) (v : Value) (h : ∀ b, Rg X ops (i + 1) k ((d, .pointer (some ⟨b, 0, none⟩)) :: E) (blk b (.cells v.cells t) :: S) Q) (hz : zeroT X.P t = some v := by kernel_rfl)
    (ho : opAt ops i = some (some d, .alloc t, none) := by kernel_rfl) (hc : (calm (.alloc t) && Nat.blt d X.N && Nat.blt i k && (says ops E none == some true)) = true := by kernel_rfl) : Rg X ops i k E S Q :=
  rg_alloc ho hc hz h
theorem Rg.st (t : Nat) (x : Nat) (y : Operand) (j : Nat) (cs' : Array Value) {u : TypeId} {b o : Nat} {v : Value} {cs : Array Value} (hx : E.get x = some (.pointer (some ⟨b, o, none⟩))) (hy : E.op y = some v)
    (hj : nthL S j = some (blk b (.cells cs u (0, 0)))) (h : Rg X ops (i + 1) k E (S.set j (blk b (.cells cs' u (0, 0)))) Q)
    (ho : opAt ops i = some (none, .store t (.tmp x) y, none) := by kernel_rfl) (hc : (calm (.store t (.tmp x) y) && Nat.blt i k && (says ops E none == some true)) = true := by kernel_rfl)
    (hs : szT X.P t = some v.cells.size := by kernel_rfl) (hle : Nat.ble (o + v.cells.size) cs.size = true := by kernel_rfl) (hone : (v.cells.toList.all (·.oneCell')) = true := by kernel_rfl)
    (he : putCells cs o v.cells.toList = cs' := by kernel_rfl) : Rg X ops i k E S Q :=
  rg_store j ho hc hx hy (by rw [← nthL_eq]; exact hj) hs (Nat.le_of_ble_eq_true hle) hone he h
theorem Rg.cl (d : Option Nat) (f : FuncId) (xs : Array Operand) (ts : Array TypeId) {vs : List Value} {v : Value} (hx : Env.opsOf E xs.toList = some vs) (hcall : ∀ w, Heap X.w0 S w → Calls X.P f vs.toArray w (Ret w v))
    (h : Rg X ops (i + 1) k (putE d v E) S Q) (ho : opAt ops i = some (d, .call { callee := .value (.func f), args := xs, argTypes := ts }, none) := by kernel_rfl)
    (hc : (true && (d.all fun d => Nat.blt d X.N) && Nat.blt i k && (says ops E none == some true)) = true := by kernel_rfl) (hf : entered X.P f = true := by kernel_rfl) : Rg X ops i k E S Q :=
  rg_call ho hc hf hx hcall h
theorem Rg.cn {T : Type} (d : Option Nat) (f : FuncId) (xs : Array Operand) (ts : Array TypeId) {vs : List Value} {φ : T → Prop} {v : T → Value} {L : T → List Item} (hx : Env.opsOf E xs.toList = some vs)
    (hcall : ∀ w, Heap X.w0 S w → Calls X.P f vs.toArray w (RetN w φ v L)) (h : ∀ t, φ t → Rg X ops (i + 1) k (putE d (v t) E) (L t ++ S) Q)
    (ho : opAt ops i = some (d, .call { callee := .value (.func f), args := xs, argTypes := ts }, none) := by kernel_rfl)
    (hc : (true && (d.all fun d => Nat.blt d X.N) && Nat.blt i k && (says ops E none == some true)) = true := by kernel_rfl) (hf : entered X.P f = true := by kernel_rfl) : Rg X ops i k E S Q :=
  rg_callN (caps := #[]) ho hc rfl hf hx (fun w hw => by rw [Array.append_empty]; exact hcall w hw) h

/-! Code -/
def srq : Code → Nat → Bool
  | .seq (.region _ ops false) _, n => Nat.beq ops.size n
  | _, _ => false
theorem Ev.sr (n : Nat) (h : Rg X (cops (cl c)) 0 n E S (Exit.then ((cr c).wpIn (fence X.r) 0 X.P Q) Q)) (hs : srq c n = true := by kernel_rfl) : Ev X c E S Q := by
  unfold srq at hs
  split at hs
  · rename_i id ops y n'
    have := Nat.eq_of_beq_eq_true hs
    subst this
    exact Ev.seq (Ev.region h)
  · cases hs
theorem Ev.sq (h : Ev X (cl c) E S (Exit.then ((cr c).wpIn (fence X.r) 0 X.P Q) Q)) (hs : shapeOf c = .seq := by kernel_rfl) : Ev X c E S Q := ev_seq hs h
theorem Ev.rg (n : Nat) (h : Rg X (cops c) 0 n E S Q) (hs : shapeOf c = .region false n := by kernel_rfl) : Ev X c E S Q := ev_region hs h
theorem Ev.bk (id : Nat) (h : Ev X (cl c) E S (Exit.inBlock id Q)) (hs : shapeOf c = .block id := by kernel_rfl) : Ev X c E S Q := ev_block hs h
theorem Ev.xt (id : Nat) (h : At X (.exit id) E S Q) (hs : shapeOf c = .exit id := by kernel_rfl) : Ev X c E S Q := ev_exit hs h
theorem Ev.rt (h : At X .ret E S Q) (hs : shapeOf c = .ret := by kernel_rfl) : Ev X c E S Q := ev_ret hs h
theorem Ev.sk (h : At X .normal E S Q) (hs : shapeOf c = .skip := by kernel_rfl) : Ev X c E S Q := ev_skip hs h
theorem Ev.cd (t : Nat) {b : Bool} (hc : E.get t = some (.bool b)) (ht : b = true → Ev X (cl c) E S Q) (hf : b = false → Ev X (cr c) E S Q) (hs : shapeOf c = .cond t := by kernel_rfl) : Ev X c E S Q := ev_cond hs hc ht hf
theorem At.nx {e : Exit} {E' : Env} {Q' : Exit → Act → World → Prop} (hQ : ∀ a w, c.wpIn (fence X.r) 0 X.P Q' a w → Q e a w) (ss : List Nat) (hs : keepE ss E [] = some E') (h : Ev X c E' S Q') : At X e E S Q :=
  fun a w ha hw => hQ a w (h a w (ha.sub (keepE_sub ss E [] E' (.nil E) hs)) hw)
theorem Rg.nx {E' : Env} {Q' : Exit → Act → World → Prop} (hQ : ∀ a w, c.wpIn (fence X.r) 0 X.P Q' a w → Q .normal a w) (ss : List Nat) (hs : keepE ss E [] = some E') (h : Ev X c E' S Q') (hk : Nat.ble k i = true := by kernel_rfl) : Rg X ops i k E S Q :=
  Rg.fin hk (At.nx hQ ss hs h)

/-! Groups -/
theorem Rg.ga (m d s : Nat) (r : Bool) {g : Bool} (hs : E.get s = some (.bool g)) (ht : g = true → Rg X ops i m ((s, .bool true) :: E) S (Mid X ((d, .bool (g && r)) :: E) S Q))
    (hf : g = false → Rg X ops i m ((s, .bool false) :: E) S (Mid X ((d, .bool (g && r)) :: E) S Q)) (h2 : Rg X ops m k ((d, .bool (g && r)) :: E) S Q) (hm : (Nat.ble i m && Nat.ble m k) = true := by kernel_rfl) : Rg X ops i k E S Q :=
  Rg.split m _ S hs hm ht hf h2
theorem Rg.go (m d s : Nat) (r : Bool) {g : Bool} (hs : E.get s = some (.bool g)) (ht : g = true → Rg X ops i m ((s, .bool true) :: E) S (Mid X ((d, .bool (g || r)) :: E) S Q))
    (hf : g = false → Rg X ops i m ((s, .bool false) :: E) S (Mid X ((d, .bool (g || r)) :: E) S Q)) (h2 : Rg X ops m k ((d, .bool (g || r)) :: E) S Q) (hm : (Nat.ble i m && Nat.ble m k) = true := by kernel_rfl) : Rg X ops i k E S Q :=
  Rg.split m _ S hs hm ht hf h2
theorem Rg.em {d : Nat} (s : Nat) {g b x y : Bool} {E1 : Env} (hg : g = b) (hx : y = x) (hs : E.get s = some (.bool g)) (hd : E1.get d = some (.bool x)) (hL : dropN (E1.length - (E.length + 1)) E1 = (s, .bool b) :: E := by kernel_rfl)
    (hN : newTo E (E1.length - (E.length + 1)) E1 = true := by kernel_rfl) (hk : Nat.ble k i = true := by kernel_rfl) : Rg X ops i k E1 S (Mid X ((d, .bool y) :: E) S Q) := by
  refine Rg.fin hk fun a w ha hw => ⟨ha.sub ?_, hw⟩
  intro t v ht
  simp only [Env.get] at ht
  cases hb : Nat.beq t d with
  | true =>
    rw [hb] at ht
    simp only [cond_true, Option.some.injEq] at ht
    rw [Nat.eq_of_beq_eq_true hb, ← ht, hx]; exact hd
  | false =>
    rw [hb] at ht
    simp only [cond_false] at ht
    rw [newTo_get _ E1 t v hN ht, hL]
    simp only [Env.get]
    cases hb2 : Nat.beq t s with
    | true =>
      rw [Nat.eq_of_beq_eq_true hb2, hs] at ht
      simp only [cond_true]; rw [← ht, hg]
    | false => exact ht
theorem at_t {g r : Bool} (h : g = true) : (g && r) = r := by rw [h, Bool.true_and]
theorem at_f {g r : Bool} (h : g = false) : (g && r) = false := by rw [h, Bool.false_and]
theorem ot_t {g r : Bool} (h : g = true) : (g || r) = true := by rw [h, Bool.true_or]
theorem ot_f {g r : Bool} (h : g = false) : (g || r) = r := by rw [h, Bool.false_or]
end
end Go.Proofs.Ytfhhggcdmgjbcaa.Sx
