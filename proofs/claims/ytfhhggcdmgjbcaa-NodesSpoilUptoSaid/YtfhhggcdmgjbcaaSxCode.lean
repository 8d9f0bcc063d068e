/-
  A part of the walk of the seat: laws of a small proof system, and contracts of functions, each proved. Conditions: as each theorem says.
-/
import Derived.Test.YtfhhggcdmgjbcaaSxMem
namespace Go.Proofs.Ytfhhggcdmgjbcaa.Sx
open Go Go.RowKit

/-! ### Items chosen anew -/
def pick (S : List Item) : List Nat → List Item
  | [] => []
  | j :: js => match S[j]? with
    | some it => it :: pick S js
    | none => pick S js
theorem mem_pick {S : List Item} : ∀ {js : List Nat} {it : Item}, it ∈ pick S js → ∃ j ∈ js, S[j]? = some it := by
  intro js
  induction js with
  | nil => intro it h; simp [pick] at h
  | cons j js ih =>
    intro it h
    simp only [pick] at h
    split at h
    · rename_i it' hj
      rcases List.mem_cons.1 h with rfl | h
      · exact ⟨j, by simp, hj⟩
      · obtain ⟨n, hn, he⟩ := ih h; exact ⟨n, by simp [hn], he⟩
    · obtain ⟨n, hn, he⟩ := ih h; exact ⟨n, by simp [hn], he⟩
theorem apart_of {S : List Item} (h : S.Pairwise fun x y => ∀ k, x.fp k → ¬ y.fp k) {m n : Nat} (hmn : m ≠ n) {x y : Item} (hx : S[m]? = some x) (hy : S[n]? = some y) : ∀ k, x.fp k → ¬ y.fp k := by
  obtain ⟨h1, rfl⟩ := List.getElem?_eq_some_iff.1 hx
  obtain ⟨h2, rfl⟩ := List.getElem?_eq_some_iff.1 hy
  have hp := List.pairwise_iff_getElem.1 h
  rcases Nat.lt_or_gt_of_ne hmn with hlt | hgt
  · exact hp m n h1 h2 hlt
  · exact fun k hk hk' => hp n m h2 h1 hgt k hk' hk
theorem Heap.pick {w0 w : World} {S : List Item} (h : Heap w0 S w) (js : List Nat) (hn : js.Nodup) : Heap w0 (pick S js) w := by
  refine ⟨h.os, h.tape, h.output, fun it hit => ?_, fun it hit => ?_, ?_⟩
  · obtain ⟨j, _, hj⟩ := mem_pick hit; exact h.at_ j hj
  · obtain ⟨j, _, hj⟩ := mem_pick hit; exact h.low it (List.mem_of_getElem? hj)
  · induction js with
    | nil => exact List.Pairwise.nil
    | cons j js ih =>
      have hn' := List.nodup_cons.1 hn
      simp only [Sx.pick]
      split
      · rename_i it hj
        refine List.Pairwise.cons (fun y hy => ?_) (ih hn'.2)
        obtain ⟨n, hnm, he⟩ := mem_pick hy
        exact apart_of h.apart (fun e => hn'.1 (by rw [e]; exact hnm)) hj he
      · exact ih hn'.2

/-- the item at place j is turned: its own blocks, or new ones -/
theorem Heap.setI {w0 w w' : World} {S : List Item} (h : Heap w0 S w) (j : Nat) {it : Item} (hj : S[j]? = some it) (it' : Item) (hos : w'.os = w.os) (ht : w'.tape = w.tape) (ho : w'.output = w.output)
    (hsz : w.heap.size ≤ w'.heap.size) (hfp : ∀ k, it'.fp k → it.fp k ∨ (w.heap.size ≤ k ∧ k < w'.heap.size)) (hok : it'.ok w') (hsame : ∀ k, k < w.heap.size → ¬ it.fp k → w'.heap[k]? = w.heap[k]?) : Heap w0 (S.set j it') w' := by
  have hlt : j < S.length := (List.getElem?_eq_some_iff.1 hj).1
  have hSj : S[j] = it := (List.getElem?_eq_some_iff.1 hj).2
  have hoth : ∀ n, (hn : n < S.length) → n ≠ j → ∀ q, (S[n]).fp q → ¬ it.fp q := fun n hn hne => apart_of h.apart hne (List.getElem?_eq_getElem hn) hj
  refine ⟨hos.trans h.os, ht.trans h.tape, ho.trans h.output, fun x hx => ?_, fun x hx q hq => ?_, ?_⟩
  · obtain ⟨n, hn, rfl⟩ := List.mem_iff_getElem.1 hx
    rw [List.length_set] at hn
    by_cases e : n = j
    · subst e; rw [List.getElem_set_self]; exact hok
    · rw [List.getElem_set_ne (by omega)]
      exact (S[n]).stable w w' (fun q hq => hsame q (h.low _ (List.getElem_mem hn) q hq) (hoth n hn e q hq)) (h.ok _ (List.getElem_mem hn))
  · obtain ⟨n, hn, rfl⟩ := List.mem_iff_getElem.1 hx
    rw [List.length_set] at hn
    by_cases e : n = j
    · subst e
      rw [List.getElem_set_self] at hq
      rcases hfp q hq with h1 | h1
      · have := h.low it (List.mem_of_getElem? hj) q h1; omega
      · exact h1.2
    · rw [List.getElem_set_ne (by omega)] at hq
      have := h.low _ (List.getElem_mem hn) q hq; omega
  · rw [List.pairwise_iff_getElem]
    intro x y hx hy hxy q h5 h6
    have hx' : x < S.length := by rwa [List.length_set] at hx
    have hy' : y < S.length := by rwa [List.length_set] at hy
    by_cases e : x = j
    · subst e
      rw [List.getElem_set_self] at h5
      rw [List.getElem_set_ne (by omega)] at h6
      rcases hfp q h5 with h1 | h1
      · exact hoth y hy' (by omega) q h6 h1
      · have := h.low _ (List.getElem_mem hy') q h6; omega
    · rw [List.getElem_set_ne (by omega)] at h5
      by_cases e' : y = j
      · subst e'
        rw [List.getElem_set_self] at h6
        rcases hfp q h6 with h1 | h1
        · exact hoth x hx' (by omega) q h5 h1
        · have := h.low _ (List.getElem_mem hx') q h5; omega
      · rw [List.getElem_set_ne (by omega)] at h6
        exact List.pairwise_iff_getElem.1 h.apart x y hx' hy' hxy q h5 h6
/-- a new item, of blocks that are new -/
theorem Heap.newI {w0 w w' : World} {S : List Item} (h : Heap w0 S w) (it : Item) (hos : w'.os = w.os) (ht : w'.tape = w.tape) (ho : w'.output = w.output) (hsz : w.heap.size ≤ w'.heap.size)
    (hfp : ∀ k, it.fp k → w.heap.size ≤ k ∧ k < w'.heap.size) (hok : it.ok w') (hsame : ∀ k, k < w.heap.size → w'.heap[k]? = w.heap[k]?) : Heap w0 (it :: S) w' := by
  have h' := h.keep hos ht ho hsz fun x hx k hk => hsame k (h.low x hx k hk)
  refine ⟨h'.os, h'.tape, h'.output, fun x hx => ?_, fun x hx k hk => ?_, List.Pairwise.cons (fun x hx k hk hk' => ?_) h'.apart⟩
  · rcases List.mem_cons.1 hx with rfl | hx
    · exact hok
    · exact h'.ok x hx
  · rcases List.mem_cons.1 hx with rfl | hx
    · exact (hfp k hk).2
    · exact h'.low x hx k hk
  · have := (hfp k hk).1
    have := h.low x hx k hk'
    omega

/-- what lies in the blocks of X reads as in w0 -/
def base (w0 : World) (B : Nat → Prop) : Item := ⟨B, fun w => ∀ k, B k → w.heap[k]? = w0.heap[k]?, fun _ _ h hw k hk => (h k hk).trans (hw k hk)⟩
theorem Heap.start (w : World) : Heap w [base w (· < w.heap.size)] w :=
  ⟨rfl, rfl, rfl, fun it hit => by rw [List.mem_singleton.1 hit]; exact fun _ _ => rfl, fun it hit k hk => by rw [List.mem_singleton.1 hit] at hk; exact hk, List.pairwise_singleton ..⟩
theorem Heap.base_below {w0 w : World} {S : List Item} (h : Heap w0 S w) (j : Nat) (hj : S[j]? = some (base w0 (· < w0.heap.size))) : Below w0.heap.size w0 w :=
  ⟨h.os, h.tape, h.output, by
    rcases Nat.eq_zero_or_pos w0.heap.size with e | e
    · omega
    · have := h.lt j hj (k := w0.heap.size - 1) (show w0.heap.size - 1 < w0.heap.size by omega); omega, h.at_ j hj⟩

/-- what a call comes to that only makes memory of its own -/
def Ret (w : World) (v : Value) (e : Ending) (w' : World) : Prop := e = .returned v ∧ Below w.heap.size w w'

section
variable {X : Cx} {ops : Array Oper} {i k : Nat} {E : Env} {S : List Item} {Q : Exit → Act → World → Prop}

def At (X : Cx) (e : Exit) (E : Env) (S : List Item) (Q : Exit → Act → World → Prop) : Prop := ∀ a w, Knows X.N X.D E a → Heap X.w0 S w → Q e a w

theorem Rg.fin (hk : Nat.ble k i = true) (h : At X .normal E S Q) : Rg X ops i k E S Q := Rg.done h hk

/-- a piece of a region, and what is known behind it -/
def Mid (X : Cx) (E' : Env) (S' : List Item) (Q : Exit → Act → World → Prop) : Exit → Act → World → Prop
  | .normal, a, w => Knows X.N X.D E' a ∧ Heap X.w0 S' w
  | e, a, w => Q e a w
theorem wpOpsIn_append {F : Fence} {n : Nat} {P : Program} {ops : Array Oper} {Q Q' : Exit → Act → World → Prop} (l2 : List Nat) (hQ : ∀ e a w, (∀ h : e = .normal, False) → Q' e a w → Q e a w) (hO : LetsOut Q' → LetsOut Q) : ∀ (l1 : List Nat) (a : Act) (w : World),
    wpOpsIn F n P ops Q' l1 a w → (∀ a w, Q' .normal a w → wpOpsIn F n P ops Q l2 a w) → wpOpsIn F n P ops Q (l1 ++ l2) a w := by
  intro l1
  induction l1 with
  | nil => intro a w h h2; exact h2 a w h
  | cons j l1 ih =>
    intro a w h h2
    simp only [List.cons_append, wpOpsIn] at h ⊢
    cases ho : ops[j]? with
    | none => simp only [ho] at h; exact ih a w h h2
    | some o =>
      simp only [ho] at h ⊢
      by_cases hw : Region.wanted o (yielded ops a.tmps) = true
      · rw [if_pos hw] at h ⊢
        refine ⟨h.1, ?_⟩
        have h3 := h.2
        unfold Oper.uponIn at h3 ⊢
        split at h3
        · exact ih _ _ h3 h2
        · exact ih _ _ h3 h2
        · exact ih _ _ h3 h2
        · refine ⟨h3.1, h3.2.mono ?_⟩
          intro e w' he
          cases e with
          | returned v => exact ih _ _ he h2
          | panicked c => exact hQ _ _ _ (by intro hh; cases hh) he
          | outgrown => exact hO he
        · refine ⟨h3.1, h3.2.mono ?_⟩
          intro v w' he; exact ih _ _ he h2
        · refine ⟨h3.1, h3.2.mono ?_⟩
          intro e w' he
          cases e with
          | returned v => exact ih _ _ he h2
          | panicked c => exact hQ _ _ _ (by intro hh; cases hh) he
          | outgrown => exact hO he
        · exact hQ _ _ _ (by intro hh; cases hh) h3
        · exact h3.elim
      · rw [if_neg hw] at h ⊢
        exact ⟨h.1, ih _ _ h.2 h2⟩
theorem Rg.cut (m : Nat) (E' : Env) (S' : List Item) (hm : (Nat.ble i m && Nat.ble m k) = true) (h1 : Rg X ops i m E S (Mid X E' S' Q)) (h2 : Rg X ops m k E' S' Q) : Rg X ops i k E S Q := by
  intro a w ha hw
  simp only [Bool.and_eq_true, Nat.ble_eq] at hm
  have e : List.range' i (k - i) = List.range' i (m - i) ++ List.range' m (k - m) := by
    have h := List.range'_append (s := i) (m := m - i) (n := k - m) (step := 1)
    rw [show i + 1 * (m - i) = m from by omega, show m - i + (k - m) = k - i from by omega] at h
    exact h.symm
  rw [e]
  refine wpOpsIn_append (Q' := Mid X E' S' Q) _ ?_ ?_ _ a w (h1 a w ha hw) ?_
  · intro e a w hne hq
    cases e <;> first | exact (hne rfl).elim | exact hq
  · rintro ⟨a, w, h⟩; exact ⟨a, w, h⟩
  · rintro a w ⟨ha, hw⟩; exact h2 a w ha hw
theorem At.mid {E' : Env} {S' : List Item} (js : List Nat) (hs : Sub E' E) (hj : pick S js = S') (hn : js.Nodup) : At X .normal E S (Mid X E' S' Q) :=
  fun _ _ ha hw => ⟨ha.sub hs, hj ▸ hw.pick js hn⟩

/-! ### Code -/
theorem Ev.seq {x y : Code} (h : Ev X x E S (Exit.then (y.wpIn (fence X.r) 0 X.P Q) Q)) : Ev X (.seq x y) E S Q := fun a w ha hw => wpIn_seq (h a w ha hw)
theorem Ev.region {id : Nat} {ops : Array Oper} (h : Rg X ops 0 ops.size E S Q) : Ev X (.region id ops false) E S Q :=
  fun a w ha hw => wpIn_region (by rw [List.range_eq_range']; exact h a w ha hw)
theorem Ev.block {id : Nat} {c : Code} (h : Ev X c E S (Exit.inBlock id Q)) : Ev X (.block id c) E S Q := fun a w ha hw => wpIn_block (h a w ha hw)
theorem Ev.skip (h : At X .normal E S Q) : Ev X .skip E S Q := fun a w ha hw => wpIn_skip (h a w ha hw)
theorem Ev.exit {id : Nat} (h : At X (.exit id) E S Q) : Ev X (.exit id) E S Q := fun a w ha hw => wpIn_exit (h a w ha hw)
theorem Ev.ret (h : At X .ret E S Q) : Ev X .ret E S Q := fun a w ha hw => wpIn_ret (h a w ha hw)
theorem Ev.cond {c : Operand} {x y : Code} {b : Bool} (hc : E.op c = some (.bool b)) (ht : b = true → Ev X x E S Q) (hf : b = false → Ev X y E S Q) : Ev X (.cond c x y) E S Q :=
  fun a w ha hw => wpIn_cond_split (ha.eval hc) (fun e => ht e a w ha hw) (fun e => hf e a w ha hw)
theorem At.code {e : Exit} {c : Code} {E' : Env} {Q' : Exit → Act → World → Prop} (js : List Nat) (hs : Sub E' E) (hn : js.Nodup) (hQ : ∀ a w, c.wpIn (fence X.r) 0 X.P Q' a w → Q e a w) (h : Ev X c E' (pick S js) Q') : At X e E S Q :=
  fun a w ha hw => hQ a w (h a w (ha.sub hs) (hw.pick js hn))
theorem Ev.weak {c : Code} {E' : Env} {S' : List Item} (js : List Nat) (hs : Sub E' E) (hj : pick S js = S') (hn : js.Nodup) (h : Ev X c E' S' Q) : Ev X c E S Q :=
  fun a w ha hw => h a w (ha.sub hs) (hj ▸ hw.pick js hn)

/-- a loop: what is known at its head, by a parameter -/
theorem Ev.loop {T : Type} (I : T → Env) (J : T → List Item) (φ : T → Prop) (μ : T → Nat) (t0 : T) (js : List Nat) {c : Code} (h0 : φ t0) (hE : Sub (I t0) E) (hj : pick S js = J t0) (hn : js.Nodup)
    (round : ∀ t, φ t → Ev X c (I t) (J t) (Exit.then (fun a w => ∃ t', φ t' ∧ μ t' < μ t ∧ Knows X.N X.D (I t') a ∧ Heap X.w0 (J t') w) Q)) : Ev X (.loop c) E S Q := by
  intro a w ha hw
  let st : Act → World → Nat → Prop := fun a w m => ∃ t, φ t ∧ μ t = m ∧ Knows X.N X.D (I t) a ∧ Heap X.w0 (J t) w
  have hwf : ∀ a w, (∃ m, st a w m) → ∃ m, st a w m ∧ ∀ m', st a w m' → m ≤ m' := by
    intro a w ⟨m, hm⟩
    induction m using Nat.strongRecOn with
    | _ m ih =>
      by_cases h : ∃ m', m' < m ∧ st a w m'
      · obtain ⟨m', hlt, hm'⟩ := h; exact ih m' hlt hm'
      · exact ⟨m, hm, fun m' hm' => by
          rcases Nat.lt_or_ge m' m with hlt | hge
          · exact absurd ⟨m', hlt, hm'⟩ h
          · exact hge⟩
  let least : Act → World → Nat := fun a w => open Classical in if h : ∃ m, st a w m then (hwf a w h).choose else 0
  have hleast : ∀ a w m, st a w m → st a w (least a w) ∧ least a w ≤ m := by
    intro a w m hm
    have h : ∃ m, st a w m := ⟨m, hm⟩
    have e : least a w = (hwf a w h).choose := by simp only [least]; rw [dif_pos h]
    rw [e]
    exact ⟨(hwf a w h).choose_spec.1, (hwf a w h).choose_spec.2 m hm⟩
  refine wpIn_loop (fun a w => ∃ m, st a w m) least ⟨μ t0, t0, h0, rfl, ha.sub hE, hj ▸ hw.pick js hn⟩ ?_
  rintro a w ⟨m, hm⟩
  obtain ⟨⟨t, hφ, hμ, ha', hw'⟩, _⟩ := hleast a w m hm
  refine wpIn_mono (round t hφ a w ha' hw') ?_
  intro e a2 w2 hq
  cases e with
  | normal =>
    obtain ⟨t', h1, h2, h3, h4⟩ := hq
    have := hleast a2 w2 (μ t') ⟨t', h1, rfl, h3, h4⟩
    exact ⟨⟨_, this.1⟩, by omega⟩
  | exit id => exact hq
  | goto l => exact hq
  | ret => exact hq
  | panic c => exact hq
  | outgrown => exact hq
theorem At.round {T : Type} {I : T → Env} {J : T → List Item} {φ : T → Prop} {μ : T → Nat} {t : T} {e : Exit} (hQ : ∀ a w, (∃ t', φ t' ∧ μ t' < μ t ∧ Knows X.N X.D (I t') a ∧ Heap X.w0 (J t') w) → Q e a w)
    (t' : T) (js : List Nat) (hφ : φ t') (hμ : μ t' < μ t) (hs : Sub (I t') E) (hj : pick S js = J t') (hn : js.Nodup) : At X e E S Q :=
  fun a w ha hw => hQ a w ⟨t', hφ, hμ, ha.sub hs, hj ▸ hw.pick js hn⟩

/-! ### A function: its beginning and its end -/
def envOf : List Value → Nat → Env
  | [], _ => []
  | v :: vs, n => (n, v) :: envOf vs (n + 1)
theorem envOf_get : ∀ (vs : List Value) (n s : Nat) (v : Value), (envOf vs n).get s = some v → n ≤ s ∧ vs[s - n]? = some v := by
  intro vs
  induction vs with
  | nil => intro n s v h; simp [envOf, Env.get] at h
  | cons u vs ih =>
    intro n s v h
    simp only [envOf, Env.get] at h
    cases hb : Nat.beq s n with
    | true =>
      rw [hb] at h
      have := Nat.eq_of_beq_eq_true hb
      subst this
      simp at h
      exact ⟨Nat.le_refl _, by simp [h]⟩
    | false =>
      rw [hb] at h
      obtain ⟨h1, h2⟩ := ih (n + 1) s v (by simpa using h)
      refine ⟨by omega, ?_⟩
      rw [show s - n = (s - (n + 1)) + 1 from by omega]
      simpa using h2
def bodyOf (P : Program) (f : FuncId) : Code := ((P.funcs[f]?).bind (·.body)).getD .skip
theorem calls_of_ev {P : Program} {f : FuncId} {fn : Func} {args : List Value} {w : World} {R : Ending → World → Prop} {c : Code} (S : List Item) (hf : P.funcs[f]? = some fn) (hb : fn.body = some c) (hn : Nat.ble args.length fn.ntmps = true)
    (hS : Heap w S w) (h : Ev ⟨none, P, fn.ntmps, [], w⟩ c (envOf args 0) S (bodyPost P fn R)) : Calls P f args.toArray w R := by
  refine callsIn_wide (n := 0) |>.1 (callsIn_of_wp hf hb trivial ?_ rfl)
  refine h _ w ⟨?_, rfl, ?_⟩ hS
  · have := Nat.le_of_ble_eq_true hn; simp; omega
  · intro s v hs
    obtain ⟨_, h2⟩ := envOf_get args 0 s v hs
    have hlt : s < args.length := by
      have := (List.getElem?_eq_some_iff.1 h2).1; omega
    simp only [Nat.sub_zero] at h2
    show (args.toArray ++ Array.replicate _ undef)[s]? = some v
    rw [Array.getElem?_append_left (by simpa using hlt)]
    simpa using h2
theorem At.ret1 {fn : Func} {R : Ending → World → Prop} {t : Nat} {v : Value} (hr : fn.results = #[.tmp t]) (hD : X.D = []) (hv : E.get t = some v) (h : ∀ w, Heap X.w0 S w → R (.returned v) w) :
    At X .ret E S (bodyPost X.P fn R) := by
  intro a w ha hw
  refine ⟨by rw [ha.defers, hD], v, ?_, h w hw⟩
  rw [results_tmp hr]
  have := ha.get t v hv
  simp [this]
theorem At.ret2 {fn : Func} {R : Ending → World → Prop} {t u : Nat} {v v' : Value} (hr : fn.results = #[.tmp t, .tmp u]) (hD : X.D = []) (hv : E.get t = some v) (hv' : E.get u = some v') (h : ∀ w, Heap X.w0 S w → R (.returned (.tuple #[v, v'])) w) :
    At X .ret E S (bodyPost X.P fn R) := by
  intro a w ha hw
  refine ⟨by rw [ha.defers, hD], _, ?_, h w hw⟩
  rw [results_tmp2 hr]
  have h1 := ha.get t v hv
  have h2 := ha.get u v' hv'
  simp [h1, h2]

/-! ### Calls -/
def entered (P : Program) (f : FuncId) : Bool := match P.funcs[f]? with
  | some fn => fn.name != "runtime.NumGoroutine" && fn.body.isSome
  | none => false
theorem run_callFunc {P : Program} {f : FuncId} {args : Array Value} {w : World} (h : entered P f = true) : (callFunc f args).run P w = .ok (.enter f args) w := by
  unfold entered at h
  split at h
  · rename_i fn hf
    simp only [Bool.and_eq_true, bne_iff_ne, ne_eq] at h
    cases hb : fn.body with
    | none => rw [hb] at h; simp at h
    | some c => simp [callFunc, hf, h.1, hb]
  · cases h
theorem rg_call_any {T : Type} {d : Option Nat} {f : FuncId} {fo : Operand} {caps : Array Value} {xs : Array Operand} {ts : Array TypeId} {g : Option (Nat × Bool)} {vs : List Value} (ho : opAt ops i = some (d, .call { callee := .value fo, args := xs, argTypes := ts }, g))
    (hc : (true && (d.all fun d => Nat.blt d X.N) && Nat.blt i k && (says ops E g == some true)) = true) (hfo : E.op fo = some (.func (.func f) #[] caps)) (hf : entered X.P f = true) (hx : Env.opsOf E xs.toList = some vs)
    (v : T → Value) (S' : T → List Item) (φ : T → Prop)
    (hcall : ∀ w, Heap X.w0 S w → Calls X.P f (vs.toArray ++ caps) w fun e w' => ∃ t, φ t ∧ e = .returned (v t) ∧ Heap X.w0 (S' t) w')
    (h : ∀ t, φ t → Rg X ops (i + 1) k (putE d (v t) E) (S' t) Q) : Rg X ops i k E S Q := by
  refine Rg.enter (f := f) (args := vs.toArray ++ caps) ho hc ?_ ?_
  · intro a w o ha hop
    have he : (xs.map a.eval) = vs.toArray := by
      have := ha.evals hx
      rw [← Array.toList_inj]; simpa using this
    unfold execOp; rw [hop]
    simp [resolve, ha.eval hfo, Deferred.ofValue, he, invoke, run_callFunc hf]
  · intro w hw
    refine (hcall w hw).mono ?_
    rintro e w' ⟨t, ht, he, hw'⟩
    exact ⟨v t, S' t, he, hw', h t ht⟩
/-- a call that only makes memory of its own -/
theorem rg_call {d : Option Nat} {f : FuncId} {xs : Array Operand} {ts : Array TypeId} {g : Option (Nat × Bool)} {vs : List Value} {v : Value} (ho : opAt ops i = some (d, .call { callee := .value (.func f), args := xs, argTypes := ts }, g))
    (hc : (true && (d.all fun d => Nat.blt d X.N) && Nat.blt i k && (says ops E g == some true)) = true) (hf : entered X.P f = true) (hx : Env.opsOf E xs.toList = some vs)
    (hcall : ∀ w, Heap X.w0 S w → Calls X.P f vs.toArray w (Ret w v)) (h : Rg X ops (i + 1) k (putE d v E) S Q) : Rg X ops i k E S Q :=
  rg_call_any (T := Unit) (caps := #[]) ho hc rfl hf hx (fun _ => v) (fun _ => S) (fun _ => True) (fun w hw => by
    rw [Array.append_empty]
    exact (hcall w hw).mono fun e w' ⟨he, hb⟩ => ⟨(), trivial, he, hw.below hb⟩) (fun _ _ => h)
end
end Go.Proofs.Ytfhhggcdmgjbcaa.Sx
