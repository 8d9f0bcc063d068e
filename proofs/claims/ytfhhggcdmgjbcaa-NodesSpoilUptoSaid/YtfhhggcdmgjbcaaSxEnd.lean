/-
  A part of the walk of the seat: laws of a small proof system, and contracts of functions, each proved. Conditions: as each theorem says.
-/
import Derived.Test.YtfhhggcdmgjbcaaSxIter
namespace Go.Proofs.Ytfhhggcdmgjbcaa.Sx
open Go Go.RowKit

/-- something that is known, and no memory -/
def fact (φ : Prop) : Item := ⟨fun _ => False, fun _ => φ, fun _ _ _ h => h⟩

section
variable {X : Cx} {ops : Array Oper} {i k : Nat} {E : Env} {S : List Item} {Q : Exit → Act → World → Prop} {c : Code}

theorem Ev.fact {φ : Prop} (h : fact φ ∈ S) (h2 : φ → Ev X c E S Q) : Ev X c E S Q := fun a w ha hw => h2 (hw.ok _ h) a w ha hw
theorem At.fact {e : Exit} {φ : Prop} (h : fact φ ∈ S) (h2 : φ → At X e E S Q) : At X e E S Q := fun a w ha hw => h2 (hw.ok _ h) a w ha hw
theorem Rg.fact {φ : Prop} (h : fact φ ∈ S) (h2 : φ → Rg X ops i k E S Q) : Rg X ops i k E S Q := fun a w ha hw => h2 (hw.ok _ h) a w ha hw
theorem Heap.addFact {w0 w : World} {S : List Item} {φ : Prop} (h : Heap w0 S w) (hφ : φ) : Heap w0 (Sx.fact φ :: S) w := by
  refine ⟨h.os, h.tape, h.output, fun it hit => ?_, fun it hit k hk => ?_, List.Pairwise.cons (fun x _ k hk => hk.elim) h.apart⟩
  · rcases List.mem_cons.1 hit with rfl | hit
    · exact hφ
    · exact h.ok it hit
  · rcases List.mem_cons.1 hit with rfl | hit
    · exact hk.elim
    · exact h.low it hit k hk
theorem Heap.bot {w0 w : World} {S : List Item} {φ : Prop} (hw : Heap w0 S w) (h : Sx.fact φ ∈ S) : φ := hw.ok _ h

/-- on with the code that stands next, what is known written out -/
theorem at_codeS {e : Exit} {Q' : Exit → Act → World → Prop} (js : List Nat) (E' : Env) (S' : List Item) (hs : Sub E' E) (hj : pick S js = S') (hn : js.Nodup) (hQ : ∀ a w, c.wpIn (fence X.r) 0 X.P Q' a w → Q e a w) (h : Ev X c E' S' Q') : At X e E S Q :=
  At.code js hs hn hQ (hj ▸ h)
/-- what is asked at the end, under a name -/
theorem At.via {e : Exit} {Q Q' : Exit → Act → World → Prop} (hQ : ∀ e a w, Q' e a w → Q e a w) (h : At X e E S Q') : At X e E S Q := fun a w ha hw => hQ _ _ _ (h a w ha hw)
theorem calls_ofQ {P : Program} {f : FuncId} {fn : Func} {args : List Value} {w w0 : World} {R : Ending → World → Prop} (S : List Item) (hf : P.funcs[f]? = some fn) (hb : fn.body.isSome = true) (hn : Nat.ble args.length fn.ntmps = true)
    (hS : Heap w0 S w) (h : ∀ Q : Exit → Act → World → Prop, (∀ e a w, bodyPost P fn R e a w → Q e a w) → Ev ⟨none, P, fn.ntmps, [], w0⟩ (fbody fn) (envOf args 0) S Q) : Calls P f args.toArray w R :=
  calls_of_heap S hf hb hn hS (h _ fun _ _ _ h => h)
theorem calls_ofM {P : Program} {f : FuncId} {fn : Func} {args : List Value} {w w0 : World} {R : Ending → World → Prop} (S : List Item) (hf : P.funcs[f]? = some fn) (hb : fn.body.isSome = true) (hn : Nat.ble args.length fn.ntmps = true)
    (hS : Heap w0 S w) (h : ∀ Q : Exit → Act → World → Prop, (∀ e a w, bodyPostM (fence none) 0 P fn R e a w → Q e a w) → Ev ⟨none, P, fn.ntmps, [], w0⟩ (fbody fn) (envOf args 0) S Q) : Calls P f args.toArray w R :=
  calls_of_marks S hf hb hn hS (h _ fun _ _ _ h => h)
theorem at_beginQ {c : Code} {l : Nat} {F : LoopFam} {R : Ending → World → Prop} {E' : Env} (j : Nat) (js : List Nat) (hr : X.r = some l) (hj : S[j]? = some (blk l (.loop (F.rc .ready none)))) (hs : Sub E' E) (hn : js.Nodup)
    (h : ∀ Q : Exit → Act → World → Prop, (∀ e a w, roundPost X.P l R e a w → Q e a w) → Ev X (cr c) E' (pick (S.set j (blk l (.loop (F.rc .busy none)))) js) Q) : At X .normal E S (BeginTo X.P l c R) :=
  at_begin j js hr hj hs hn (h _ fun _ _ _ h => h)

/-! ### What a call makes that its caller goes on with -/
def New (w : World) (L : List Item) (w' : World) : Prop := Heap w (L ++ [base w (Low w)]) w'
theorem New.below {w w' : World} {L : List Item} (h : New w L w') : Below w.heap.size w w' :=
  Heap.base_below h L.length (by simp)
theorem Heap.grow {w0 w w' : World} {S L : List Item} (h : Heap w0 S w) (hn : New w L w') : Heap w0 (L ++ S) w' := by
  have h' := h.below hn.below
  obtain ⟨h1, _, h3⟩ := List.pairwise_append.1 hn.apart
  refine ⟨h'.os, h'.tape, h'.output, fun it hit => ?_, fun it hit k hk => ?_, ?_⟩
  · rcases List.mem_append.1 hit with hit | hit
    · exact hn.ok it (List.mem_append_left _ hit)
    · exact h'.ok it hit
  · rcases List.mem_append.1 hit with hit | hit
    · exact hn.low it (List.mem_append_left _ hit) k hk
    · exact h'.low it hit k hk
  · refine List.pairwise_append.2 ⟨h1, h'.apart, fun x hx y hy k hk hk' => ?_⟩
    exact h3 x hx _ (List.mem_singleton.2 rfl) k hk (h.low y hy k hk')
/-- what a call comes to: a value and memory of its own -/
def RetN {T : Type} (w : World) (φ : T → Prop) (v : T → Value) (L : T → List Item) (e : Ending) (w' : World) : Prop := ∃ t, φ t ∧ e = .returned (v t) ∧ New w (L t) w'
theorem rg_callN {T : Type} {d : Option Nat} {f : FuncId} {fo : Operand} {caps : Array Value} {xs : Array Operand} {ts : Array TypeId} {g : Option (Nat × Bool)} {vs : List Value} {φ : T → Prop} {v : T → Value} {L : T → List Item}
    (ho : opAt ops i = some (d, .call { callee := .value fo, args := xs, argTypes := ts }, g))
    (hc : (true && (d.all fun d => Nat.blt d X.N) && Nat.blt i k && (says ops E g == some true)) = true) (hfo : E.op fo = some (.func (.func f) #[] caps)) (hf : entered X.P f = true) (hx : Env.opsOf E xs.toList = some vs)
    (hcall : ∀ w, Heap X.w0 S w → Calls X.P f (vs.toArray ++ caps) w (RetN w φ v L)) (h : ∀ t, φ t → Rg X ops (i + 1) k (putE d (v t) E) (L t ++ S) Q) : Rg X ops i k E S Q :=
  rg_call_any ho hc hfo hf hx v (fun t => L t ++ S) φ (fun w hw => (hcall w hw).mono fun e w' ⟨t, h1, h2, h3⟩ => ⟨t, h1, h2, hw.grow h3⟩) h
/-- a call of a function value that only makes memory of its own -/
theorem rg_callD {d : Option Nat} {f : FuncId} {fo : Operand} {caps : Array Value} {xs : Array Operand} {ts : Array TypeId} {g : Option (Nat × Bool)} {vs : List Value} {v : Value} (ho : opAt ops i = some (d, .call { callee := .value fo, args := xs, argTypes := ts }, g))
    (hc : (true && (d.all fun d => Nat.blt d X.N) && Nat.blt i k && (says ops E g == some true)) = true) (hfo : E.op fo = some (.func (.func f) #[] caps)) (hf : entered X.P f = true) (hx : Env.opsOf E xs.toList = some vs)
    (hcall : ∀ w, Heap X.w0 S w → Calls X.P f (vs.toArray ++ caps) w (Ret w v)) (h : Rg X ops (i + 1) k (putE d v E) S Q) : Rg X ops i k E S Q :=
  rg_call_any (T := Unit) ho hc hfo hf hx (fun _ => v) (fun _ => S) (fun _ => True) (fun w hw => (hcall w hw).mono fun e w' ⟨he, hb⟩ => ⟨(), trivial, he, hw.below hb⟩) (fun _ _ => h)

/-! ### The end, by a result's cell, or over marks -/
def readRV (a : Act) : ResultVar → Sem Value
  | .tmp t => pure (a.tmps.getD t undef)
  | .cell b t => do loadVar t (← asAddr (a.tmps.getD b undef))
def Reads (X : Cx) (E : Env) (S : List Item) (r : ResultVar) (v : Value) : Prop := ∀ a w, Knows X.N X.D E a → Heap X.w0 S w → (readRV a r).run X.P w = .ok v w
def Reads' (X : Cx) (E : Env) (S : List Item) (r : ResultVar) (v : Value) : Prop := ∀ D a w, Knows X.N D E a → Heap X.w0 S w → (readRV a r).run X.P w = .ok v w
theorem reads_tmp {t : Nat} {v : Value} (h : E.get t = some v) : Reads' X E S (.tmp t) v := by
  intro D a w ha _
  have := ha.get t v h
  simp [readRV, this]
theorem reads_cell {b o t T : Nat} {cs : Array Value} {v : Value} (j : Nat) (h : E.get b = some (.pointer (some ⟨o, 0, none⟩))) (hj : S[j]? = some (blk o (.cells cs T (0, 0)))) (ht : oneT X.P t = true) (hv : cs[0]? = some v) : Reads' X E S (.cell b t) v := by
  intro D a w ha hw
  have h1 := ha.get b _ h
  have h2 := hw.blk_at j hj
  have h3 : w.cell? ⟨o, 0, none⟩ = some v := by rw [cell_blk h2]; exact hv
  simp only [readRV, Sem.run_bind]
  simp [h1, asAddr, run_loadVar_one ht h3]

def LeaveAt (X : Cx) (fn : Func) (R : Ending → World → Prop) (D : List Deferred) (E : Env) (S : List Item) : Prop :=
  ∀ D' a w, Knows X.N D' E a → Heap X.w0 S w → LeavesInM (fence none) 0 X.P fn a.tmps R D .returning w
theorem LeaveAt.mark {fn : Func} {R : Ending → World → Prop} {D : List Deferred} {b : Nat} (j : Nat) (hj : S[j]? = some (blk b (.deferred (some [])))) (h : LeaveAt X fn R D E (S.set j (blk b (.deferred none)))) :
    LeaveAt X fn R ({ target := .collected b, args := #[] } :: D) E S := by
  intro D' a w ha hw
  refine ⟨by simp, .inl ⟨b, _, rfl, run_takeDeferred (hw.blk_at j hj), h D' a _ ha ?_⟩⟩
  exact hw.set j hj (.deferred none) rfl rfl rfl rfl
theorem LeaveAt.one {fn : Func} {R : Ending → World → Prop} {r : ResultVar} {v : Value} (hr : fn.results = #[r]) (hv : Reads' X E S r v) (h : ∀ w, Heap X.w0 S w → R (.returned v) w) : LeaveAt X fn R [] E S := by
  intro D' a w ha hw
  refine ⟨v, ?_, h w hw⟩
  have := hv D' a w ha hw
  unfold results
  rw [hr]
  cases r with
  | tmp t => simp only [readRV] at this; simp at this ⊢; exact this
  | cell b t => simp only [readRV, Sem.run_bind, Array.getD_eq_getD_getElem?] at this; simpa [Sem.run_bind] using this
theorem LeaveAt.none {fn : Func} {R : Ending → World → Prop} (hr : fn.results = #[]) (h : ∀ w, Heap X.w0 S w → R (.returned (.tuple #[])) w) : LeaveAt X fn R [] E S := by
  intro D' a w ha hw
  exact ⟨_, results_none hr _ _ _, h w hw⟩
theorem At.leave {fn : Func} {R : Ending → World → Prop} (h : LeaveAt X fn R X.D E S) : At X .ret E S (bodyPostM (fence none) 0 X.P fn R) := by
  intro a w ha hw
  show LeavesInM (fence none) 0 X.P fn a.tmps R a.defers .returning w
  rw [ha.defers]
  exact h _ a w ha hw
theorem At.leaveN {fn : Func} {R : Ending → World → Prop} (h : LeaveAt X fn R X.D E S) : At X .normal E S (bodyPostM (fence none) 0 X.P fn R) := by
  intro a w ha hw
  show LeavesInM (fence none) 0 X.P fn a.tmps R a.defers .returning w
  rw [ha.defers]
  exact h _ a w ha hw
/-- a result's cell, where nothing is deferred -/
theorem At.retCell {fn : Func} {R : Ending → World → Prop} {r : ResultVar} {v : Value} (hr : fn.results = #[r]) (hD : X.D = []) (hv : Reads' X E S r v) (h : ∀ w, Heap X.w0 S w → R (.returned v) w) :
    At X .ret E S (bodyPost X.P fn R) := by
  intro a w ha hw
  obtain ⟨u, h1, h2⟩ := LeaveAt.one hr hv h _ a w ha hw
  exact ⟨by rw [ha.defers, hD], u, h1, h2⟩
/-- no result -/
theorem At.ret0 {fn : Func} {R : Ending → World → Prop} (hr : fn.results = #[]) (hD : X.D = []) (h : ∀ w, Heap X.w0 S w → R (.returned (.tuple #[])) w) : At X .ret E S (bodyPost X.P fn R) := by
  intro a w ha hw
  exact ⟨by rw [ha.defers, hD], _, results_none hr _ _ _, h w hw⟩
theorem At.norm0 {fn : Func} {R : Ending → World → Prop} (hr : fn.results = #[]) (hD : X.D = []) (h : ∀ w, Heap X.w0 S w → R (.returned (.tuple #[])) w) : At X .normal E S (bodyPost X.P fn R) := by
  intro a w ha hw
  exact ⟨by rw [ha.defers, hD], _, results_none hr _ _ _, h w hw⟩

/-! ### Bytes -/
def bv (xs : List Int) : List Value := xs.map (.int .u8 ·)
theorem own_bytes {w0 w : World} {S : List Item} (hw : Heap w0 S w) (j : Nat) {p : Option Addr} {n c : Nat} {xs : List Int} (hj : S[j]? = some (own 5 1 p n c (bv xs))) : BytesAt (Low w) w p xs := by
  rcases hw.at_ j hj with ⟨h1, h2, _, h4⟩ | ⟨b, rest, h1, h2, h3, _⟩
  · have : xs = [] := by simpa [bv] using h4
    subst this
    exact ⟨fun h => by simp at h, fun _ _ h => by simp at h, fun _ _ _ i h => by simp at h⟩
  · refine ⟨fun _ => ⟨b, 0, h1⟩, fun b' o' _ hp => ?_, fun b' o' hp i hi jj hjj => ?_⟩
    · rw [h1] at hp
      simp only [Option.some.injEq, Addr.mk.injEq] at hp
      have := hw.lt j hj (k := b) h1
      show b' < _
      omega
    · rw [h1] at hp
      simp only [Option.some.injEq, Addr.mk.injEq, and_true] at hp
      obtain ⟨rfl, rfl⟩ := hp
      rw [cell_blk h2, show 0 + i * 1 + jj = i from by omega]
      simp only [List.getElem?_toArray]
      rw [List.getElem?_append_left (by simpa [bv] using hi)]
      simp [bv, List.getD_eq_getElem?_getD, List.getElem?_eq_getElem hi]
theorem own_length {w0 w : World} {S : List Item} (hw : Heap w0 S w) (j : Nat) {T sz : Nat} {p : Option Addr} {n c : Nat} {xs : List Value} (hj : S[j]? = some (own T sz p n c xs)) : xs.length = n * sz := by
  rcases hw.at_ j hj with ⟨_, h2, _, h4⟩ | ⟨b, rest, h1, h2, h3, _⟩
  · simp [h2, h4]
  · exact h3
end
end Go.Proofs.Ytfhhggcdmgjbcaa.Sx
