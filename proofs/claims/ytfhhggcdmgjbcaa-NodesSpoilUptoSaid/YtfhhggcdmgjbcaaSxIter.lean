/-
  A part of the walk of the seat: laws of a small proof system, and contracts of functions, each proved. Conditions: as each theorem says.
-/
import Derived.Test.YtfhhggcdmgjbcaaSxOwn2
import Derived.RangeFuncIn
import Derived.RangeFuncRecord
import Derived.RangeFuncLeaves
namespace Go.Proofs.Ytfhhggcdmgjbcaa.Sx
open Go Go.RowKit

/-- several items as one -/
def items (L : List Item) : Item :=
  ⟨fun k => ∃ it ∈ L, it.fp k, fun w => (∀ it ∈ L, it.ok w) ∧ L.Pairwise (fun (x y : Item) => ∀ k : Nat, x.fp k → ¬ y.fp k),
   fun w w' h hw => ⟨fun it hit => it.stable w w' (fun k hk => h k ⟨it, hit, hk⟩) (hw.1 it hit), hw.2⟩⟩

section
variable {w0 w : World} {L S : List Item}
theorem Heap.unitems (h : Heap w0 (items L :: S) w) : Heap w0 (L ++ S) w := by
  have hi := h.ok (items L) (List.mem_cons_self ..)
  obtain ⟨hp1, hp2⟩ := List.pairwise_cons.1 h.apart
  refine ⟨h.os, h.tape, h.output, fun it hit => ?_, fun it hit k hk => ?_, ?_⟩
  · rcases List.mem_append.1 hit with hit | hit
    · exact hi.1 it hit
    · exact h.ok it (List.mem_cons_of_mem _ hit)
  · rcases List.mem_append.1 hit with hit | hit
    · exact h.low (items L) (List.mem_cons_self ..) k ⟨it, hit, hk⟩
    · exact h.low it (List.mem_cons_of_mem _ hit) k hk
  · exact List.pairwise_append.2 ⟨hi.2, hp2, fun x hx y hy k hk => hp1 y hy k ⟨x, hx, hk⟩⟩
theorem Heap.toItems (h : Heap w0 (L ++ S) w) : Heap w0 (items L :: S) w := by
  obtain ⟨h1, h2, h3⟩ := List.pairwise_append.1 h.apart
  refine ⟨h.os, h.tape, h.output, fun it hit => ?_, fun it hit k hk => ?_, List.Pairwise.cons (fun y hy k hk => ?_) h2⟩
  · rcases List.mem_cons.1 hit with rfl | hit
    · exact ⟨fun it hit => h.ok it (List.mem_append_left _ hit), h1⟩
    · exact h.ok it (List.mem_append_right _ hit)
  · rcases List.mem_cons.1 hit with rfl | hit
    · obtain ⟨it, hit, hk⟩ := hk; exact h.low it (List.mem_append_left _ hit) k hk
    · exact h.low it (List.mem_append_right _ hit) k hk
  · obtain ⟨it, hit, hk⟩ := hk; exact h3 it hit y hy k hk
theorem Heap.perm {S' : List Item} (h : Heap w0 S w) (hp : S.Perm S') : Heap w0 S' w :=
  ⟨h.os, h.tape, h.output, fun it hit => h.ok it (hp.mem_iff.2 hit), fun it hit => h.low it (hp.mem_iff.2 hit),
   (hp.pairwise_iff (fun hxy k hk hk' => hxy k hk' hk)).1 h.apart⟩
/-- the blocks in front of two items, and the second, as one frame -/
theorem Heap.frame {own S0 : List Item} {J fr : Item} (h : Heap w0 (own ++ (J :: fr :: S0)) w) : Heap w0 (J :: items (own ++ [fr]) :: S0) w := by
  have h1 : Heap w0 ((own ++ [fr]) ++ (J :: S0)) w := h.perm (by
    rw [List.append_assoc]
    refine List.Perm.append_left own ?_
    exact List.Perm.swap ..)
  exact h1.toItems.perm (List.Perm.swap ..)
theorem Heap.unframe {own S0 : List Item} {J fr : Item} (h : Heap w0 (J :: items (own ++ [fr]) :: S0) w) : Heap w0 (own ++ (J :: fr :: S0)) w := by
  have h1 : Heap w0 ((own ++ [fr]) ++ (J :: S0)) w := (h.perm (List.Perm.swap ..)).unitems
  refine h1.perm ?_
  rw [List.append_assoc]
  exact List.Perm.append_left own (List.Perm.swap ..)
end

/-- a call of yield asks for a round, that comes to this -/
def YieldTo (P : Program) (l : Nat) (args : Array Value) (w : World) (R : Ending → World → Prop) : Prop :=
  ∃ fn tmps assign body, (Instr.yield l args).run P w = .ok (.round l fn tmps assign body) w ∧ RoundIn (fence none) 0 P l fn tmps assign body w R

/-- an iterator that hands these rows to its rounds, in order, as long as they say yes; 'mine': memory of its own, which the rounds leave alone -/
def IterAt (P : Program) (g : FuncId) (caps : Array Value) (xs : List (List Value)) (w0 : World) (mine S : List Item) : Prop :=
  ∀ (T : Type) (J Jx : Nat → T → Item) (l : Nat) (t0 : T) (w : World) (fr : Item), Heap w0 (mine ++ (J 0 t0 :: fr :: S)) w →
    (∀ (n : Nat) (t : T) (w : World) (fr : Item), n < xs.length → Heap w0 (J n t :: fr :: S) w →
      YieldTo P l (xs.getD n []).toArray w fun e w' =>
        (e = .returned (.bool true) ∧ ∃ t', Heap w0 (J (n + 1) t' :: fr :: S) w') ∨ (e = .returned (.bool false) ∧ ∃ t', Heap w0 (Jx (n + 1) t' :: fr :: S) w')) →
    Calls P g (#[.func (.yield l) #[] #[]] ++ caps) w fun e w' => (∃ v, e = .returned v) ∧
      ((∃ t', Heap w0 (J xs.length t' :: fr :: S) w') ∨ (∃ n t', n ≤ xs.length ∧ Heap w0 (Jx n t' :: fr :: S) w'))

theorem YieldTo.mono {P : Program} {l : Nat} {args : Array Value} {w : World} {R R' : Ending → World → Prop} (h : YieldTo P l args w R) (hr : ∀ e w, R e w → R' e w) : YieldTo P l args w R' := by
  obtain ⟨fn, tmps, assign, body, h1, h2⟩ := h
  exact ⟨fn, tmps, assign, body, h1, h2.mono hr⟩
theorem yield_own {P : Program} {T : Type} {J Jx : Nat → T → Item} {l : Nat} {w0 : World} {xs : List (List Value)} {S0 : List Item} {fr : Item}
    (hY : ∀ (n : Nat) (t : T) (w : World) (fr : Item), n < xs.length → Heap w0 (J n t :: fr :: S0) w →
      YieldTo P l (xs.getD n []).toArray w fun e w' =>
        (e = .returned (.bool true) ∧ ∃ t', Heap w0 (J (n + 1) t' :: fr :: S0) w') ∨ (e = .returned (.bool false) ∧ ∃ t', Heap w0 (Jx (n + 1) t' :: fr :: S0) w'))
    (own : List Item) (n : Nat) (t : T) (hn : n < xs.length) {vs : List Value} (hv : xs.getD n [] = vs) : ∀ w, Heap w0 (own ++ (J n t :: fr :: S0)) w →
      YieldTo P l vs.toArray w fun e w' => (e = .returned (.bool true) ∧ ∃ t', Heap w0 (own ++ (J (n + 1) t' :: fr :: S0)) w') ∨ (e = .returned (.bool false) ∧ ∃ t', Heap w0 (own ++ (Jx (n + 1) t' :: fr :: S0)) w') := by
  intro w hw
  rw [← hv]
  refine (hY n t w (items (own ++ [fr])) hn hw.frame).mono ?_
  rintro e w' (⟨h1, t', h2⟩ | ⟨h1, t', h2⟩)
  · exact .inl ⟨h1, t', h2.unframe⟩
  · exact .inr ⟨h1, t', h2.unframe⟩

/-! ### The iterator's side: a call of yield -/
section
variable {X : Cx} {ops : Array Oper} {i k : Nat} {E : Env} {S : List Item} {Q : Exit → Act → World → Prop}
theorem rg_yield {T : Type} {d l : Nat} {fo : Operand} {xs : Array Operand} {ts : Array TypeId} {g : Option (Nat × Bool)} {vs : List Value} {S1 S2 : T → List Item} (hr : X.r = none)
    (ho : opAt ops i = some (some d, .call { callee := .value fo, args := xs, argTypes := ts }, g))
    (hc : (true && Nat.blt d X.N && Nat.blt i k && (says ops E g == some true)) = true) (hfo : E.op fo = some (.func (.yield l) #[] #[])) (hx : Env.opsOf E xs.toList = some vs)
    (hY : ∀ w, Heap X.w0 S w → YieldTo X.P l vs.toArray w fun e w' => (e = .returned (.bool true) ∧ ∃ t, Heap X.w0 (S1 t) w') ∨ (e = .returned (.bool false) ∧ ∃ t, Heap X.w0 (S2 t) w'))
    (ht : ∀ t, Rg X ops (i + 1) k ((d, .bool true) :: E) (S1 t) Q) (hf : ∀ t, Rg X ops (i + 1) k ((d, .bool false) :: E) (S2 t) Q) : Rg X ops i k E S Q := by
  intro a w ha hw
  simp only [Bool.and_eq_true, beq_iff_eq, Nat.blt_eq] at hc
  obtain ⟨⟨⟨_, hd⟩, hik⟩, hs⟩ := hc
  rw [range_step (by simpa using hik)]
  simp only [opAt] at ho
  cases hoi : ops[i]? with
  | none => rw [hoi] at ho; simp at ho
  | some o =>
    rw [hoi] at ho
    simp only [Option.map_some, core, Option.some.injEq, Prod.mk.injEq] at ho
    obtain ⟨h1, h2, h3⟩ := ho
    simp only [wpOpsIn, hoi]
    rw [if_pos (says_wanted ha (by rw [h3]; exact hs))]
    refine ⟨fun _ _ => trivial, ?_⟩
    obtain ⟨fn, tmps, assign, body, hy, hR⟩ := hY w hw
    have he : (xs.map a.eval) = vs.toArray := by
      have := ha.evals hx
      rw [← Array.toList_inj]; simpa using this
    have hrun : (execOp a.eval o).run X.P w = .ok (.round l fn tmps assign body) w := by
      unfold execOp; rw [h2]
      simp [resolve, ha.eval hfo, Deferred.ofValue, he, invoke, hy]
    rw [semAt_calm (by rw [h2]; rfl), hrun, Oper.uponIn_round]
    refine ⟨fun h => by simp [fence, Fence.wide] at h, ?_⟩
    have key : ∀ R, RoundIn (fence none) 0 X.P l fn tmps assign body w R → RoundIn (fence X.r) (0 - 1) X.P l fn tmps assign body w R := by
      rw [hr]; exact fun _ h => h
    refine (key _ hR).mono ?_
    rintro e w' (⟨rfl, t, hw'⟩ | ⟨rfl, t, hw'⟩)
    · dsimp only; rw [h1]; exact ht t _ _ (ha.put hd _) hw'
    · dsimp only; rw [h1]; exact hf t _ _ (ha.put hd _) hw'

/-- a function whose call begins in a memory of which this is known -/
theorem calls_of_heap {P : Program} {f : FuncId} {fn : Func} {args : List Value} {w w0 : World} {R : Ending → World → Prop} (S : List Item) (hf : P.funcs[f]? = some fn) (hb : fn.body.isSome = true) (hn : Nat.ble args.length fn.ntmps = true)
    (hS : Heap w0 S w) (h : Ev ⟨none, P, fn.ntmps, [], w0⟩ (fbody fn) (envOf args 0) S (bodyPost P fn R)) : Calls P f args.toArray w R := by
  have hb' : fn.body = some (fbody fn) := by
    unfold fbody
    cases hb' : fn.body with
    | none => rw [hb'] at hb; cases hb
    | some c => rfl
  refine callsIn_wide (n := 0) |>.1 (callsIn_of_wp hf hb' trivial ?_ rfl)
  refine h _ w ⟨?_, rfl, ?_⟩ hS
  · have := Nat.le_of_ble_eq_true hn; simp; omega
  · intro s v hs
    obtain ⟨_, h2⟩ := envOf_get args 0 s v hs
    have hlt : s < args.length := by
      have := (List.getElem?_eq_some_iff.1 h2).1; omega
    simp only [Nat.sub_zero] at h2
    show (args.toArray ++ Array.replicate _ undef)[s]? = some v
    rw [Array.getElem?_append_left (by simpa using hlt)]
    simpa using h2
/-- the same, of a function that holds ranges over functions -/
theorem calls_of_marks {P : Program} {f : FuncId} {fn : Func} {args : List Value} {w w0 : World} {R : Ending → World → Prop} (S : List Item) (hf : P.funcs[f]? = some fn) (hb : fn.body.isSome = true) (hn : Nat.ble args.length fn.ntmps = true)
    (hS : Heap w0 S w) (h : Ev ⟨none, P, fn.ntmps, [], w0⟩ (fbody fn) (envOf args 0) S (bodyPostM (fence none) 0 P fn R)) : Calls P f args.toArray w R := by
  have hb' : fn.body = some (fbody fn) := by
    unfold fbody
    cases hb' : fn.body with
    | none => rw [hb'] at hb; cases hb
    | some c => rfl
  refine callsIn_wide (n := 0) |>.1 (callsIn_of_wp_marks hf hb' trivial ?_ rfl)
  refine h _ w ⟨?_, rfl, ?_⟩ hS
  · have := Nat.le_of_ble_eq_true hn; simp; omega
  · intro s v hs
    obtain ⟨_, h2⟩ := envOf_get args 0 s v hs
    have hlt : s < args.length := by
      have := (List.getElem?_eq_some_iff.1 h2).1; omega
    simp only [Nat.sub_zero] at h2
    show (args.toArray ++ Array.replicate _ undef)[s]? = some v
    rw [Array.getElem?_append_left (by simpa using hlt)]
    simpa using h2

/-! ### The loop's side -/
def setPs : List Nat → List Value → Env → Env
  | p :: ps, v :: vs, E => setPs ps vs ((p, v) :: E)
  | _, _, E => E
def rfShape : Code → Option (Nat × Array Tmp)
  | .rangeFunc (.tmp t) ps _ _ => some (t, ps)
  | _ => none

/-- the loop's record, by its state and its pending jump -/
structure LoopFam where
  rc : LoopState → Option Code → Loop
  state : ∀ s p, (rc s p).state = s
  pending : ∀ s p, (rc s p).pending = p
  turn : ∀ s p s' p', { rc s p with state := s', pending := p' } = rc s' p'
  turn1 : ∀ s p s', { rc s p with state := s' } = rc s' p

theorem knows_setPs {N D} : ∀ (ps : List Nat) (vs : List Value) (E : Env) (a : Act), Knows N D E a → (∀ p ∈ ps, p < N) →
    Knows N D (setPs ps vs E) { a with tmps := (ps.zip vs).foldl (fun t (p, v) => t.setIfInBounds p v) a.tmps } := by
  intro ps
  induction ps with
  | nil => intro vs E a h _; simpa [setPs] using h
  | cons p ps ih =>
    intro vs E a h hp
    cases vs with
    | nil => simpa [setPs] using h
    | cons v vs =>
      simp only [setPs, List.zip_cons_cons, List.foldl_cons]
      have := ih vs ((p, v) :: E) (a.put (some p) v) (h.put (hp p (List.mem_cons_self ..)) v) (fun q hq => hp q (List.mem_cons_of_mem _ hq))
      exact this

/-- how a round is left, for the law below -/
def RoundTo {T : Type} (w0 : World) (F : LoopFam) (l Db : Nat) (J Jx : Nat → T → List Item) (jc : Code) (n : Nat) (fr : Item) (S0 : List Item) (e : Ending) (w' : World) : Prop :=
  (e = .returned (.bool true) ∧ ∃ t', Heap w0 (J (n + 1) t' ++ (blk l (.loop (F.rc .ready none)) :: blk Db (.deferred (some [])) :: fr :: S0)) w') ∨
  (e = .returned (.bool false) ∧ ∃ t', Heap w0 (Jx (n + 1) t' ++ (blk l (.loop (F.rc .done (some jc))) :: blk Db (.deferred (some [])) :: fr :: S0)) w')

/-- what is asked behind the assignment to the loop's variables -/
def BeginTo (P : Program) (l : Nat) (c : Code) (R : Ending → World → Prop) : Exit → Act → World → Prop :=
  Exit.then (fun a₁ w₁ => ∃ w₂, (Instr.beginRound l).run P w₁ = .ok () w₂ ∧ (cr c).wpIn ((fence none).inRound l) 0 P (roundPost P l R) a₁ w₂) (fun _ _ _ => False)

theorem ev_rangeFunc {c : Code} {t : Nat} {ps : Array Tmp} {gf : FuncId} {caps : Array Value} {T : Type} (xs : List (List Value)) (J Jx : Nat → T → List Item) (jc : Code) (t0 : T) (mine S0 : List Item)
    (hs : rfShape c = some (t, ps)) (hr : X.r = none) (hg : E.get t = some (.func (.func gf) #[] caps)) (hent : entered X.P gf = true) (hps : (ps.toList.all fun p => Nat.blt p X.N) = true) (hlen : ∀ x ∈ xs, x.length = ps.size)
    (hS : ∀ w, Heap X.w0 S w → Heap X.w0 (J 0 t0 ++ (mine ++ S0)) w) (hit : IterAt X.P gf caps xs X.w0 mine S0)
    (hround : ∀ (F : LoopFam) (l Db n : Nat) (t : T) (fr : Item), n < xs.length →
      Ev ⟨some l, X.P, X.N, [], X.w0⟩ (cl c) (setPs ps.toList (xs.getD n []) E) (J n t ++ (blk l (.loop (F.rc .ready none)) :: blk Db (.deferred (some [])) :: fr :: S0)) (BeginTo X.P l c (RoundTo X.w0 F l Db J Jx jc n fr S0)))
    (hdone : ∀ (Db : Nat) (t : T), At ⟨none, X.P, X.N, { target := .collected Db, args := #[] } :: X.D, X.w0⟩ .normal E (J xs.length t ++ (blk Db (.deferred (some [])) :: S0)) Q)
    (hjump : ∀ (Db n : Nat) (t : T), n ≤ xs.length → Ev ⟨none, X.P, X.N, { target := .collected Db, args := #[] } :: X.D, X.w0⟩ jc E (Jx n t ++ (blk Db (.deferred (some [])) :: S0)) Q) : Ev X c E S Q := by
  cases c with
  | rangeFunc g ps' assign body =>
    cases g with
    | tmp t' =>
      simp only [rfShape, Option.some.injEq, Prod.mk.injEq] at hs
      obtain ⟨rfl, rfl⟩ := hs
      intro a w ha hw
      rw [hr]
      refine wpIn_rangeFunc (F := fence none) fun fn _ => ?_
      let rec_ : LoopState → Option Code → Loop := fun st pe => { state := st, pending := pe, fn, tmps := a.tmps, params := ps', assign, body, defers := w.heap.size }
      let F : LoopFam := ⟨rec_, fun _ _ => rfl, fun _ _ => rfl, fun _ _ _ _ => rfl, fun _ _ _ => rfl⟩
      have hw1 : Heap X.w0 (blk (w.heap.size + 1) (.loop (F.rc .ready none)) :: blk w.heap.size (.deferred (some [])) :: (J 0 t0 ++ (mine ++ S0)))
          ((w.alloc (.deferred (some []))).alloc (.loop { state := .ready, pending := none, fn, tmps := a.tmps, params := ps', assign, body, defers := w.heap.size })) := by
        have h1 := ((hS w hw).alloc (.deferred (some [])))
        have h2 := h1.alloc (.loop (F.rc .ready none))
        have e : ({ w with heap := w.heap.push (.deferred (some [])) } : World).heap.size = w.heap.size + 1 := by simp
        rw [e] at h2
        exact h2
      have hg' : a.eval (.tmp t') = .func (.func gf) #[] caps := ha.eval (x := .tmp t') hg
      obtain ⟨W1, hW1⟩ : ∃ W1, ((w.alloc (.deferred (some []))).alloc (.loop { state := .ready, pending := none, fn, tmps := a.tmps, params := ps', assign, body, defers := w.heap.size })) = W1 := ⟨_, rfl⟩
      rw [hW1] at hw1
      refine ⟨w.heap.size + 1, [{ target := .collected w.heap.size, args := #[] }], W1, { target := .fn (.func gf) caps, args := #[.func (.yield (w.heap.size + 1)) #[] #[]] }, W1, gf,
        #[.func (.yield (w.heap.size + 1)) #[] #[]] ++ caps, W1, by rw [← hW1]; exact run_enterLoop_outer _ _ _ _ _, ?_, fun _ _ => trivial, ?_, fun h => by simp [fence, Fence.wide] at h, ?_⟩
      · simp only [resolve, hg']
        simp [Deferred.ofValue, Act.eval]
      · simp [invoke, run_callFunc hent]
      · refine calls_in ?_
        have h0 : Heap X.w0 (mine ++ (items (J 0 t0 ++ [blk (w.heap.size + 1) (.loop (F.rc .ready none)), blk w.heap.size (.deferred (some []))]) :: items [] :: S0)) W1 := by
          have h1 : Heap X.w0 (items [] :: ((J 0 t0 ++ [blk (w.heap.size + 1) (.loop (F.rc .ready none)), blk w.heap.size (.deferred (some []))]) ++ (mine ++ S0))) W1 := by
            refine Heap.toItems (L := []) ?_
            simp only [List.nil_append]
            refine hw1.perm ?_
            rw [List.append_assoc]
            exact List.perm_append_comm_assoc [_, _] (J 0 t0) (mine ++ S0)
          have h2 : Heap X.w0 (items (J 0 t0 ++ [blk (w.heap.size + 1) (.loop (F.rc .ready none)), blk w.heap.size (.deferred (some []))]) :: (items [] :: (mine ++ S0))) W1 :=
            Heap.toItems (L := J 0 t0 ++ [blk (w.heap.size + 1) (.loop (F.rc .ready none)), blk w.heap.size (.deferred (some []))]) (S := items [] :: (mine ++ S0)) (h1.perm List.perm_middle.symm)
          refine h2.perm ?_
          exact (List.perm_append_comm_assoc [_, _] mine S0)
        have hJ := hit T (fun n t => items (J n t ++ [blk (w.heap.size + 1) (.loop (F.rc .ready none)), blk w.heap.size (.deferred (some []))]))
          (fun n t => items (Jx n t ++ [blk (w.heap.size + 1) (.loop (F.rc .done (some jc))), blk w.heap.size (.deferred (some []))])) (w.heap.size + 1) t0
          W1 (items []) h0 ?_
        · refine hJ.mono ?_
          rintro e w3 ⟨⟨v, rfl⟩, hor⟩
          have drop_fr : ∀ {L : List Item} {A B : Item}, Heap X.w0 (items (L ++ [A, B]) :: items [] :: S0) w3 → Heap X.w0 (A :: (L ++ (B :: S0))) w3 := by
            intro L A B h
            have h1 : Heap X.w0 (items [] :: ((L ++ [A, B]) ++ S0)) w3 := by
              refine (h.unitems).perm ?_
              exact List.perm_middle
            have h2 := h1.unitems
            simp only [List.nil_append] at h2
            refine h2.perm ?_
            rw [List.append_assoc]
            exact List.perm_middle
          rcases hor with ⟨t', h3⟩ | ⟨n, t', hn, h3⟩
          · have h4 := drop_fr h3
            have hl := h4.blk_at 0 rfl
            refine ⟨none, w3.putObj (w.heap.size + 1) (.loop { F.rc .ready none with state := .exhausted }), ?_, ?_⟩
            · have := run_endLoop (P := X.P) hl (by rw [F.state]; simp)
              rw [F.pending] at this; exact this
            · refine hdone w.heap.size t' _ _ ⟨ha.size, by rw [← ha.defers]; rfl, ha.get⟩ ?_
              have h5 := h4.set 0 (b := w.heap.size + 1) rfl (.loop { F.rc .ready none with state := .exhausted }) (w' := w3.putObj (w.heap.size + 1) (.loop { F.rc .ready none with state := .exhausted })) rfl rfl rfl rfl
              exact h5.sub (List.sublist_cons_self ..)
          · have h4 := drop_fr h3
            have hl := h4.blk_at 0 rfl
            refine ⟨some jc, w3.putObj (w.heap.size + 1) (.loop { F.rc .done (some jc) with state := .exhausted }), ?_, ?_⟩
            · have := run_endLoop (P := X.P) hl (by rw [F.state]; simp)
              rw [F.pending] at this; exact this
            · refine hjump w.heap.size n t' hn _ _ ⟨ha.size, by rw [← ha.defers]; rfl, ha.get⟩ ?_
              have h5 := h4.set 0 (b := w.heap.size + 1) rfl (.loop { F.rc .done (some jc) with state := .exhausted }) (w' := w3.putObj (w.heap.size + 1) (.loop { F.rc .done (some jc) with state := .exhausted })) rfl rfl rfl rfl
              exact h5.sub (List.sublist_cons_self ..)
        · intro n t w2 fr hn h2
          have regroup : ∀ {L : List Item} {A B : Item} {w : World}, Heap X.w0 (items (L ++ [A, B]) :: fr :: S0) w ↔ Heap X.w0 (L ++ (A :: B :: fr :: S0)) w := by
            intro L A B w
            constructor
            · intro h
              have := h.unitems
              rwa [List.append_assoc] at this
            · intro h
              refine Heap.toItems ?_
              rwa [List.append_assoc]
          have h3 := regroup.1 h2
          have hl : w2.heap[w.heap.size + 1]? = some (.loop (F.rc .ready none)) := h3.ok (blk (w.heap.size + 1) (.loop (F.rc .ready none))) (by simp)
          have hxn : (xs.getD n []).toArray.size = ps'.size := by
            rw [List.getD_eq_getElem?_getD, List.getElem?_eq_getElem hn]
            simpa using hlen _ (List.getElem_mem hn)
          refine ⟨fn, _, assign, body, run_yield hl hxn, ?_⟩
          refine RoundIn.mono (R := RoundTo X.w0 F (w.heap.size + 1) w.heap.size J Jx jc n fr S0) ?_ ?_
          · refine roundIn_of_wpIn trivial ?_
            have hk := knows_setPs ps'.toList (xs.getD n []) E { a with defers := [] } ⟨ha.size, rfl, ha.get⟩ (by
              intro p hp
              have := List.all_eq_true.1 hps p hp
              simpa using this)
            have hz : (ps'.zip (xs.getD n []).toArray).foldl (fun (tmps : Array Value) (x : Tmp × Value) => tmps.setIfInBounds x.1 x.2) a.tmps = ((ps'.toList.zip (xs.getD n [])).foldl (fun t (x : Nat × Value) => t.setIfInBounds x.1 x.2) a.tmps) := by
              rw [← Array.foldl_toList, Array.toList_zip]
            have hev := hround F (w.heap.size + 1) w.heap.size n t fr hn _ w2 hk h3
            simp only [cl, BeginTo, cr] at hev
            have hz' : (Array.foldl (fun tmps x => match x with | (t, a) => Array.setIfInBounds tmps t a) (F.rc LoopState.ready none).tmps ((F.rc LoopState.ready none).params.zip (xs.getD n []).toArray)) = ((ps'.toList.zip (xs.getD n [])).foldl (fun t (x : Nat × Value) => t.setIfInBounds x.1 x.2) a.tmps) := hz
            rw [hz']
            exact hev
          · rintro e w' (⟨rfl, t', h⟩ | ⟨rfl, t', h⟩)
            · exact .inl ⟨rfl, t', regroup.2 h⟩
            · exact .inr ⟨rfl, t', regroup.2 h⟩
    | _ => cases hs
  | _ => cases hs

/-- the round begins: on with its body -/
theorem at_begin {c : Code} {l : Nat} {F : LoopFam} {R : Ending → World → Prop} {E' : Env} (j : Nat) (js : List Nat) (hr : X.r = some l) (hj : S[j]? = some (blk l (.loop (F.rc .ready none)))) (hs : Sub E' E) (hn : js.Nodup)
    (h : Ev X (cr c) E' (pick (S.set j (blk l (.loop (F.rc .busy none)))) js) (roundPost X.P l R)) : At X .normal E S (BeginTo X.P l c R) := by
  intro a w ha hw
  have hl := hw.blk_at j hj
  refine ⟨_, run_beginRound hl (F.state _ _), ?_⟩
  rw [F.turn1]
  have h1 := hw.set j hj (.loop (F.rc .busy none)) (w' := w.putObj l (.loop (F.rc .busy none))) rfl rfl rfl rfl
  have := h a _ (ha.sub hs) (h1.pick js hn)
  rw [hr] at this
  exact this
/-- the round ends: on with the next one -/
theorem at_roundEnd {l Db : Nat} {F : LoopFam} {T : Type} {J Jx : Nat → T → List Item} {jc : Code} {n : Nat} {fr : Item} {S0 : List Item} (t' : T) (j : Nat) (hj : S[j]? = some (blk l (.loop (F.rc .busy none))))
    (h : ∀ w, Heap X.w0 (S.set j (blk l (.loop (F.rc .ready none)))) w → Heap X.w0 (J (n + 1) t' ++ (blk l (.loop (F.rc .ready none)) :: blk Db (.deferred (some [])) :: fr :: S0)) w) :
    At X .normal E S (roundPost X.P l (RoundTo X.w0 F l Db J Jx jc n fr S0)) := by
  intro a w ha hw
  have hl := hw.blk_at j hj
  have hrun := run_endRound (P := X.P) none hl
  refine ⟨_, _, hrun, .inl ⟨rfl, t', h _ ?_⟩⟩
  simp only [Option.isNone_none, if_true]
  rw [F.turn]
  exact hw.set j hj (.loop (F.rc .ready none)) rfl rfl rfl rfl
/-- the round ends with a return -/
theorem at_roundRet {l Db : Nat} {F : LoopFam} {T : Type} {J Jx : Nat → T → List Item} {n : Nat} {fr : Item} {S0 : List Item} (t' : T) (j : Nat) (hj : S[j]? = some (blk l (.loop (F.rc .busy none))))
    (h : ∀ w, Heap X.w0 (S.set j (blk l (.loop (F.rc .done (some .ret))))) w → Heap X.w0 (Jx (n + 1) t' ++ (blk l (.loop (F.rc .done (some .ret))) :: blk Db (.deferred (some [])) :: fr :: S0)) w) :
    At X .ret E S (roundPost X.P l (RoundTo X.w0 F l Db J Jx .ret n fr S0)) := by
  intro a w ha hw
  have hl := hw.blk_at j hj
  have hrun := run_endRound (P := X.P) (some .ret) hl
  refine ⟨_, _, hrun, .inr ⟨rfl, t', h _ ?_⟩⟩
  simp only [Option.isNone_some, Bool.false_eq_true, if_false]
  rw [F.turn]
  exact hw.set j hj (.loop (F.rc .done (some .ret))) rfl rfl rfl rfl
/-- the round ends with a break out of the loop -/
theorem at_roundExit {l Db id : Nat} {F : LoopFam} {T : Type} {J Jx : Nat → T → List Item} {n : Nat} {fr : Item} {S0 : List Item} (t' : T) (j : Nat) (hj : S[j]? = some (blk l (.loop (F.rc .busy none))))
    (h : ∀ w, Heap X.w0 (S.set j (blk l (.loop (F.rc .done (some (.exit id)))))) w → Heap X.w0 (Jx (n + 1) t' ++ (blk l (.loop (F.rc .done (some (.exit id)))) :: blk Db (.deferred (some [])) :: fr :: S0)) w) :
    At X (.exit id) E S (roundPost X.P l (RoundTo X.w0 F l Db J Jx (.exit id) n fr S0)) := by
  intro a w ha hw
  have hl := hw.blk_at j hj
  have hrun := run_endRound (P := X.P) (some (.exit id)) hl
  refine ⟨_, _, hrun, .inr ⟨rfl, t', h _ ?_⟩⟩
  simp only [Option.isNone_some, Bool.false_eq_true, if_false]
  rw [F.turn]
  exact hw.set j hj (.loop (F.rc .done (some (.exit id)))) rfl rfl rfl rfl
end
end Go.Proofs.Ytfhhggcdmgjbcaa.Sx
