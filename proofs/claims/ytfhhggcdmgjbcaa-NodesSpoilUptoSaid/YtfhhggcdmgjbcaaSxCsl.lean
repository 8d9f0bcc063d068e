/-
  A part of the walk of the seat: laws of a small proof system, and contracts of functions, each proved. Conditions: as each theorem says.
-/
import Derived.Test.YtfhhggcdmgjbcaaSxTree
namespace Go.Proofs.Ytfhhggcdmgjbcaa.Sx
open Go Go.RowKit

/-! ### A region that draws its order: every operation with the memory that is its own; then every order is as good as another one -/
/-- what an operation draws -/
structure Ch where
  fp : Option Addr := none
  fc : Nat := 0
  fz : Int := 0
  ft : Bool := false
  fG : Nat → Prop := fun _ => False
  fl : List Loc := []
  fq : Option Addr := none
  fd : Nat := 0
  fe : Nat := 0
  fL : List Value := []
def mask (A : List Nat) (ch : Nat → Ch) : Nat → Ch := fun k => cond (A.contains k) (ch k) {}
def updC (ch : Nat → Ch) (i : Nat) (d : Ch) : Nat → Ch := fun k => cond (Nat.beq k i) d (ch k)
theorem mask_upd {A : List Nat} {ch : Nat → Ch} {i : Nat} {d : Ch} (h : A.contains i = false) : mask A (updC ch i d) = mask A ch := by
  funext k
  unfold mask updC
  cases hk : A.contains k with
  | false => rfl
  | true =>
    have : Nat.beq k i = false := by
      rw [Bool.eq_false_iff]; intro e
      rw [Nat.eq_of_beq_eq_true e, h] at hk; cases hk
    rw [this]; rfl
structure Plan where
  n : Nat
  m : Nat
  anc : List (List Nat)
  ed : List (List Nat)
  prod : List (Option Nat)
  cons : List (Option Nat)
  rd : List (List Nat)
def Plan.an (L : Plan) (i : Nat) : List Nat := L.anc.getD i []
def Plan.pr (L : Plan) (t : Nat) : Option Nat := L.prod.getD t none
def Plan.cn (L : Plan) (t : Nat) : Option Nat := L.cons.getD t none
def Plan.rds (L : Plan) (i : Nat) : List Nat := L.rd.getD i []
def Plan.eds (L : Plan) (i : Nat) : List Nat := L.ed.getD i []
def isOp (o : Option Nat) (i : Nat) : Bool := match o with | some j => Nat.beq j i | none => false
def Plan.con (L : Plan) (i : Nat) : List Nat := (List.range L.m).filter fun t => isOp (L.cn t) i
def Plan.out (L : Plan) (i : Nat) : List Nat := (List.range L.m).filter fun t => isOp (L.pr t) i
def Plan.alive (L : Plan) (done : Nat → Bool) (t : Nat) : Bool := (match L.pr t with | none => true | some i => done i) && (match L.cn t with | none => true | some i => !done i)
def Plan.v (L : Plan) (val : (Nat → Ch) → Nat → Value) (ch : Nat → Ch) (j : Nat) : Value := val (mask (L.an j) ch) j
def Plan.k (L : Plan) (tok : (Nat → Ch) → Nat → Item) (ch : Nat → Ch) (t : Nat) : Item := tok (mask (match L.pr t with | some i => L.an i | none => []) ch) t
def dstOf (ops : Array Oper) (i : Nat) : Option Nat := (opAt ops i).bind (·.1)
def nodupB : List Nat → Bool
  | [] => true
  | x :: l => (!l.contains x) && nodupB l
theorem nodup_of : ∀ {l : List Nat}, nodupB l = true → l.Nodup
  | [], _ => List.nodup_nil
  | x :: l, h => by
    simp only [nodupB, Bool.and_eq_true, Bool.not_eq_true'] at h
    exact List.nodup_cons.2 ⟨fun hx => by have := h.1; simp [hx] at this, nodup_of h.2⟩
def optAll (o : Option Nat) (f : Nat → Bool) : Bool := match o with | none => true | some i => f i
def Plan.ok (L : Plan) (ops : Array Oper) (E : Env) (N : Nat) : Bool :=
  forward ops && (dstsOk ops E N L.n
  && ((List.range L.n).all (fun i => (L.an i).all fun k => Nat.beq k i || (depsOf ops i).any fun j => (L.an j).contains k)
  && ((List.range L.n).all (fun i => (L.eds i).all fun k => (!Nat.beq k i) && (Nat.blt k L.n && (L.an i).contains k))
  && ((List.range L.m).all (fun t => optAll (L.cn t) fun i => Nat.blt i L.n && optAll (L.pr t) fun j => (!Nat.beq j i) && (L.an i).contains j)
  && ((List.range L.m).all (fun t => optAll (L.pr t) fun i => Nat.blt i L.n)
  && (List.range L.n).all (fun i => nodupB (L.rds i) && (L.rds i).all fun t => Nat.blt t L.m && (optAll (L.pr t) (fun j => (!Nat.beq j i) && (L.an i).contains j) && optAll (L.cn t) (fun q => (!Nat.beq q i) && (L.an q).contains i))))))))

structure PlanOk (L : Plan) (ops : Array Oper) (E : Env) (N : Nat) : Prop where
  fw : forward ops = true
  ds : dstsOk ops E N L.n = true
  anc : ∀ i, i < L.n → ∀ k, k ∈ L.an i → k = i ∨ ∃ j, j ∈ depsOf ops i ∧ k ∈ L.an j
  ed : ∀ i, i < L.n → ∀ k, k ∈ L.eds i → k ≠ i ∧ k < L.n ∧ k ∈ L.an i
  cn : ∀ t, t < L.m → ∀ i, L.cn t = some i → i < L.n ∧ ∀ j, L.pr t = some j → j ≠ i ∧ j ∈ L.an i
  pr : ∀ t, t < L.m → ∀ i, L.pr t = some i → i < L.n
  rdn : ∀ i, i < L.n → (L.rds i).Nodup
  rd : ∀ i, i < L.n → ∀ t, t ∈ L.rds i → t < L.m ∧ (∀ j, L.pr t = some j → j ≠ i ∧ j ∈ L.an i) ∧ (∀ q, L.cn t = some q → q ≠ i ∧ i ∈ L.an q)
theorem optAll_of {o : Option Nat} {f : Nat → Bool} (h : optAll o f = true) : ∀ i, o = some i → f i = true := by
  intro i e; subst e; exact h
theorem ne_of_beq {a b : Nat} (h : (!Nat.beq a b) = true) : a ≠ b := by
  intro e; subst e; simp at h
theorem Plan.ok_of {L : Plan} {ops : Array Oper} {E : Env} {N : Nat} (h : L.ok ops E N = true) : PlanOk L ops E N := by
  unfold Plan.ok at h
  obtain ⟨h1, h⟩ := and_t h
  obtain ⟨h2, h⟩ := and_t h
  obtain ⟨h3, h⟩ := and_t h
  obtain ⟨h4, h⟩ := and_t h
  obtain ⟨h5, h⟩ := and_t h
  obtain ⟨h6, h7⟩ := and_t h
  refine ⟨h1, h2, fun i hi k hk => ?_, fun i hi k hk => ?_, fun t ht i hi => ?_, fun t ht i hi => ?_, fun i hi => ?_, fun i hi t ht => ?_⟩
  · have := List.all_eq_true.1 (List.all_eq_true.1 h3 i (List.mem_range.2 hi)) k hk
    simp only [Bool.or_eq_true, List.any_eq_true, Nat.beq_eq, List.contains_iff_mem] at this
    exact this
  · have := List.all_eq_true.1 (List.all_eq_true.1 h4 i (List.mem_range.2 hi)) k hk
    obtain ⟨a, b⟩ := and_t this
    obtain ⟨b, c⟩ := and_t b
    exact ⟨ne_of_beq a, by simpa using b, by simpa using c⟩
  · have := optAll_of (List.all_eq_true.1 h5 t (List.mem_range.2 ht)) i hi
    obtain ⟨a, b⟩ := and_t this
    refine ⟨by simpa using a, fun j hj => ?_⟩
    obtain ⟨c, d⟩ := and_t (optAll_of b j hj)
    exact ⟨ne_of_beq c, by simpa using d⟩
  · have := optAll_of (List.all_eq_true.1 h6 t (List.mem_range.2 ht)) i hi
    simpa using this
  · exact nodup_of (and_t (List.all_eq_true.1 h7 i (List.mem_range.2 hi))).1
  · have := List.all_eq_true.1 (and_t (List.all_eq_true.1 h7 i (List.mem_range.2 hi))).2 t ht
    obtain ⟨a, b⟩ := and_t this
    obtain ⟨b, c⟩ := and_t b
    refine ⟨by simpa using a, fun j hj => ?_, fun q hq => ?_⟩
    · obtain ⟨c, d⟩ := and_t (optAll_of b j hj)
      exact ⟨ne_of_beq c, by simpa using d⟩
    · obtain ⟨c, d⟩ := and_t (optAll_of c q hq)
      exact ⟨ne_of_beq c, by simpa using d⟩

section
variable {X : Cx} {c : Code} {E : Env} {S : List Item} {Q : Exit → Act → World → Prop} {ops : Array Oper} {L : Plan} {val : (Nat → Ch) → Nat → Value} {tok : (Nat → Ch) → Nat → Item}

def CInv (X : Cx) (ops : Array Oper) (E : Env) (L : Plan) (val : (Nat → Ch) → Nat → Value) (tok : (Nat → Ch) → Nat → Item) (done : Nat → Bool) (a : Act) (w : World) : Prop :=
  ∃ ch, Knows X.N X.D E a ∧ (∀ i, i < L.n → done i = true → ∀ d, dstOf ops i = some d → a.tmps[d]? = some (L.v val ch i)) ∧ Heap X.w0 (((List.range L.m).filter (L.alive done)).map (L.k tok ch)) w

/-- what an operation leaves -/
def CPost (X : Cx) (ops : Array Oper) (E : Env) (L : Plan) (val : (Nat → Ch) → Nat → Value) (tok : (Nat → Ch) → Nat → Item) (i : Nat) (ch : Nat → Ch) (R : Env) (F : List Item) (e : Exit) (a : Act) (w : World) : Prop :=
  e = .normal ∧ ∃ d, Knows X.N X.D (putE (dstOf ops i) (L.v val (updC ch i d) i) (depEnv ops (L.v val ch) (L.eds i) ++ (E ++ R))) a ∧ Heap X.w0 ((L.out i).map (L.k tok (updC ch i d)) ++ ((L.rds i).map (L.k tok ch) ++ F)) w
theorem dep_get {v : Nat → Value} {l : List Nat} {s : Nat} {u : Value} (h : Env.get (depEnv ops v l) s = some u) : ∃ j, j ∈ l ∧ dstOf ops j = some s ∧ u = v j := by
  have := Env.get_mem h
  simp only [depEnv, List.mem_filterMap, Option.map_eq_some_iff] at this
  obtain ⟨j, hj, d, h1, h2⟩ := this
  simp only [Prod.mk.injEq] at h2
  obtain ⟨rfl, rfl⟩ := h2
  exact ⟨j, hj, h1, rfl⟩
theorem dep_some {v : Nat → Value} {l : List Nat} {j d : Nat} (hj : j ∈ l) (hd : dstOf ops j = some d) : ∃ u, Env.get (depEnv ops v l) d = some u := by
  induction l with
  | nil => cases hj
  | cons x l ih =>
    unfold depEnv
    rw [List.filterMap_cons]
    cases hx : (opAt ops x).bind (·.1) with
    | none =>
      simp only [Option.map_none]
      rcases List.mem_cons.1 hj with e | h
      · subst e; unfold dstOf at hd; rw [hd] at hx; cases hx
      · exact ih h
    | some q =>
      simp only [Option.map_some, Env.get]
      cases hb : Nat.beq d q with
      | true => exact ⟨_, rfl⟩
      | false =>
        rcases List.mem_cons.1 hj with e | h
        · subst e; unfold dstOf at hd; rw [hd] at hx; simp only [Option.some.injEq] at hx; rw [hx] at hb; simp at hb
        · exact ih h

theorem wpOpIn_pure {r : Option Nat} {P : Program} {ops : Array Oper} {Q Q' : Exit → Act → World → Prop} {i : Nat} {K : Act → World → Prop} {a : Act} {w : World} (hQ : ∀ e a w, Q' e a w → e = .normal) (h : wpOpIn (fence r) 0 P ops Q' i K a w) : wpOpIn (fence r) 0 P ops Q i K a w := by
  have hO : ¬ LetsOut Q' := by rintro ⟨a, w, h⟩; have := hQ _ _ _ h; cases this
  unfold wpOpIn at h ⊢
  split
  · rename_i hn; simpa [hn] using h
  · rename_i o ho
    simp only [ho] at h
    split
    · rename_i hw
      simp only [hw, if_true] at h
      unfold Oper.wpIn at h ⊢
      refine ⟨h.1, ?_⟩
      have hh := h.2
      generalize (o.semAt (fence r).round a.eval).run P w = q at *
      cases q with
      | ok x w' =>
        cases x <;> simp only [Oper.uponIn] at hh ⊢ <;>
          first
            | exact hh
            | exact ⟨hh.1, CallsIn.mono hh.2 (fun e w'' he => by cases e <;> first | exact he | (have := hQ _ _ _ he; cases this) | exact (hO he).elim)⟩
            | exact ⟨hh.1, RoundIn.mono hh.2 (fun e w'' he => by cases e <;> first | exact he | (have := hQ _ _ _ he; cases this) | exact (hO he).elim)⟩
      | halt x w' =>
        cases x <;> simp only [Oper.uponIn] at hh ⊢ <;> first | exact hh | (have := hQ _ _ _ hh; cases this)
    · rename_i hw; simp only [hw] at h; exact h

theorem anc_done {N : Nat} (hn : L.n = ops.size) (hok : PlanOk L ops E N) {done : Nat → Bool} (hd : Down ops done) : ∀ i, i < L.n → done i = true → ∀ k, k ∈ L.an i → done k = true := by
  intro i
  induction i using Nat.strongRecOn with
  | _ i ih =>
    intro hi hdi k hk
    rcases hok.anc i hi k hk with h | ⟨j, hj, hjk⟩
    · rw [h]; exact hdi
    · have hlt : j < i := by
        have := List.all_eq_true.1 (List.all_eq_true.1 hok.fw i (List.mem_range.2 (by omega))) j hj
        simpa using this
      exact ih j hlt (by omega) (hd i hdi j hj) k hjk
theorem isOp_iff {o : Option Nat} {i : Nat} : isOp o i = true ↔ o = some i := by
  cases o with
  | none => simp [isOp]
  | some j => simp [isOp]
theorem alive_iff {done : Nat → Bool} {t : Nat} : L.alive done t = true ↔ (∀ i, L.pr t = some i → done i = true) ∧ ∀ i, L.cn t = some i → done i = false := by
  unfold Plan.alive
  rw [Bool.and_eq_true]
  cases L.pr t <;> cases L.cn t <;> simp
theorem csl_step (hn : L.n = ops.size) (hok : PlanOk L ops E X.N) {i : Nat} (hi : i < L.n)
    (hstep : ∀ ch R F, Rg X ops i (i + 1) (depEnv ops (L.v val ch) (L.eds i) ++ (E ++ R)) ((L.con i ++ L.rds i).map (L.k tok ch) ++ F) (CPost X ops E L val tok i ch R F))
    {done : Nat → Bool} (hdi : done i = false) (hdeps : ∀ j ∈ depsOf ops i, done j = true) (hdown : Down ops done) {a : Act} {w : World} (hI : CInv X ops E L val tok done a w) :
    wpOpIn (fence X.r) 0 X.P ops Q i (CInv X ops E L val tok (updB done i)) a w := by
  obtain ⟨ch, ha, hv, hw⟩ := hI
  have hdone := anc_done hn hok hdown
  have hanc_i : ∀ k, k ∈ L.an i → k ≠ i → done k = true := by
    intro k hk hne
    rcases hok.anc i hi k hk with h | ⟨j, hj, hjk⟩
    · exact absurd h hne
    · have hlt : j < i := by
        have := List.all_eq_true.1 (List.all_eq_true.1 hok.fw i (List.mem_range.2 (by omega))) j hj
        simpa using this
      exact hdone j (by omega) (hdeps j hj) k hjk
  have hnot : ∀ j, j < L.n → done j = true → (L.an j).contains i = false := by
    intro j hj hdj
    cases h : (L.an j).contains i with
    | false => rfl
    | true => have := hdone j hj hdj i (by simpa using h); rw [hdi] at this; cases this
  have hrd_i : ∀ t, t ∈ L.rds i → t < L.m ∧ L.alive done t = true ∧ L.cn t ≠ some i ∧ L.pr t ≠ some i := by
    intro t ht
    obtain ⟨h1, h2, h3⟩ := hok.rd i hi t ht
    refine ⟨h1, alive_iff.2 ⟨fun j hj => hanc_i j (h2 j hj).2 (h2 j hj).1, fun q hq => ?_⟩, fun e => (h3 i e).1 rfl, fun e => (h2 i e).1 rfl⟩
    cases hdq : done q with
    | false => rfl
    | true =>
      have := hdone q (hok.cn t h1 q hq).1 hdq i (h3 q hq).2
      rw [hdi] at this; cases this
  have hcon_i : ∀ t, t ∈ L.con i → t < L.m ∧ L.alive done t = true ∧ L.cn t = some i := by
    intro t ht
    obtain ⟨h1, h2⟩ := List.mem_filter.1 ht
    have h3 := isOp_iff.1 h2
    have h4 := hok.cn t (List.mem_range.1 h1) i h3
    refine ⟨List.mem_range.1 h1, alive_iff.2 ⟨fun j hj => hanc_i j (h4.2 j hj).2 (h4.2 j hj).1, fun q hq => ?_⟩, h3⟩
    rw [h3, Option.some.injEq] at hq
    rw [← hq]; exact hdi
  -- the frame
  let used : List Nat := L.con i ++ L.rds i
  let rest : List Nat := (List.range L.m).filter fun t => L.alive done t && !used.contains t
  have hnd1 : used.Nodup := by
    refine List.nodup_append.2 ⟨List.Pairwise.filter _ List.nodup_range, hok.rdn i hi, ?_⟩
    intro x hx y hy e
    subst e
    exact (hrd_i x hy).2.2.1 (hcon_i x hx).2.2
  have hnd2 : rest.Nodup := List.Pairwise.filter _ List.nodup_range
  have hdis : ∀ x, x ∈ used → x ∉ rest := by
    intro x hx hr
    have := (List.mem_filter.1 hr).2
    simp [hx] at this
  have hp1 : ((List.range L.m).filter (L.alive done)).Perm (used ++ rest) := by
    refine (List.perm_ext_iff_of_nodup (List.Pairwise.filter _ List.nodup_range) (List.nodup_append.2 ⟨hnd1, hnd2, fun x hx y hy e => hdis x hx (e ▸ hy)⟩)).2 fun t => ?_
    simp only [List.mem_filter, List.mem_range, List.mem_append, rest, Bool.and_eq_true, Bool.not_eq_true']
    constructor
    · rintro ⟨h1, h2⟩
      by_cases hu : t ∈ used
      · exact .inl hu
      · exact .inr ⟨h1, h2, by simpa using hu⟩
    · rintro (h | h)
      · rcases List.mem_append.1 h with h | h
        · exact ⟨(hcon_i t h).1, (hcon_i t h).2.1⟩
        · exact ⟨(hrd_i t h).1, (hrd_i t h).2.1⟩
      · exact ⟨h.1, h.2.1⟩
  have hw1 : Heap X.w0 (used.map (L.k tok ch) ++ rest.map (L.k tok ch)) w := by
    rw [← List.map_append]; exact hw.perm (hp1.map _)
  -- what is known
  let all : Env := depEnv ops (L.v val ch) ((List.range L.n).filter done)
  have hdest : ∀ j, j < L.n → ∀ d, dstOf ops j = some d → d < X.N ∧ E.get d = none ∧ ∀ k, k < L.n → k ≠ j → dstOf ops k ≠ some d := by
    intro j hj d hd
    have hchk := List.all_eq_true.1 hok.ds j (List.mem_range.2 hj)
    unfold dstOf at hd
    rw [hd] at hchk
    simp only [Bool.and_eq_true, Nat.blt_eq, Option.isNone_iff_eq_none] at hchk
    refine ⟨hchk.1.1, hchk.1.2, fun k hk hne e => ?_⟩
    have := List.all_eq_true.1 hchk.2 k (List.mem_range.2 hk)
    unfold dstOf at e
    rw [e] at this
    simp [hne] at this
  have huniq : ∀ j k d, j < L.n → k < L.n → dstOf ops j = some d → dstOf ops k = some d → j = k := by
    intro j k d hj hk h1 h2
    by_cases e : k = j
    · exact e.symm
    · exact absurd h2 ((hdest j hj d h1).2.2 k hk e)
  have hk : Knows X.N X.D (depEnv ops (L.v val ch) (L.eds i) ++ (E ++ all)) a := by
    refine ⟨ha.size, ha.defers, fun s v hs => ?_⟩
    rw [Env.get_app] at hs
    cases hd : Env.get (depEnv ops (L.v val ch) (L.eds i)) s with
    | some u =>
      rw [hd] at hs
      simp only [Option.some_or, Option.some.injEq] at hs
      subst hs
      obtain ⟨j, hj, h1, rfl⟩ := dep_get hd
      obtain ⟨h3, h4, h5⟩ := hok.ed i hi j hj
      exact hv j h4 (hanc_i j h5 h3) _ h1
    | none =>
      rw [hd, Option.none_or, Env.get_app] at hs
      cases hE : E.get s with
      | some u =>
        rw [hE] at hs
        simp only [Option.some_or, Option.some.injEq] at hs
        subst hs; exact ha.get s _ hE
      | none =>
        rw [hE, Option.none_or] at hs
        obtain ⟨j, hj, h1, rfl⟩ := dep_get hs
        have := List.mem_filter.1 hj
        exact hv j (List.mem_range.1 this.1) this.2 _ h1
  have hrun := hstep ch all (rest.map (L.k tok ch)) a w hk hw1
  rw [show List.range' i (i + 1 - i) = [i] by rw [show i + 1 - i = 1 by omega]; rfl, wpOpsIn_cons] at hrun
  refine wpOpIn_mono ?_ (wpOpIn_pure (Q' := CPost X ops E L val tok i ch all (rest.map (L.k tok ch))) (fun e a w h => h.1) hrun)
  rintro a' w' ⟨_, d, ha', hw'⟩
  refine ⟨updC ch i d, ?_, ?_, ?_⟩
  · refine ha'.sub fun s v hs => ?_
    have hin : Env.get (depEnv ops (L.v val ch) (L.eds i) ++ (E ++ all)) s = some v := by
      rw [Env.get_app]
      cases hd : Env.get (depEnv ops (L.v val ch) (L.eds i)) s with
      | some u =>
        obtain ⟨j, hj, h1, rfl⟩ := dep_get hd
        have := (hdest j (hok.ed i hi j hj).2.1 s h1).2.1
        rw [hs] at this; cases this
      | none => rw [Option.none_or, Env.get_app, hs]; rfl
    cases hdd : dstOf ops i with
    | none => exact hin
    | some dd =>
      have hne : Nat.beq s dd = false := by
        rw [Bool.eq_false_iff]; intro e
        have := (hdest i hi dd hdd).2.1
        rw [← Nat.eq_of_beq_eq_true e, hs] at this; cases this
      simp only [putE, Env.get, hne, cond_false]
      exact hin
  · intro j hj hdj dj hdd
    by_cases e : j = i
    · subst e
      refine ha'.get dj _ ?_
      rw [hdd]
      simp [putE, Env.get]
    · have hdj' : done j = true := by simpa [updB, e] using hdj
      have hval : L.v val (updC ch i d) j = L.v val ch j := by
        unfold Plan.v; rw [mask_upd (hnot j hj hdj')]
      rw [hval]
      refine ha'.get dj _ ?_
      have hin : Env.get (depEnv ops (L.v val ch) (L.eds i) ++ (E ++ all)) dj = some (L.v val ch j) := by
        rw [Env.get_app]
        cases hd : Env.get (depEnv ops (L.v val ch) (L.eds i)) dj with
        | some u =>
          obtain ⟨k, hk, h1, rfl⟩ := dep_get hd
          rw [huniq j k dj hj (hok.ed i hi k hk).2.1 hdd h1]; rfl
        | none =>
          rw [Option.none_or, Env.get_app, (hdest j hj dj hdd).2.1, Option.none_or]
          obtain ⟨u, hu⟩ := dep_some (ops := ops) (v := L.v val ch) (l := (List.range L.n).filter done) (List.mem_filter.2 ⟨List.mem_range.2 hj, hdj'⟩) hdd
          obtain ⟨k, hk, h1, rfl⟩ := dep_get hu
          have hkn := List.mem_range.1 (List.mem_filter.1 hk).1
          rw [hu, huniq j k dj hj hkn hdd h1]
      cases hdi' : dstOf ops i with
      | none => exact hin
      | some dd =>
        have hne : Nat.beq dj dd = false := by
          rw [Bool.eq_false_iff]; intro e2
          rw [Nat.eq_of_beq_eq_true e2] at hdd
          exact (hdest i hi dd hdi').2.2 j hj e hdd
        simp only [putE, Env.get, hne, cond_false]
        exact hin
  · have hkeep : ∀ t, t < L.m → L.alive done t = true → L.k tok (updC ch i d) t = L.k tok ch t := by
      intro t ht hal
      unfold Plan.k
      cases hp : L.pr t with
      | none => simp only; rw [mask_upd (by rfl)]
      | some j => simp only; rw [mask_upd (hnot j (hok.pr t ht j hp) ((alive_iff.1 hal).1 j hp))]
    have hr1 : (L.rds i).map (L.k tok ch) = (L.rds i).map (L.k tok (updC ch i d)) := List.map_congr_left fun t ht => (hkeep t (hrd_i t ht).1 (hrd_i t ht).2.1).symm
    have hr2 : rest.map (L.k tok ch) = rest.map (L.k tok (updC ch i d)) := List.map_congr_left fun t ht => by
      have h := List.mem_filter.1 ht
      have h2 := (and_t h.2).1
      exact (hkeep t (List.mem_range.1 h.1) h2).symm
    rw [hr1, hr2, ← List.map_append, ← List.map_append] at hw'
    refine hw'.perm (List.Perm.map _ ?_)
    have hout : ∀ t, t ∈ L.out i ↔ t < L.m ∧ L.pr t = some i := by
      intro t
      unfold Plan.out
      rw [List.mem_filter, List.mem_range, isOp_iff]
    have hal_out : ∀ t, L.pr t = some i → L.alive done t = false := by
      intro t hp
      cases h : L.alive done t with
      | false => rfl
      | true => have := (alive_iff.1 h).1 i hp; rw [hdi] at this; cases this
    have hmr : ∀ t, t ∈ rest ↔ t < L.m ∧ L.alive done t = true ∧ t ∉ used := by
      intro t
      simp only [rest, List.mem_filter, List.mem_range, Bool.and_eq_true, Bool.not_eq_true']
      constructor
      · rintro ⟨h1, h2, h3⟩; exact ⟨h1, h2, by simpa using h3⟩
      · rintro ⟨h1, h2, h3⟩; exact ⟨h1, h2, by simpa using h3⟩
    refine (List.perm_ext_iff_of_nodup ?_ (List.Pairwise.filter _ List.nodup_range)).2 fun t => ?_
    · refine List.nodup_append.2 ⟨List.Pairwise.filter _ List.nodup_range, List.nodup_append.2 ⟨hok.rdn i hi, hnd2, ?_⟩, ?_⟩
      · intro x hx y hy e; subst e; exact hdis x (List.mem_append_right _ hx) hy
      · intro x hx y hy e
        subst e
        have hp := ((hout x).1 hx).2
        rcases List.mem_append.1 hy with h | h
        · exact (hrd_i x h).2.2.2 hp
        · have := ((hmr x).1 h).2.1; rw [hal_out x hp] at this; cases this
    · rw [List.mem_append, List.mem_append, hmr, hout, List.mem_filter, List.mem_range, alive_iff (done := updB done i)]
      constructor
      · rintro (⟨h1, h2⟩ | h | ⟨h1, h2, h3⟩)
        · refine ⟨h1, fun j hj => ?_, fun q hq => ?_⟩
          · rw [h2, Option.some.injEq] at hj; subst hj; simp [updB]
          · have h4 := hok.cn t h1 q hq
            have h5 := h4.2 i h2
            have hqi : q ≠ i := fun e => h5.1 e.symm
            have : done q = false := by
              cases hdq : done q with
              | false => rfl
              | true => have := hdone q h4.1 hdq i h5.2; rw [hdi] at this; cases this
            simp [updB, hqi, this]
        · obtain ⟨h1, h2, h3, h4⟩ := hrd_i t h
          have h5 := alive_iff.1 h2
          refine ⟨h1, fun j hj => ?_, fun q hq => ?_⟩
          · have := h5.1 j hj; unfold updB; split <;> first | rfl | exact this
          · have := h5.2 q hq
            have hqi : q ≠ i := fun e => h3 (e ▸ hq)
            simp [updB, hqi, this]
        · have h5 := alive_iff.1 h2
          refine ⟨h1, fun j hj => ?_, fun q hq => ?_⟩
          · have := h5.1 j hj; unfold updB; split <;> first | rfl | exact this
          · have := h5.2 q hq
            have hqi : q ≠ i := by
              intro e
              subst e
              exact h3 (List.mem_append_left _ (List.mem_filter.2 ⟨List.mem_range.2 h1, isOp_iff.2 hq⟩))
            simp [updB, hqi, this]
      · rintro ⟨h1, h2, h3⟩
        by_cases hp : L.pr t = some i
        · exact .inl ⟨h1, hp⟩
        · have hal : L.alive done t = true := alive_iff.2 ⟨fun j hj => by
            have := h2 j hj
            have hji : j ≠ i := fun e => hp (e ▸ hj)
            simpa [updB, hji] using this, fun q hq => by
            have := h3 q hq
            by_cases e : q = i
            · subst e; exact hdi
            · simpa [updB, e] using this⟩
          by_cases hr : t ∈ L.rds i
          · exact .inr (.inl hr)
          · refine .inr (.inr ⟨h1, hal, fun hu => ?_⟩)
            rcases List.mem_append.1 hu with hu | hu
            · have := h3 i (hcon_i t hu).2.2
              simp [updB] at this
            · exact hr hu

/-- the law of such a region -/
theorem ev_csl {n : Nat} (L : Plan) (val : (Nat → Ch) → Nat → Value) (tok : (Nat → Ch) → Nat → Item) (hs : shapeOf c = .region true n)
    (hm : (X.P.follows .mixedOrders && (Nat.beq L.n n && L.ok (cops c) E X.N)) = true)
    (h0 : ∀ ch, ((List.range L.m).filter (L.alive fun _ => false)).map (L.k tok ch) = S)
    (hstep : ∀ i, i < n → ∀ ch R F, Rg X (cops c) i (i + 1) (depEnv (cops c) (L.v val ch) (L.eds i) ++ (E ++ R)) ((L.con i ++ L.rds i).map (L.k tok ch) ++ F) (CPost X (cops c) E L val tok i ch R F))
    (hend : ∀ ch, At X .normal (depEnv (cops c) (L.v val ch) (List.range n) ++ E) (((List.range L.m).filter (L.alive fun i => Nat.blt i n)).map (L.k tok ch)) Q) : Ev X c E S Q := by
  obtain ⟨hm1, hm2⟩ := and_t hm
  obtain ⟨hm2, hm3⟩ := and_t hm2
  have hok := Plan.ok_of hm3
  have hLn : L.n = n := Nat.eq_of_beq_eq_true hm2
  have hsz : n = (cops c).size := by
    cases c with
    | region id ops d => simp only [shapeOf, Shape.region.injEq] at hs; exact hs.2.symm
    | cond x _ _ => cases x <;> cases hs
    | _ => cases hs
  refine ev_draw hs (by rw [hm1, hok.fw]; rfl) (fun done a w => CInv X (cops c) E L val tok (fun i => done i && Nat.blt i n) a w) (fun a w ha hw => ⟨fun _ => {}, ha, (fun i _ h => by simp at h), ?_⟩) ?_ ?_
  · have : (L.alive fun i => (fun _ => false) i && Nat.blt i n) = L.alive fun _ => false := by simp
    rw [this, h0]; exact hw
  · intro i hi done hdi hdeps hdown a w hI
    have hlt : ∀ j, j ∈ depsOf (cops c) i → j < i := fun j hj => by
      have := List.all_eq_true.1 (List.all_eq_true.1 hok.fw i (List.mem_range.2 (by omega))) j hj
      simpa using this
    have hd2 : Down (cops c) (fun i => done i && Nat.blt i n) := by
      intro q hq j hj
      obtain ⟨h1, h2⟩ := and_t hq
      have h2' : q < n := by simpa using h2
      have hlt2 : j < q := by
        have := List.all_eq_true.1 (List.all_eq_true.1 hok.fw q (List.mem_range.2 (by omega))) j hj
        simpa using this
      have h3 : Nat.blt j n = true := by simp only [Nat.blt_eq]; omega
      simp only [h3, Bool.and_true]
      exact hdown q h1 j hj
    have := csl_step (Q := Q) (hLn.trans hsz) hok (by omega) (hstep i hi) (done := fun i => done i && Nat.blt i n) (by simp [hdi]) (fun j hj => by
      have h3 : Nat.blt j n = true := by simp only [Nat.blt_eq]; have := hlt j hj; omega
      simp only [h3, Bool.and_true]; exact hdeps j hj) hd2 hI
    have e : updB (fun i => done i && Nat.blt i n) i = fun j => updB done i j && Nat.blt j n := by
      funext j
      unfold updB
      by_cases e : j = i
      · subst e
        have h3 : Nat.blt j n = true := by simpa using hi
        simp [h3]
      · simp [e]
    rw [e] at this
    exact this
  · rintro done hall a w ⟨ch, ha, hv, hw⟩
    have hal : (L.alive fun i => done i && Nat.blt i n) = L.alive fun i => Nat.blt i n := by
      congr 1
      funext i
      cases hb : Nat.blt i n with
      | false => simp
      | true => rw [hall i (by simpa using hb)]; rfl
    rw [hal] at hw
    refine hend ch a w ⟨ha.size, ha.defers, fun s v hs => ?_⟩ hw
    rw [Env.get_app] at hs
    cases hd : Env.get (depEnv (cops c) (L.v val ch) (List.range n)) s with
    | none => rw [hd] at hs; exact ha.get s v (by simpa using hs)
    | some u =>
      rw [hd] at hs
      simp only [Option.some_or, Option.some.injEq] at hs
      subst hs
      have := Env.get_mem hd
      simp only [depEnv, List.mem_filterMap, Option.map_eq_some_iff] at this
      obtain ⟨j, hj, d, h1, h2⟩ := this
      simp only [Prod.mk.injEq] at h2
      obtain ⟨rfl, rfl⟩ := h2
      have hjn := List.mem_range.1 hj
      refine hv j (by omega) ?_ _ h1
      have h3 : Nat.blt j n = true := by simpa using hjn
      simp [h3, hall j hjn]
/-- the beginning and the end of an operation's step -/
theorem csl_go {i k : Nat} {E0 R : Env} {its0 F : List Item} {Q : Exit → Act → World → Prop} (pre : Env) (its : List Item) (h : Rg X ops i k (pre ++ (E ++ R)) (its ++ F) Q) (hE : E0 = pre := by kernel_rfl) (hS : its0 = its := by kernel_rfl) : Rg X ops i k (E0 ++ (E ++ R)) (its0 ++ F) Q := by
  rw [hE, hS]; exact h
theorem csl_end {i k j : Nat} {ch : Nat → Ch} {R E' : Env} {F S' : List Item} (d : Ch) (hE : E' = putE (dstOf ops j) (L.v val (updC ch j d) j) (depEnv ops (L.v val ch) (L.eds j) ++ (E ++ R)) := by kernel_rfl)
    (hS : S' = (L.out j).map (L.k tok (updC ch j d)) ++ ((L.rds j).map (L.k tok ch) ++ F) := by kernel_rfl) (hk : Nat.ble k i = true := by kernel_rfl) : Rg X ops i k E' S' (CPost X ops E L val tok j ch R F) :=
  Rg.fin hk fun _ _ ha hw => ⟨rfl, d, hE ▸ ha, hS ▸ hw⟩
theorem csl_endH {i k j : Nat} {ch : Nat → Ch} {R E' : Env} {F S' S2 : List Item} (d : Ch) (hh : ∀ w, Heap X.w0 S' w → Heap X.w0 S2 w) (hE : E' = putE (dstOf ops j) (L.v val (updC ch j d) j) (depEnv ops (L.v val ch) (L.eds j) ++ (E ++ R)) := by kernel_rfl)
    (hS : S2 = (L.out j).map (L.k tok (updC ch j d)) ++ ((L.rds j).map (L.k tok ch) ++ F) := by kernel_rfl) (hk : Nat.ble k i = true := by kernel_rfl) : Rg X ops i k E' S' (CPost X ops E L val tok j ch R F) :=
  Rg.fin hk fun _ w ha hw => ⟨rfl, d, hE ▸ ha, hS ▸ hh w hw⟩
theorem all_lt_zero {p : Nat → Prop} : ∀ i, i < 0 → p i := fun i h => absurd h (Nat.not_lt_zero i)
theorem all_lt_succ {p : Nat → Prop} {n : Nat} (h : ∀ i, i < n → p i) (h2 : p n) : ∀ i, i < n + 1 → p i := fun i hi => by
  rcases Nat.lt_succ_iff_lt_or_eq.1 hi with h1 | h1
  · exact h i h1
  · rw [h1]; exact h2
end
end Go.Proofs.Ytfhhggcdmgjbcaa.Sx
namespace Go.Proofs.Ytfhhggcdmgjbcaa.Sx
open Go Go.RowKit
/-- items chosen anew, what stands behind them as it is -/
theorem csl_perm {w0 w : World} {F S S2 : List Item} (js : List Nat) (n : Nat) (h : Heap w0 (S ++ F) w) (hn : S.length = n := by kernel_rfl) (hj : pick S js = S2 := by kernel_rfl) (hd : js.Nodup := by decide) (hl : (js.all fun j => Nat.blt j n) = true := by decide) : Heap w0 (S2 ++ F) w := by
  have hi := h.pick (js ++ List.range' n F.length) (by
    refine List.nodup_append.2 ⟨hd, List.nodup_range', fun x hx y hy e => ?_⟩
    subst e
    have h1 := List.all_eq_true.1 hl x hx
    have h2 := List.mem_range'_1.1 hy
    simp only [Nat.blt_eq] at h1
    omega)
  have e1 : ∀ (ks ls : List Nat) (T : List Item), pick T (ks ++ ls) = pick T ks ++ pick T ls := by
    intro ks ls T
    induction ks with
    | nil => rfl
    | cons k ks ih =>
      simp only [List.cons_append, pick]
      cases T[k]? <;> simp [ih]
  have e2 : ∀ (ks : List Nat), (∀ k ∈ ks, k < n) → pick (S ++ F) ks = pick S ks := by
    intro ks
    induction ks with
    | nil => intro _; rfl
    | cons k ks ih =>
      intro hk
      simp only [pick]
      rw [List.getElem?_append_left (by rw [hn]; exact hk k (by simp)), ih fun q hq => hk q (by simp [hq])]
  have e3 : ∀ (m s : Nat), s + m ≤ F.length → pick (S ++ F) (List.range' (n + s) m) = (F.drop s).take m := by
    intro m
    induction m with
    | zero => intro s _; simp [pick]
    | succ m ih =>
      intro s hs
      rw [List.range'_succ]
      simp only [pick]
      have hlt : s < F.length := by omega
      rw [List.getElem?_append_right (by omega), show n + s - S.length = s by omega, List.getElem?_eq_getElem hlt]
      simp only
      rw [show n + s + 1 = n + (s + 1) by omega, ih (s + 1) (by omega), List.drop_eq_getElem_cons hlt, List.take_succ_cons]
  rw [e1, e2 js (fun k hk => by have := List.all_eq_true.1 hl k hk; simpa using this), hj] at hi
  have := e3 F.length 0 (by omega)
  rw [Nat.add_zero] at this
  rw [this] at hi
  simpa using hi
theorem Ev.pickS {X : Cx} {c : Code} {E : Env} {S S' : List Item} {Q : Exit → Act → World → Prop} (js : List Nat) (hj : pick S js = S') (hn : js.Nodup) (h : Ev X c E S' Q) : Ev X c E S Q := fun a w ha hw => h a w ha (hj ▸ hw.pick js hn)
section
variable {X : Cx} {ops : Array Oper} {i k : Nat} {E : Env} {S : List Item} {Q : Exit → Act → World → Prop}
theorem pv_rem {t u : TypeId} {x y : Operand} {q : IntKind} {m n : Int} (hx : E.op x = some (.int q m)) (hy : E.op y = some (.int q n)) (hm : 0 ≤ m) (hn : 0 < n) : PV X E S (.binOp .rem t x y u) (.int q (m % n)) :=
  pv_int hx hy fun w => by
    have h0 : ¬ n = 0 := by omega
    simp [binOp, Op.intArith, Op.intDiv, h0, Int.tmod_eq_emod_of_nonneg hm]
theorem pv_quo {t u : TypeId} {x y : Operand} {q : IntKind} {m n : Int} (hx : E.op x = some (.int q m)) (hy : E.op y = some (.int q n)) (hm : 0 ≤ m) (hn : 0 < n) (hin : inKind q (m / n)) : PV X E S (.binOp .quo t x y u) (.int q (m / n)) :=
  pv_int hx hy fun w => by
    have h0 : ¬ n = 0 := by omega
    have h1 : q.wrap (m / n) = m / n := hin
    simp [binOp, Op.intArith, Op.intDiv, h0, Int.tdiv_eq_ediv_of_nonneg hm, h1]
/-- append onto nothing -/
theorem rg_append0 {d : Nat} {t e : TypeId} {sz : Nat} {x y : Operand} {ty : TypeId} {g : Option (Nat × Bool)} {p : Option Addr} {c m : Nat} {ys : List Value} {v : Value} {zv : Value} (j : Nat)
    (ho : opAt ops i = some (some d, .call { callee := .builtin .append, args := #[x, y], argTypes := #[t, ty] }, g))
    (hc : (true && Nat.blt d X.N && Nat.blt i k && (says ops E g == some true)) = true) (hx : E.op x = some (.slice p 0 c)) (hy : E.op y = some v)
    (he : elemT X.P t = some (e, sz)) (hsz : Nat.blt 0 sz = true) (hz : zeroT X.P e = some zv) (hzs : zv.cells.size = sz) (hty : (isSliceT X.P ty || isStringT X.P ty) = true) (hj : S[j]? = some (own e sz p 0 c []))
    (hl : Builtin.lenOf v = pure m) (hlen : ys.length = m * sz) (hone : (ys.all (·.oneCell')) = true)
    (hr : ∀ w, Heap X.w0 S w → (Builtin.firstCells sz m v).run X.P w = .ok ys.toArray w) (hb : (2 * m + 192) * bytesT X.P e ≤ 281474976710656) (hbz : Nat.blt 0 (bytesT X.P e) = true)
    (h : ∀ p' c', m ≤ c' → (m = 0 → ys = []) → Rg X ops (i + 1) k ((d, .slice p' m c') :: E) (S.set j (own e sz p' m c' ys)) Q) : Rg X ops i k E S Q :=
  rg_append j ho hc hx hy he hsz hz hzs hty hj hl hlen hone hr (by rw [Nat.zero_add]; exact hb) hbz fun p' c' h1 h2 => by
    rw [Nat.zero_add, List.nil_append] at *
    exact h p' c' h1 h2
end
end Go.Proofs.Ytfhhggcdmgjbcaa.Sx
namespace Go.Proofs.Ytfhhggcdmgjbcaa.Sx
open Go Go.RowKit
theorem pv_indexN {X : Cx} {E : Env} {S : List Item} {t e : TypeId} {x y : Operand} {b o len cap sz k : Nat} {q : IntKind} (hx : E.op x = some (.slice (some ⟨b, o, none⟩) len cap)) (hy : E.op y = some (.int q (k : Int)))
    (he : elemT X.P t = some (e, sz)) (h1 : k < len) : PV X E S (.indexAddr t x y) (.pointer (some ⟨b, o + k * sz, none⟩)) :=
  pv_indexAddr hx hy he (by omega) (by omega)
end Go.Proofs.Ytfhhggcdmgjbcaa.Sx
namespace Go.Proofs.Ytfhhggcdmgjbcaa.Sx
open Go Go.RowKit
theorem Ev.ke {X : Cx} {c : Code} {E E' : Env} {S : List Item} {Q : Exit → Act → World → Prop} (ss : List Nat) (hs : keepE ss E [] = some E') (h : Ev X c E' S Q) : Ev X c E S Q := fun a w ha hw => h a w (ha.sub (keepE_sub ss E [] E' (.nil E) hs)) hw
end Go.Proofs.Ytfhhggcdmgjbcaa.Sx
namespace Go.Proofs.Ytfhhggcdmgjbcaa.Sx
open Go Go.RowKit
section
variable {X : Cx} {ops : Array Oper} {i k : Nat} {E : Env} {S : List Item} {Q : Exit → Act → World → Prop}
/-- append onto a slice of the call's own, what it holds then told otherwise -/
theorem rg_appendE {d : Nat} {t e : TypeId} {sz : Nat} {x y : Operand} {ty : TypeId} {g : Option (Nat × Bool)} {p : Option Addr} {n c m : Nat} {xs ys : List Value} {v : Value} {zv : Value} (j : Nat) (nm : Nat) (zs : List Value) (hnm : n + m = nm) (hzs : xs ++ ys = zs)
    (ho : opAt ops i = some (some d, .call { callee := .builtin .append, args := #[x, y], argTypes := #[t, ty] }, g))
    (hc : (true && Nat.blt d X.N && Nat.blt i k && (says ops E g == some true)) = true) (hx : E.op x = some (.slice p n c)) (hy : E.op y = some v)
    (he : elemT X.P t = some (e, sz)) (hsz : Nat.blt 0 sz = true) (hz : zeroT X.P e = some zv) (hzs' : zv.cells.size = sz) (hty : (isSliceT X.P ty || isStringT X.P ty) = true) (hj : S[j]? = some (own e sz p n c xs))
    (hl : Builtin.lenOf v = pure m) (hlen : ys.length = m * sz) (hone : (ys.all (·.oneCell')) = true)
    (hr : ∀ w, Heap X.w0 S w → (Builtin.firstCells sz m v).run X.P w = .ok ys.toArray w) (hb : (2 * (n + m) + 192) * bytesT X.P e ≤ 281474976710656) (hbz : Nat.blt 0 (bytesT X.P e) = true)
    (h : ∀ p' c', nm ≤ c' → (nm = 0 → zs = []) → Rg X ops (i + 1) k ((d, .slice p' nm c') :: E) (S.set j (own e sz p' nm c' zs)) Q) : Rg X ops i k E S Q := by
  subst hnm hzs
  exact rg_append j ho hc hx hy he hsz hz hzs' hty hj hl hlen hone hr hb hbz h
end
end Go.Proofs.Ytfhhggcdmgjbcaa.Sx
