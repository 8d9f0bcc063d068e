/-
  A part of the walk of the seat: laws of a small proof system, and contracts of functions, each proved. Conditions: as each theorem says.
-/
import Derived.Test.YtfhhggcdmgjbcaaSxRow
import Derived.OrdersIn
namespace Go.Proofs.Ytfhhggcdmgjbcaa.Sx
open Go Go.RowKit

/-! ### A region that draws its order, its operations of any kind: one law for every order -/
def depsOf (ops : Array Oper) (i : Nat) : List Nat := match ops[i]? with
  | some o => (o.after.toList.filter (Region.binds .any ·)).map (·.on)
  | none => []
def forward (ops : Array Oper) : Bool := (List.range ops.size).all fun i => (depsOf ops i).all fun j => Nat.blt j i
def updB (f : Nat → Bool) (i : Nat) : Nat → Bool := fun j => if j = i then true else f j
def updN (f : Nat → Nat) (i b : Nat) : Nat → Nat := fun j => if j = i then b else f j
def Down (ops : Array Oper) (done : Nat → Bool) : Prop := ∀ i, done i = true → ∀ j ∈ depsOf ops i, done j = true

theorem countP_one {p p' : Nat → Bool} {i : Nat} : ∀ {n : Nat}, i < n → p i = true → p' i = false → (∀ j, j ≠ i → p' j = p j) → (List.range n).countP p' + 1 = (List.range n).countP p := by
  intro n
  induction n with
  | zero => intro h; omega
  | succ n ih =>
    intro hi h1 h2 h3
    rw [List.range_succ, List.countP_append, List.countP_append]
    by_cases e : i = n
    · subst e
      have : (List.range i).countP p' = (List.range i).countP p := by
        apply List.countP_congr
        intro j hj
        have : j ≠ i := by have := List.mem_range.1 hj; omega
        rw [h3 j this]
      rw [this]; simp [h1, h2]
    · have := ih (by omega) h1 h2 h3
      rw [← this]
      simp only [List.countP_singleton, h3 n (fun e' => e e'.symm)]
      omega

section
variable {X : Cx} {c : Code} {E : Env} {S : List Item} {Q : Exit → Act → World → Prop}

theorem any_draw {F : Fence} {P : Program} {ops : Array Oper} (hfw : forward ops = true) (Inv : (Nat → Bool) → Act → World → Prop)
    (hstep : ∀ i, i < ops.size → ∀ done, done i = false → (∀ j ∈ depsOf ops i, done j = true) → Down ops done → ∀ a w, Inv done a w → wpOpIn F 0 P ops Q i (Inv (updB done i)) a w)
    (hend : ∀ done, (∀ i, i < ops.size → done i = true) → ∀ a w, Inv done a w → Q .normal a w) : ∀ (fuel : Nat) (listed : Array Bool) (a : Act) (w : World), listed.size = ops.size →
    (List.range ops.size).countP (fun i => !listed.getD i false) ≤ fuel → Down ops (fun i => listed.getD i false) → Inv (fun i => listed.getD i false) a w → wpAnyIn F 0 P .any ops Q fuel listed a w := by
  have hmem : ∀ (listed : Array Bool), listed.size = ops.size → ∀ i, i ∈ Region.ready .any ops listed ↔ i < ops.size ∧ listed.getD i false = false ∧ ∀ j ∈ depsOf ops i, listed.getD j false = true := by
    intro listed hsz i
    rw [mem_ready]
    constructor
    · rintro ⟨h1, o, h2, h3⟩
      have hi : i < ops.size := (Array.getElem?_eq_some_iff.1 h2).1
      refine ⟨hi, by simpa [hsz, hi] using h1, fun j hj => ?_⟩
      simp only [depsOf, h2, List.mem_map, List.mem_filter, Array.mem_toList_iff] at hj
      obtain ⟨e, ⟨he, hb⟩, rfl⟩ := hj
      exact h3 e he hb
    · rintro ⟨hi, h1, h3⟩
      refine ⟨by simpa [hsz, hi] using h1, ops[i], by simp [hi], fun e he hb => h3 e.on ?_⟩
      simp only [depsOf, Array.getElem?_eq_getElem hi, List.mem_map, List.mem_filter, Array.mem_toList_iff]
      exact ⟨e, ⟨he, hb⟩, rfl⟩
  have hall : ∀ (listed : Array Bool), listed.size = ops.size → Region.ready .any ops listed = [] → ∀ i, i < ops.size → listed.getD i false = true := by
    intro listed hsz hr i
    induction i using Nat.strongRecOn with
    | _ i ih =>
      intro hi
      cases h : listed.getD i false with
      | true => rfl
      | false =>
        have : i ∈ Region.ready .any ops listed := (hmem listed hsz i).2 ⟨hi, h, fun j hj => by
          have hlt : j < i := by
            have := List.all_eq_true.1 (List.all_eq_true.1 hfw i (List.mem_range.2 hi)) j hj
            simpa using this
          exact ih j hlt (by omega)⟩
        rw [hr] at this; cases this
  intro fuel
  induction fuel with
  | zero =>
    intro listed a w hsz hc hd hI
    have h0 : ∀ i, i < ops.size → listed.getD i false = true := by
      intro i hi
      have := List.countP_eq_zero.1 (Nat.le_zero.1 hc) i (List.mem_range.2 hi)
      simpa using this
    refine ⟨?_, hend _ h0 a w hI⟩
    rw [List.eq_nil_iff_forall_not_mem]
    intro i hi
    obtain ⟨h1, h2, _⟩ := (hmem listed hsz i).1 hi
    rw [h0 i h1] at h2; cases h2
  | succ fuel ih =>
    intro listed a w hsz hc hd hI
    refine ⟨fun hr => hend _ (hall listed hsz hr) a w hI, fun i hi => ?_⟩
    obtain ⟨h1, h2, h3⟩ := (hmem listed hsz i).1 hi
    have hu : (fun j => (listed.setIfInBounds i true).getD j false) = updB (fun j => listed.getD j false) i := by
      funext j
      unfold updB
      by_cases e : j = i
      · subst e; rw [if_pos rfl]; simp [Array.getD_eq_getD_getElem?, Array.getElem?_setIfInBounds_self_of_lt (show j < listed.size by omega)]
      · rw [if_neg e]; simp [Array.getD_eq_getD_getElem?, Array.getElem?_setIfInBounds_ne (Ne.symm e)]
    refine wpOpIn_mono (fun a' w' h' => ?_) (hstep i h1 _ h2 h3 hd a w hI)
    refine ih (listed.setIfInBounds i true) a' w' (by simpa using hsz) ?_ ?_ ?_
    · have := countP_one (p := fun j => !listed.getD j false) (p' := fun j => !(listed.setIfInBounds i true).getD j false) h1 (by simpa using h2)
        (by have := congrFun hu i; simp only [updB, if_true] at this; rw [this]; rfl) (fun j hj => by have := congrFun hu j; simp only [updB, if_neg hj] at this; rw [this])
      omega
    · rw [hu]
      intro j hj k hk
      unfold updB at hj ⊢
      by_cases e : j = i
      · subst e
        by_cases e2 : k = j
        · rw [if_pos e2]
        · rw [if_neg e2]; exact h3 k hk
      · rw [if_neg e] at hj
        by_cases e2 : k = i
        · rw [if_pos e2]
        · rw [if_neg e2]; exact hd j hj k hk
    · rw [hu]; exact h'

theorem ev_draw {n : Nat} (hs : shapeOf c = .region true n) (hm : (X.P.follows .mixedOrders && forward (cops c)) = true) (Inv : (Nat → Bool) → Act → World → Prop)
    (h0 : ∀ a w, Knows X.N X.D E a → Heap X.w0 S w → Inv (fun _ => false) a w)
    (hstep : ∀ i, i < n → ∀ done, done i = false → (∀ j ∈ depsOf (cops c) i, done j = true) → Down (cops c) done → ∀ a w, Inv done a w → wpOpIn (fence X.r) 0 X.P (cops c) Q i (Inv (updB done i)) a w)
    (hend : ∀ done, (∀ i, i < n → done i = true) → ∀ a w, Inv done a w → Q .normal a w) : Ev X c E S Q := by
  cases c with
  | region id ops d =>
    simp only [shapeOf, Shape.region.injEq] at hs
    obtain ⟨rfl, rfl⟩ := hs
    simp only [cops, Bool.and_eq_true] at hm hstep h0
    intro a w ha hw
    refine wpIn_region_any hm.1 ?_
    have hC : Heap X.w0 S { w with drawn := w.drawn + 1 } := ⟨hw.os, hw.tape, hw.output, fun it hit => it.stable w _ (fun _ _ => rfl) (hw.ok it hit), hw.low, hw.apart⟩
    have hfalse : (fun i => (Array.replicate ops.size false).getD i false) = fun _ => false := by
      funext i
      by_cases h : i < ops.size <;> simp [h]
    refine any_draw hm.2 Inv hstep hend ops.size _ a _ (by simp) ?_ ?_ ?_
    · refine Nat.le_trans List.countP_le_length (by simp)
    · rw [hfalse]; intro i hi; cases hi
    · rw [hfalse]; exact h0 a _ ha hC
  | cond x _ _ => cases x <;> cases hs
  | _ => cases hs

/-! ### What is known in the middle: the values, by the blocks that were made; an item for each place -/
def noItem : Item := fact True
def DInv (X : Cx) (ops : Array Oper) (E : Env) (S : List Item) (n : Nat) (val : (Nat → Nat) → Nat → Value) (σ : (Nat → Bool) → (Nat → Nat) → Nat → Item) (done : Nat → Bool) (a : Act) (w : World) : Prop :=
  ∃ id, Knows X.N X.D E a ∧ (∀ i, i < n → done i = true → ∀ d, (opAt ops i).bind (·.1) = some d → a.tmps[d]? = some (val id i)) ∧ Heap X.w0 ((List.range n).map (σ done id) ++ S) w
def depEnv (ops : Array Oper) (val : Nat → Value) (ds : List Nat) : Env := ds.filterMap fun i => ((opAt ops i).bind (·.1)).map fun d => (d, val i)
def dstsOk (ops : Array Oper) (E : Env) (N n : Nat) : Bool := (List.range n).all fun i => match (opAt ops i).bind (·.1) with
  | some d => Nat.blt d N && (E.get d).isNone && (List.range n).all fun j => j == i || (opAt ops j).bind (·.1) != some d
  | none => true
theorem Env.get_app (A B : Env) (s : Nat) : (A ++ B : Env).get s = (A.get s).or (B.get s) := by
  induction A with
  | nil => simp [Env.get]
  | cons x A ih =>
    obtain ⟨t, v⟩ := x
    simp only [List.cons_append, Env.get, ih]
    cases Nat.beq s t <;> simp
theorem Env.get_mem {A : Env} {s : Nat} {v : Value} (h : A.get s = some v) : (s, v) ∈ A := by
  induction A with
  | nil => simp [Env.get] at h
  | cons x A ih =>
    obtain ⟨t, u⟩ := x
    simp only [Env.get] at h
    cases hb : Nat.beq s t with
    | true => rw [hb] at h; simp only [cond_true, Option.some.injEq] at h; rw [Nat.eq_of_beq_eq_true hb, h]; simp
    | false => rw [hb] at h; simp only [cond_false] at h; exact List.mem_cons_of_mem _ (ih h)

section
variable {ops : Array Oper} {n : Nat} {val : (Nat → Nat) → Nat → Value} {σ : (Nat → Bool) → (Nat → Nat) → Nat → Item}
/-- a step: what an operation comes to, by what it waits for -/
theorem dstep {i : Nat} {dst : Option Nat} {op : Op} {done : Nat → Bool} (hok : dstsOk ops E X.N n = true) (hi : i < n) (hop : opAt ops i = some (dst, op, none)) (hcalm : calm op = true) (hlow : ∀ j ∈ depsOf ops i, j < n) (hdeps : ∀ j ∈ depsOf ops i, done j = true)
    (hx : ∀ id a w, Knows X.N X.D (depEnv ops (val id) (depsOf ops i) ++ E) a → Heap X.w0 ((List.range n).map (σ done id) ++ S) w → ∀ o : Oper, o.op = op →
      ∃ id' w', (execOp a.eval o).run X.P w = .ok (match dst with | some _ => .value (val id' i) | none => .skip) w' ∧ (∀ j, j < n → done j = true → val id' j = val id j) ∧ Heap X.w0 ((List.range n).map (σ (updB done i) id') ++ S) w') :
    ∀ a w, DInv X ops E S n val σ done a w → wpOpIn (fence X.r) 0 X.P ops Q i (DInv X ops E S n val σ (updB done i)) a w := by
  rintro a w ⟨id, ha, hv, hw⟩
  have hk : Knows X.N X.D (depEnv ops (val id) (depsOf ops i) ++ E) a := by
    refine ⟨ha.size, ha.defers, fun s v hs => ?_⟩
    rw [Env.get_app] at hs
    cases hd : (depEnv ops (val id) (depsOf ops i)).get s with
    | none => rw [hd] at hs; exact ha.get s v (by simpa using hs)
    | some u =>
      rw [hd] at hs
      simp only [Option.some_or, Option.some.injEq] at hs
      subst hs
      have := Env.get_mem hd
      simp only [depEnv, List.mem_filterMap, Option.map_eq_some_iff] at this
      obtain ⟨j, hj, d, h1, h2⟩ := this
      simp only [Prod.mk.injEq] at h2
      obtain ⟨rfl, rfl⟩ := h2
      exact hv j (hlow j hj) (hdeps j hj) _ h1
  simp only [opAt] at hop
  cases hoi : ops[i]? with
  | none => rw [hoi] at hop; simp at hop
  | some o =>
    rw [hoi] at hop
    simp only [Option.map_some, core, Option.some.injEq, Prod.mk.injEq] at hop
    obtain ⟨h1, h2, h3⟩ := hop
    obtain ⟨id', w', hr, hid, hw'⟩ := hx id a w hk hw o h2
    unfold wpOpIn
    simp only [hoi]
    have hwant : Region.wanted o (yielded ops a.tmps) = true := by unfold Region.wanted; rw [h3]
    rw [if_pos hwant]
    refine ⟨fun _ _ => trivial, ?_⟩
    rw [semAt_calm (by rw [h2]; exact hcalm), hr]
    have hopi : (opAt ops i).bind (·.1) = dst := by simp [opAt, hoi, core, h1]
    cases dst with
    | none =>
      rw [Oper.uponIn_skip, h1]
      show DInv X ops E S n val σ (updB done i) a w'
      refine ⟨id', ha, fun j hj hdj d hd => ?_, hw'⟩
      by_cases e : j = i
      · subst e; rw [hopi] at hd; cases hd
      · have hdj' : done j = true := by simpa [updB, e] using hdj
        rw [hid j hj hdj']; exact hv j hj hdj' d hd
    | some d =>
      rw [Oper.uponIn_value, h1]
      have hchk := List.all_eq_true.1 hok i (List.mem_range.2 hi)
      rw [hopi] at hchk
      simp only [Bool.and_eq_true, Nat.blt_eq, Option.isNone_iff_eq_none] at hchk
      obtain ⟨⟨hN, hE⟩, hoth⟩ := hchk
      refine ⟨id', ?_, fun j hj hdj d' hd' => ?_, hw'⟩
      · have := ha.put hN (val id' i)
        refine this.sub fun s v hs => ?_
        simp only [Env.get]
        cases hb : Nat.beq s d with
        | true => rw [Nat.eq_of_beq_eq_true hb, hE] at hs; cases hs
        | false => simpa using hs
      · simp only [Act.put]
        by_cases e : j = i
        · subst e
          rw [hopi] at hd'
          simp only [Option.some.injEq] at hd'
          subst hd'
          rw [Array.getElem?_setIfInBounds_self_of_lt (by rw [ha.size]; exact hN)]
        · have hdj' : done j = true := by simpa [updB, e] using hdj
          have hne : d' ≠ d := by
            have := List.all_eq_true.1 hoth j (List.mem_range.2 hj)
            rw [hd'] at this
            simpa [e] using this
          rw [Array.getElem?_setIfInBounds_ne (Ne.symm hne), hid j hj hdj']
          exact hv j hj hdj' d' hd'

theorem map_set {f f' : Nat → Item} {i : Nat} {S : List Item} (hi : i < n) (h : ∀ j, j < n → j ≠ i → f' j = f j) : ((List.range n).map f ++ S).set i (f' i) = (List.range n).map f' ++ S := by
  rw [List.set_append_left _ _ (by simpa using hi)]
  congr 1
  apply List.ext_getElem (by simp)
  intro j h1 h2
  rw [List.getElem_set]
  by_cases e : i = j
  · subst e; simp
  · rw [if_neg e]; simp only [List.getElem_map, List.getElem_range]
    exact (h j (by simpa using h2) (Ne.symm e)).symm

/-- an operation that touches no memory -/
theorem dstep_pure {i d : Nat} {op : Op} {done : Nat → Bool} (hok : dstsOk ops E X.N n = true) (hi : i < n) (hop : opAt ops i = some (some d, op, none)) (hcalm : calm op = true) (hlow : ∀ j ∈ depsOf ops i, j < n) (hdeps : ∀ j ∈ depsOf ops i, done j = true)
    (hv : ∀ id, PV X (depEnv ops (val id) (depsOf ops i) ++ E) [] op (val id i)) (hσ : ∀ id j, j < n → σ (updB done i) id j = σ done id j) :
    ∀ a w, DInv X ops E S n val σ done a w → wpOpIn (fence X.r) 0 X.P ops Q i (DInv X ops E S n val σ (updB done i)) a w :=
  dstep hok hi hop hcalm hlow hdeps fun id a w ha hw o ho => by
    refine ⟨id, w, hv id a w o ha ⟨hw.os, hw.tape, hw.output, (fun _ h => by cases h), (fun _ h => by cases h), List.Pairwise.nil⟩ ho, fun _ _ _ => rfl, ?_⟩
    rw [show (List.range n).map (σ (updB done i) id) = (List.range n).map (σ done id) from List.map_congr_left fun j hj => hσ id j (List.mem_range.1 hj)]
    exact hw
/-- an operation that makes a block -/
theorem dstep_make {i d : Nat} {op : Op} {done : Nat → Bool} (o' : Obj) (hok : dstsOk ops E X.N n = true) (hi : i < n) (hop : opAt ops i = some (some d, op, none)) (hcalm : calm op = true) (hlow : ∀ j ∈ depsOf ops i, j < n) (hdeps : ∀ j ∈ depsOf ops i, done j = true)
    (hx : ∀ id b a w (o : Oper), Knows X.N X.D (depEnv ops (val id) (depsOf ops i) ++ E) a → o.op = op → w.heap.size = b → (execOp a.eval o).run X.P w = .ok (.value (val (updN id i b) i)) { w with heap := w.heap.push o' })
    (hσ0 : ∀ id, σ done id i = noItem) (hfp : ∀ id b k, (σ (updB done i) (updN id i b) i).fp k → k = b) (hok' : ∀ id (w : World), (σ (updB done i) (updN id i w.heap.size) i).ok { w with heap := w.heap.push o' })
    (hσ : ∀ id b j, j < n → j ≠ i → σ (updB done i) (updN id i b) j = σ done id j) (hval : ∀ id b j, j < n → done j = true → val (updN id i b) j = val id j) :
    ∀ a w, DInv X ops E S n val σ done a w → wpOpIn (fence X.r) 0 X.P ops Q i (DInv X ops E S n val σ (updB done i)) a w :=
  dstep hok hi hop hcalm hlow hdeps fun id a w ha hw o ho => by
    refine ⟨updN id i w.heap.size, _, hx id w.heap.size a w o ha ho rfl, fun j hj hd => hval id _ j hj hd, ?_⟩
    have hj : ((List.range n).map (σ done id) ++ S)[i]? = some noItem := by
      rw [List.getElem?_append_left (by simpa using hi)]
      simp [hi, hσ0 id]
    have := hw.setI i hj (σ (updB done i) (updN id i w.heap.size) i) (w' := { w with heap := w.heap.push o' }) rfl rfl rfl (by simp) (fun k hk => .inr (by rw [hfp id _ k hk]; simp)) (hok' id w) (fun k hk _ => by
      show (w.heap.push o')[k]? = _
      rw [Array.getElem?_push, if_neg (by omega)])
    rw [map_set hi (fun j hj hne => hσ id _ j hj hne)] at this
    exact this
/-- a store into a block of the region's own -/
theorem dstep_store {i m t u v0 : Nat} {x y : Operand} {done : Nat → Bool} {bk : (Nat → Nat) → Nat} {cs cs' : (Nat → Nat) → Array Value} {yv : (Nat → Nat) → Value} (hok : dstsOk ops E X.N n = true) (hi : i < n) (hmn : m < n) (hop : opAt ops i = some (none, .store t x y, none)) (hlow : ∀ j ∈ depsOf ops i, j < n) (hdeps : ∀ j ∈ depsOf ops i, done j = true)
    (hx : ∀ id, (depEnv ops (val id) (depsOf ops i) ++ E : Env).op x = some (.pointer (some ⟨bk id, 0, none⟩))) (hy : ∀ id, (depEnv ops (val id) (depsOf ops i) ++ E : Env).op y = some (yv id))
    (hσ0 : ∀ id, σ done id m = blk (bk id) (.cells (cs id) u (0, 0))) (hσ1 : ∀ id, σ (updB done i) id m = blk (bk id) (.cells (cs' id) u (0, 0))) (hσ : ∀ id j, j < n → j ≠ m → σ (updB done i) id j = σ done id j)
    (hs : ∀ id, szT X.P t = some (yv id).cells.size) (hle : ∀ id, 0 + (yv id).cells.size ≤ (cs id).size) (hone : ∀ id, ((yv id).cells.toList.all (·.oneCell')) = true) (he : ∀ id, putCells (cs id) 0 (yv id).cells.toList = cs' id) (_hv : v0 = 0) :
    ∀ a w, DInv X ops E S n val σ done a w → wpOpIn (fence X.r) 0 X.P ops Q i (DInv X ops E S n val σ (updB done i)) a w :=
  dstep (dst := none) hok hi hop rfl hlow hdeps fun id a w ha hw o ho => by
    have hj : ((List.range n).map (σ done id) ++ S)[m]? = some (blk (bk id) (.cells (cs id) u (0, 0))) := by
      rw [List.getElem?_append_left (by simpa using hmn)]
      simp [hmn, hσ0 id]
    refine ⟨id, { w with heap := w.heap.setIfInBounds (bk id) (.cells (cs' id) u (0, 0)) }, ?_, fun _ _ _ => rfl, ?_⟩
    · unfold execOp; rw [ho]
      have := run_storeVar (P := X.P) (ty := t) (v := yv id) (o := 0) (hw.blk_at m hj) (hs id) (hle id) (hone id)
      rw [he id] at this
      simp [ha.eval (hx id), ha.eval (hy id), Instr.storeAt, Instr.sureAddr, this]
    · have := hw.set m hj (.cells (cs' id) u (0, 0)) (w' := { w with heap := w.heap.setIfInBounds (bk id) (.cells (cs' id) u (0, 0)) }) rfl rfl rfl rfl
      rw [← hσ1 id, map_set hmn (fun j hj hne => hσ id j hj hne)] at this
      exact this
end
end
end Go.Proofs.Ytfhhggcdmgjbcaa.Sx
