/-
  A part of the walk of the seat: laws of a small proof system, and contracts of functions, each proved. Conditions: as each theorem says.
-/
import Derived.Test.YtfhhggcdmgjbcaaSxDraw
namespace Go.Proofs.Ytfhhggcdmgjbcaa.Sx
open Go Go.RowKit
theorem exec_makeMap {P : Program} {ρ : Operand → Value} {o : Oper} {t : TypeId} {w : World} (ho : o.op = .makeMap t none) : (execOp ρ o).run P w = .ok (.value (.map (some w.heap.size))) { w with heap := w.heap.push (.map #[] 0) } := by
  unfold execOp; rw [ho]; simp [Instr.makeMap]
theorem exec_alloc {P : Program} {ρ : Operand → Value} {o : Oper} {t : TypeId} {v : Value} {w : World} (ho : o.op = .alloc t) (hz : zeroT P t = some v) :
    (execOp ρ o).run P w = .ok (.value (.pointer (some ⟨w.heap.size, 0, none⟩))) { w with heap := w.heap.push (.cells v.cells t (0, 0)) } := by
  unfold execOp; rw [ho]; simp [Instr.alloc, run_zero hz, newVar, newRow]
theorem exec_makeSlice {P : Program} {a : Act} {o : Oper} {t e sz : TypeId} {x y : Operand} {L : Int} {zv : Value} {w : World} (ho : o.op = .makeSlice t x y) (hx : a.eval x = .int .i64 L) (hy : a.eval y = .int .i64 L)
    (he : elemT P t = some (e, sz)) (hz : zeroT P e = some zv) (hzs : zv.cells = #[zv]) (hsz : sz = 1) (h0 : 0 ≤ L) (h1 : L ≤ 4294967296) (hb : bytesT P e ≤ 65536) :
    (execOp a.eval o).run P w = .ok (.value (.slice (some ⟨w.heap.size, 0, none⟩) L.toNat L.toNat)) { w with heap := w.heap.push (.cells (List.replicate L.toNat zv).toArray e (0, 0)) } := by
  subst hsz
  unfold elemT at he
  split at he
  · rename_i e' hu
    cases hs : szT P e' with
    | none => rw [hs] at he; cases he
    | some q =>
      rw [hs] at he
      simp only [Option.map_some, Option.some.injEq, Prod.mk.injEq] at he
      obtain ⟨rfl, rfl⟩ := he
      have hti : ∃ inf, P.info? e' = some inf ∧ inf.bytes = bytesT P e' := by
        unfold szT at hs
        cases hi : P.info? e' with
        | none => rw [hi] at hs; cases hs
        | some inf => exact ⟨inf, rfl, by simp [bytesT, hi]⟩
      obtain ⟨inf, hinf, hbytes⟩ := hti
      have hwr : IntKind.i64.wrap L = L := IntWalk.i64_in _ ⟨by omega, by omega⟩
      have hbig : (inf.bytes : Int) * L ≤ 281474976710656 := by
        have h3 : (inf.bytes : Int) ≤ 65536 := by omega
        have h4 : (inf.bytes : Int) * L ≤ 65536 * 4294967296 := Int.mul_le_mul h3 h1 h0 (by omega)
        omega
      have harr : ((Array.range L.toNat).map fun q => zv.cells[q % zv.cells.size]!) = (List.replicate L.toNat zv).toArray := by
        apply Array.ext
        · simp
        · intro q h5 h6
          simp only [Array.getElem_map, Array.getElem_range, List.getElem_toArray, List.getElem_replicate]
          simp [hzs, Nat.mod_one]
      unfold execOp; rw [ho]
      simp only [hx, hy]
      unfold Instr.makeSlice
      have hnb : ¬ (281474976710656 < (inf.bytes : Int) * L) := by omega
      have hL0 : ¬ L < 0 := by omega
      by_cases hz0 : L.toNat = 0
      · have hL : L = 0 := by omega
        subst hL
        simp [run_underlying hu, asInt, asIntOf, typeInfo_run hinf, hwr, run_szOf hs, newRow]
        exact congrArg (fun c => w.alloc (Obj.cells c e')) (Array.ext (by simp) (by simp))
      · simp [run_underlying hu, asInt, asIntOf, typeInfo_run hinf, hwr, run_szOf hs, hz0, newRow, hnb, hL0, run_zero hz, harr]
  · cases he

theorem Heap.noItems {w0 w : World} {S : List Item} (h : Heap w0 S w) : ∀ n, Heap w0 (List.replicate n noItem ++ S) w := by
  intro n
  induction n with
  | zero => simpa using h
  | succ n ih => rw [List.replicate_succ]; exact ih.addFact trivial
theorem ev_drawD {X : Cx} {c : Code} {E : Env} {S : List Item} {Q : Exit → Act → World → Prop} {n : Nat} (val : (Nat → Nat) → Nat → Value) (σ : (Nat → Bool) → (Nat → Nat) → Nat → Item) (hs : shapeOf c = .region true n)
    (hm : (X.P.follows .mixedOrders && forward (cops c)) = true) (h0 : ∀ id j, j < n → σ (fun _ => false) id j = noItem)
    (hstep : ∀ i, i < n → ∀ done, done i = false → (∀ j ∈ depsOf (cops c) i, done j = true) → Down (cops c) done → ∀ a w, DInv X (cops c) E S n val σ done a w → wpOpIn (fence X.r) 0 X.P (cops c) Q i (DInv X (cops c) E S n val σ (updB done i)) a w)
    (hend : ∀ done id, (∀ i, i < n → done i = true) → At X .normal (depEnv (cops c) (val id) (List.range n) ++ E) ((List.range n).map (σ done id) ++ S) Q) : Ev X c E S Q := by
  refine ev_draw hs hm (DInv X (cops c) E S n val σ) (fun a w ha hw => ⟨fun _ => 0, ha, (fun i _ h => by cases h), ?_⟩) hstep ?_
  · have : (List.range n).map (σ (fun _ => false) fun _ => 0) = List.replicate n noItem := by
      apply List.ext_getElem (by simp)
      intro j h1 h2
      simp only [List.getElem_map, List.getElem_range, List.getElem_replicate]
      exact h0 _ j (by simpa using h1)
    rw [this]; exact hw.noItems n
  · rintro done hall a w ⟨id, ha, hv, hw⟩
    refine hend done id hall a w ⟨ha.size, ha.defers, fun s v hs => ?_⟩ hw
    rw [Env.get_app] at hs
    cases hd : (depEnv (cops c) (val id) (List.range n)).get s with
    | none => rw [hd] at hs; exact ha.get s v (by simpa using hs)
    | some u =>
      rw [hd] at hs
      simp only [Option.some_or, Option.some.injEq] at hs
      subst hs
      have := Env.get_mem hd
      simp only [depEnv, List.mem_filterMap, Option.map_eq_some_iff] at this
      obtain ⟨j, hj, d, h1, h2⟩ := this
      simp only [Prod.mk.injEq] at h2
      obtain ⟨rfl, rfl⟩ := h2
      exact hv j (List.mem_range.1 hj) (hall j (List.mem_range.1 hj)) _ h1
theorem low_of {ops : Array Oper} {i n : Nat} (h : ((depsOf ops i).all fun j => Nat.blt j n) = true) : ∀ j ∈ depsOf ops i, j < n := fun j hj => by simpa using List.all_eq_true.1 h j hj
theorem dep_of {ops : Array Oper} {i j : Nat} {done : Nat → Bool} (hd : Down ops done) (hj : done j = false) (h : (depsOf ops i).elem j = true) : done i = false := by
  cases hi : done i with
  | false => rfl
  | true => have := hd i hi j (List.mem_of_elem_eq_true h); rw [hj] at this; cases this
theorem dep_in {ops : Array Oper} {i j : Nat} {done : Nat → Bool} (hd : ∀ j ∈ depsOf ops i, done j = true) (h : (depsOf ops i).elem j = true) : done j = true := hd j (List.mem_of_elem_eq_true h)
end Go.Proofs.Ytfhhggcdmgjbcaa.Sx
