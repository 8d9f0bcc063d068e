/-
  A part of the walk of the seat: laws of a small proof system, and contracts of functions, each proved. Conditions: as each theorem says.
-/
import Derived.Test.YtfhhggcdmgjbcaaSxEnd
namespace Go.Proofs.Ytfhhggcdmgjbcaa.Sx
open Go Go.RowKit

section
variable {X : Cx} {ops : Array Oper} {i k : Nat} {E : Env} {S : List Item} {Q : Exit → Act → World → Prop} {c : Code}

/-! ### Append of so many zeroes to nil -/
theorem rg_appendZ {d : Nat} {t e : TypeId} {x y : Operand} {ty : TypeId} {g : Option (Nat × Bool)} {m : Int} {zv : Value} {q : IntKind}
    (ho : opAt ops i = some (some d, .call { callee := .builtin .append, args := #[x, y], argTypes := #[t, ty] }, g))
    (hc : (true && Nat.blt d X.N && Nat.blt i k && (says ops E g == some true)) = true) (hx : E.op x = some (.slice none 0 0)) (hy : E.op y = some (.int .i64 m))
    (he : elemT X.P t = some (e, 1)) (hz : zeroT X.P e = some zv) (hzs : zv.cells.size = 1) (hty : X.P.underlying ty = some (.int q)) (h0 : 0 ≤ m) (h1 : m ≤ 4294967296)
    (hb : bytesT X.P e ≤ 4096) (h : ∀ p' c', m.toNat ≤ c' → Rg X ops (i + 1) k ((d, .slice p' m.toNat c') :: E) (own e 1 p' 0 c' [] :: S) Q) : Rg X ops i k E S Q := by
  refine Rg.value ho hc fun ac w o ha hw hop => ?_
  unfold elemT at he
  split at he
  · rename_i e' hu
    cases hs : szT X.P e' with
    | none => rw [hs] at he; cases he
    | some qq =>
      rw [hs] at he
      simp only [Option.map_some, Option.some.injEq, Prod.mk.injEq] at he
      obtain ⟨rfl, rfl⟩ := he
      have hti : ∃ inf, X.P.info? e' = some inf ∧ inf.bytes = bytesT X.P e' := by
        unfold szT at hs
        cases hi : X.P.info? e' with
        | none => rw [hi] at hs; cases hs
        | some inf => exact ⟨inf, rfl, by simp [bytesT, hi]⟩
      obtain ⟨inf, hinf, hbytes⟩ := hti
      have hwrap : IntKind.i64.wrap m = m := in_i64 (by omega) (by omega)
      have hneg : ¬ m < 0 := by omega
      have hasI : ∀ w, (asInt (.int .i64 m)).run X.P w = .ok m w := fun w => by simp [asInt, asIntOf]
      have hrun0 : ∀ r, (Builtin.append_ #[t, ty] o.type #[.slice none 0 0, .int .i64 m]).run X.P w = r → (execOp ac.eval o).run X.P w = r.andThen fun v w => .ok (.value v) w := by
        intro r hr
        unfold execOp; rw [hop]
        simp [resolve, invoke, builtin, ha.eval hx, ha.eval hy, hr]
      have hbm : ¬ (m * ((inf.bytes : Nat) : Int) > 2 ^ 48) := by
        have h2 : m * ((inf.bytes : Nat) : Int) ≤ 4294967296 * 4096 := Int.mul_le_mul h1 (by omega) (by omega) (by omega)
        omega
      have hbm' : ¬ (281474976710656 < m * ((inf.bytes : Nat) : Int)) := by simpa using hbm
      obtain ⟨n, hn⟩ : ∃ n : Nat, m.toNat = n := ⟨_, rfl⟩
      rw [hn] at h
      by_cases hz0 : n = 0
      · subst hz0
        refine ⟨.slice none 0 0, w, _, ?_, ?_, h none 0 (Nat.le_refl _)⟩
        · rw [hrun0 (.ok (.slice none 0 0) w)]
          · rfl
          · unfold Builtin.append_
            simp [run_underlying hu, run_szOf hs, run_underlying hty, hasI, hwrap, hneg, hbm', typeInfo_run hinf, hn]
            intro hh; omega
        · refine hw.newI _ rfl rfl rfl (Nat.le_refl _) (fun q' hq' => ?_) (.inl ⟨rfl, rfl, rfl, rfl⟩) (fun _ _ => rfl)
          have : (none : Option Addr) = some ⟨q', 0, none⟩ := hq'
          cases this
      · have hn64 : ¬ (((0 + n : Nat) : Int) > IntKind.i64.max) := by
          simp only [IntKind.max]
          simp [IntKind.bits, IntKind.signed]
          omega
        have hlim : ¬ (Builtin.nextslicecap (0 + n) 0 * inf.bytes > 2 ^ 48) := by
          have h1 := nextcap_le (0 + n) 0 (by omega)
          have h2 : Builtin.nextslicecap (0 + n) 0 * inf.bytes ≤ (2 * (0 + n) + 192) * inf.bytes := Nat.mul_le_mul_right _ h1
          have h3 : (2 * (0 + n) + 192) * inf.bytes ≤ 8589934784 * 4096 := Nat.mul_le_mul (by omega) (by omega)
          omega
        obtain ⟨cap', hcq⟩ : ∃ cap', cap' = Question.cut (.appendCap (0 + n) 0 e') (w.tape w.drawn (.appendCap (0 + n) 0 e')) := ⟨_, rfl⟩
        have hcle : n ≤ cap' := by
          rw [hcq]; simp only [Question.cut]; omega
        let cs : Array Value := Builtin.zeroCells zv.cells n ++ Builtin.zeroCells zv.cells (cap' - (0 + n))
        have hcs : cs.size = cap' := by
          simp only [cs, Array.size_append, zeroCells_length, hzs]; omega
        refine ⟨.slice (some ⟨w.heap.size, 0, none⟩) n cap', { w with heap := w.heap.push (.cells cs e' (0, 0)), drawn := w.drawn + 1 }, _, ?_, ?_, h (some ⟨w.heap.size, 0, none⟩) cap' hcle⟩
        · rw [hrun0 (.ok (.slice (some ⟨w.heap.size, 0, none⟩) n cap') { w with heap := w.heap.push (.cells cs e' (0, 0)), drawn := w.drawn + 1 })]
          · rfl
          · unfold Builtin.append_
            have hch : (choose (.appendCap (0 + n) 0 e')).run X.P w = .ok cap' { w with drawn := w.drawn + 1 } := by
              rw [run_choose, hcq]; simp [Question.forced]
            have hnf : ¬ (0 + n ≤ 0) := by omega
            have hn0 : ¬ (n * 1 = 0) := by omega
            simp only [Sem.run_bind, Sem.run_pure, Result.andThen_ok, run_underlying hu, run_szOf hs, run_underlying hty, List.getElem?_toArray, List.getElem?_cons_zero, List.getElem?_cons_succ, hasI, hwrap, hneg, typeInfo_run hinf, if_true, if_false, Sem.run_ite, hn, hnf, hn0]
            rw [if_neg (by simpa using hbm)]
            rw [if_neg (by intro hh; exact hn64 hh.1), if_neg hlim]
            simp only [Sem.run_bind, hch, Result.andThen_ok, run_askRoom, Builtin.firstCells, run_zero hz, newRow, run_newObj, Sem.run_pure, Bool.not_true, Bool.false_eq_true, if_false]
            simp [cs]
        · have hd : Heap X.w0 S { w with drawn := w.drawn + 1 } := ⟨hw.os, hw.tape, hw.output, fun it hit => it.stable w _ (fun _ _ => rfl) (hw.ok it hit), hw.low, hw.apart⟩
          refine hd.newI _ rfl rfl rfl (by simp) (fun q' hq' => ?_) (.inr ⟨w.heap.size, cs.toList, rfl, by simp, by simp, by simp [hcs]⟩) (fun q' hq1 => ?_)
          · have hq2 : (some (⟨w.heap.size, 0, none⟩ : Addr)) = some ⟨q', 0, none⟩ := hq'
            simp only [Option.some.injEq, Addr.mk.injEq, and_true] at hq2
            subst hq2; simp
          · show (w.heap.push _)[q']? = _
            rw [Array.getElem?_push, if_neg (by have : q' < w.heap.size := hq1; omega)]
  · cases he

/-! ### What is appended -/
theorem firstCells_blk {w0 w : World} {S : List Item} (hw : Heap w0 S w) {P : Program} (j : Nat) {T : TypeId} {sz b m : Nat} {cs : Array Value} (hj : S[j]? = some (blk b (.cells cs T (0, 0)))) (hl : cs.toList.length = m * sz) {n' c' : Nat} :
    (Builtin.firstCells sz m (.slice (some ⟨b, 0, none⟩) n' c')).run P w = .ok cs.toList.toArray w := by
  refine firstCells_of (b := b) (o := 0) hl (fun _ => rfl) fun q _ => ?_
  rw [Nat.zero_add, cell_blk (hw.blk_at j hj)]
  simp
theorem firstCells_bytes {F : Nat → Prop} {w : World} {P : Program} {p : Option Addr} {xs : List Int} (h : BytesAt F w p xs) {n' c' : Nat} :
    (Builtin.firstCells 1 xs.length (.slice p n' c')).run P w = .ok (bv xs).toArray w := by
  by_cases h0 : 0 < xs.length
  · obtain ⟨b, o, hp⟩ := h.adr h0
    refine firstCells_of (b := b) (o := o) (by simp [bv]) (fun _ => hp) fun q hq => ?_
    have hq' : q < xs.length := by simpa [bv] using hq
    have := h.cell b o hp q hq' 0 (by omega)
    rw [show o + q * 1 + 0 = o + q from by omega] at this
    rw [this]
    simp [bv, List.getD_eq_getElem?_getD, List.getElem?_eq_getElem hq']
  · have : xs = [] := by
      cases xs with
      | nil => rfl
      | cons a l => simp at h0
    subst this
    refine firstCells_of (b := 0) (o := 0) (by simp [bv]) (fun h => by simp at h) fun q hq => by simp [bv] at hq
theorem bv_one (xs : List Int) : (bv xs).all (·.oneCell') = true := by
  induction xs with
  | nil => rfl
  | cons x xs ih => simp only [bv, List.map_cons, List.all_cons] at ih ⊢; rw [ih]; rfl
theorem bv_length (xs : List Int) : (bv xs).length = xs.length := by simp [bv]
theorem bv_app (xs ys : List Int) : bv xs ++ bv ys = bv (xs ++ ys) := by simp [bv]

/-! ### Parts of rows -/
theorem BytesAt.drop {F : Nat → Prop} {w : World} {p : Option Addr} {xs : List Int} (h : BytesAt F w p xs) {c l : Nat} (hc : xs.length ≤ c) : BytesAt F w (subP p c l 1) (xs.drop l) := by
  have hlen : (xs.drop l).length = xs.length - l := List.length_drop
  refine ⟨fun h0 => ?_, fun b o h0 hp => ?_, fun b o hp i hi j hj => ?_⟩
  · obtain ⟨b, o, hp⟩ := h.adr (by omega)
    exact ⟨b, o + l * 1, by subst hp; simp [subP, show c ≠ l by omega, add_mk]⟩
  · obtain ⟨b', o', hp'⟩ := h.adr (by omega)
    subst hp'
    simp only [subP, show c ≠ l by omega, if_false, Option.map_some, Option.some.injEq, add_mk, Addr.mk.injEq] at hp
    rw [← hp.1]; exact h.foot b' o' (by omega) rfl
  · obtain ⟨b', o', hp'⟩ := h.adr (by omega)
    subst hp'
    simp only [subP, show c ≠ l by omega, if_false, Option.map_some, Option.some.injEq, add_mk, Addr.mk.injEq] at hp
    obtain ⟨rfl, rfl, _⟩ := hp
    have := h.cell b' o' rfl (l + i) (by omega) 0 (by omega)
    rw [show o' + l * 1 + i * 1 + j = o' + (l + i) * 1 + 0 by omega, this]
    simp [List.getD_eq_getElem?_getD, List.getElem?_drop]
theorem BytesAt.take {F : Nat → Prop} {w : World} {p : Option Addr} {xs : List Int} (h : BytesAt F w p xs) {l : Nat} (hl : l ≤ xs.length) : BytesAt F w p (xs.take l) := by
  have hlen : (xs.take l).length = l := by rw [List.length_take]; omega
  refine ⟨fun h0 => h.adr (by omega), fun b o h0 hp => h.foot b o (by omega) hp, fun b o hp i hi j hj => ?_⟩
  rw [h.cell b o hp i (by omega) j hj]
  simp [List.getD_eq_getElem?_getD, List.getElem?_take, show i < l by omega]

/-! ### An array out of bytes -/
def arrOf (xs : List Int) (n : Nat) : Array Value := ((List.range n).map fun i => Value.int .u8 (xs.getD i 0)).toArray
theorem pv_load_agg_bytes {t : TypeId} {x : Operand} {p : Option Addr} {m : Nat} {xs : List Int} (hx : E.op x = some (.pointer p)) (h0 : 0 < m) (hm : m ≤ xs.length) (ht : isAggT X.P t = true) (hs : szT X.P t = some m)
    (h : ∀ w, Heap X.w0 S w → BytesAt (Low w) w p xs) : PV X E S (.load t x) (.agg (arrOf xs m)) := by
  intro a w o ha hw ho
  have hB := h w hw
  obtain ⟨b, of, hp⟩ := hB.adr (by omega)
  subst hp
  refine pv_load_agg (E := E) (S := S) hx (cs := arrOf xs m) ht (by simpa [arrOf] using hs) (fun w hw j hj => ?_) a w o ha hw ho
  have hj' : j < m := by simpa [arrOf] using hj
  have := (h w hw).cell b of rfl j (by omega) 0 (by omega)
  rw [add_mk]; rw [show of + j * 1 + 0 = of + j from by omega] at this
  rw [this]
  simp [arrOf, hj']

/-! ### A struct's value out of parts -/
theorem pv_build {t : TypeId} {parts : List (Nat × Operand)} {vs : List Value} {fs : List (Nat × Nat)} {zv : Value} {cs : Array Value} (hx : Env.opsOf E (parts.map (·.2)) = some vs)
    (hz : zeroT X.P t = some zv) (hfs : (match X.P.underlying t with | some (.struct fields) => (fields.toList.mapM fun f => (szT X.P f.type).map fun s => (f.offset, s)) | _ => none) = some fs)
    (hf : Instr.fill (fs.toArray[·]?) zv.cells ((parts.map (·.1)).zip vs) = some cs) : PV X E S (.build t parts.toArray) (.agg cs) := by
  intro a w o ha _ ho
  have hparts : (parts.toArray.map fun x => (x.1, a.eval x.2)).toList = (parts.map (·.1)).zip vs := by
    have := ha.evals hx
    rw [← this]
    simp only [List.map_toArray]
    rw [List.map_map, List.zip_map']
    rfl
  split at hfs
  · rename_i fields hu
    have hm : ∀ (l : List Field) (gs : List (Nat × Nat)), (l.mapM fun f => (szT X.P f.type).map fun s => (f.offset, s)) = some gs → (l.mapM (m := Sem) fun f => do pure (f.offset, ← sizeOf f.type)).run X.P w = .ok gs w := by
      intro l
      induction l with
      | nil => intro gs h; simp at h; subst h; simp
      | cons f l ih =>
        intro gs h
        rw [List.mapM_cons] at h
        cases hsz : szT X.P f.type with
        | none => simp [hsz] at h
        | some s =>
          cases hr : (l.mapM fun f => (szT X.P f.type).map fun s => (f.offset, s)) with
          | none => simp [hsz, hr] at h
          | some gs' =>
            simp [hsz, hr] at h
            subst h
            rw [List.mapM_cons]
            have ih' := ih gs' hr
            simp only [bind_pure_comp, pure_bind] at ih' ⊢
            simp [Sem.run_bind, run_szOf hsz, ih']
    have hm' := hm fields.toList fs hfs
    unfold execOp; rw [ho]
    simp only [Instr.build, Sem.run_bind, run_zero hz, Result.andThen_ok, run_underlying hu, hparts]
    rw [Array.mapM_eq_mapM_toList]
    simp only [Sem.run_map, hm', Sem.run_bind, Result.andThen_ok, hf, Sem.run_pure]
  · cases hfs

/-! ### Results -/
theorem reads_cellA {b o t T : Nat} {cs : Array Value} (j : Nat) (h : E.get b = some (.pointer (some ⟨o, 0, none⟩))) (hj : S[j]? = some (blk o (.cells cs T (0, 0)))) (ht : isAggT X.P t = true) (hs : szT X.P t = some cs.size) : Reads' X E S (.cell b t) (.agg cs) := by
  intro D a w ha hw
  have h1 := ha.get b _ h
  have h2 := hw.blk_at j hj
  simp only [readRV, Sem.run_bind]
  have := run_loadVar_agg (P := X.P) (w := w) (t := t) (a := ⟨o, 0, none⟩) (cs := cs) ht hs (fun jj hjj => by rw [add_mk, cell_blk h2, Nat.zero_add])
  simp [h1, asAddr, this]
theorem At.retCell2 {fn : Func} {R : Ending → World → Prop} {r r' : ResultVar} {v v' : Value} (hr : fn.results = #[r, r']) (hD : X.D = []) (hv : Reads' X E S r v) (hv' : Reads' X E S r' v')
    (h : ∀ w, Heap X.w0 S w → R (.returned (.tuple #[v, v'])) w) : At X .ret E S (bodyPost X.P fn R) := by
  intro a w ha hw
  refine ⟨by rw [ha.defers, hD], .tuple #[v, v'], ?_, h w hw⟩
  have h1 := hv X.D a w ha hw
  have h2 := hv' X.D a w ha hw
  have hs : ∀ r : ResultVar, (match r with | .tmp t => (pure (a.tmps.getD t undef) : Sem Value) | .cell b t => do loadVar t (← asAddr (a.tmps.getD b undef))) = readRV a r := by intro r; cases r <;> rfl
  have e : results fn a.tmps = (do let x ← readRV a r; let y ← readRV a r'; pure (.tuple #[x, y])) := by
    unfold results
    rw [hr]
    cases r <;> cases r' <;> simp [readRV]
  rw [e]
  simp [Sem.run_bind, h1, h2]
end
end Go.Proofs.Ytfhhggcdmgjbcaa.Sx
namespace Go.Proofs.Ytfhhggcdmgjbcaa.Sx
open Go Go.RowKit
theorem Ev.factAt {X : Cx} {c : Code} {E : Env} {S : List Item} {Q : Exit → Act → World → Prop} {φ : Prop} (j : Nat) (hj : S[j]? = some (Sx.fact φ)) (h : φ → Ev X c E S Q) : Ev X c E S Q := Ev.fact (List.mem_of_getElem? hj) h
theorem At.factAt {X : Cx} {e : Exit} {E : Env} {S : List Item} {Q : Exit → Act → World → Prop} {φ : Prop} (j : Nat) (hj : S[j]? = some (Sx.fact φ)) (h : φ → At X e E S Q) : At X e E S Q := At.fact (List.mem_of_getElem? hj) h
/-- nothing yet -/
theorem Heap.ownNil {w0 w : World} {S : List Item} (h : Heap w0 S w) (T : TypeId) (sz : Nat) : Heap w0 (own T sz none 0 0 [] :: S) w := by
  refine h.newI _ rfl rfl rfl (Nat.le_refl _) (fun q hq => ?_) (.inl ⟨rfl, rfl, rfl, rfl⟩) (fun _ _ => rfl)
  have : (none : Option Addr) = some ⟨q, 0, none⟩ := hq
  cases this
theorem Rg.ownNil {X : Cx} {ops : Array Oper} {i k : Nat} {E : Env} {S : List Item} {Q : Exit → Act → World → Prop} (T : TypeId) (sz : Nat) (h : Rg X ops i k E (own T sz none 0 0 [] :: S) Q) : Rg X ops i k E S Q :=
  fun a w ha hw => h a w ha (hw.ownNil T sz)
theorem Ev.ownNil {X : Cx} {c : Code} {E : Env} {S : List Item} {Q : Exit → Act → World → Prop} (T : TypeId) (sz : Nat) (h : Ev X c E (own T sz none 0 0 [] :: S) Q) : Ev X c E S Q :=
  fun a w ha hw => h a w ha (hw.ownNil T sz)
theorem Ev.addFact {X : Cx} {c : Code} {E : Env} {S : List Item} {Q : Exit → Act → World → Prop} {φ : Prop} (hφ : φ) (h : Ev X c E (Sx.fact φ :: S) Q) : Ev X c E S Q :=
  fun a w ha hw => h a w ha (hw.addFact hφ)
end Go.Proofs.Ytfhhggcdmgjbcaa.Sx
