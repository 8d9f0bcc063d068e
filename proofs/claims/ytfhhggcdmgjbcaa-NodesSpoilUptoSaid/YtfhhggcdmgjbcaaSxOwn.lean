/-
  A part of the walk of the seat: laws of a small proof system, and contracts of functions, each proved. Conditions: as each theorem says.
-/
import Derived.Test.YtfhhggcdmgjbcaaSxMap
import Derived.Lib.ConvBytes
namespace Go.Proofs.Ytfhhggcdmgjbcaa.Sx
open Go Go.RowKit

/-! ### A slice of the call's own: nil, or a block from its begin on -/
def own (T : TypeId) (sz : Nat) (p : Option Addr) (n c : Nat) (xs : List Value) : Item :=
  ⟨fun k => p = some ⟨k, 0, none⟩,
   fun w => (p = none ∧ n = 0 ∧ c = 0 ∧ xs = []) ∨ ∃ b rest, p = some ⟨b, 0, none⟩ ∧ w.heap[b]? = some (.cells (xs ++ rest).toArray T (0, 0)) ∧ xs.length = n * sz ∧ (xs ++ rest).length = c * sz,
   fun _ _ h hw => by
    rcases hw with hw | ⟨b, rest, h1, h2, h3, h4⟩
    · exact .inl hw
    · exact .inr ⟨b, rest, h1, (h b h1).trans h2, h3, h4⟩⟩

theorem putCells_get : ∀ (vs : List Value) (cs : Array Value) (o j : Nat), (putCells cs o vs)[j]? = if o ≤ j ∧ j < o + vs.length ∧ j < cs.size then vs[j - o]? else cs[j]? := by
  intro vs
  induction vs with
  | nil => intro cs o j; simp [putCells]; intro h1 h2; omega
  | cons v vs ih =>
    intro cs o j
    simp only [putCells, ih, Array.size_setIfInBounds, List.length_cons]
    by_cases h1 : o + 1 ≤ j ∧ j < o + 1 + vs.length ∧ j < cs.size
    · rw [if_pos h1, if_pos (by omega)]
      rw [show j - o = (j - (o + 1)) + 1 from by omega]; simp
    · rw [if_neg h1]
      by_cases h2 : o ≤ j ∧ j < o + (vs.length + 1) ∧ j < cs.size
      · rw [if_pos h2]
        have e : j = o := by omega
        subst e
        simp [h2.2.2]
      · rw [if_neg h2]
        by_cases e : j = o
        · subst e
          have : ¬ j < cs.size := by omega
          rw [Array.getElem?_eq_none (by simp; omega), Array.getElem?_eq_none (by omega)]
        · rw [Array.getElem?_setIfInBounds_ne (Ne.symm e)]

theorem putCells_mid (xs ys rest : List Value) (h : ys.length ≤ rest.length) : putCells (xs ++ rest).toArray xs.length ys = (xs ++ ys ++ rest.drop ys.length).toArray := by
  apply Array.ext_getElem?
  intro j
  rw [putCells_get]
  simp only [List.size_toArray, List.getElem?_toArray, List.length_append]
  by_cases h1 : xs.length ≤ j ∧ j < xs.length + ys.length ∧ j < xs.length + rest.length
  · rw [if_pos h1, List.append_assoc, List.getElem?_append_right (by omega), List.getElem?_append_left (by omega)]
  · rw [if_neg h1]
    by_cases h2 : j < xs.length
    · rw [List.getElem?_append_left h2, List.append_assoc, List.getElem?_append_left h2]
    · rw [List.getElem?_append_right (by omega), List.append_assoc, List.getElem?_append_right (by omega), List.getElem?_append_right (by omega), List.getElem?_drop]
      congr 1; omega

def bytesT (P : Program) (t : TypeId) : Nat := ((P.info? t).map (·.bytes)).getD 0

theorem nextcap_le (need old : Nat) (h : old < need) : Builtin.nextslicecap need old ≤ 2 * need + 192 := by
  have hg : ∀ (r c : Nat), c ≤ 2 * need + 192 → Builtin.growBy need r c ≤ 2 * need + 192 := by
    intro r
    induction r with
    | zero => intro c hc; exact hc
    | succ r ih =>
      intro c hc
      unfold Builtin.growBy
      split
      · exact hc
      · exact ih _ (by omega)
  unfold Builtin.nextslicecap
  split
  · omega
  · split
    · omega
    · exact hg _ _ (by omega)

theorem zeroCells_length (zero : Array Value) (n : Nat) : (Builtin.zeroCells zero n).size = n * zero.size := by simp [Builtin.zeroCells]

section
variable {X : Cx} {ops : Array Oper} {i k : Nat} {E : Env} {S : List Item} {Q : Exit → Act → World → Prop}

theorem typeInfo_run {P : Program} {t : TypeId} {i : TypeInfo} (h : P.info? t = some i) (w : World) : (typeInfo t).run P w = .ok i w := by simp [typeInfo, h]

/-- append onto a slice of the call's own -/
theorem rg_append {d : Nat} {t e : TypeId} {sz : Nat} {x y : Operand} {ty : TypeId} {g : Option (Nat × Bool)} {p : Option Addr} {n c m : Nat} {xs ys : List Value} {v : Value} {zv : Value} (j : Nat)
    (ho : opAt ops i = some (some d, .call { callee := .builtin .append, args := #[x, y], argTypes := #[t, ty] }, g))
    (hc : (true && Nat.blt d X.N && Nat.blt i k && (says ops E g == some true)) = true) (hx : E.op x = some (.slice p n c)) (hy : E.op y = some v)
    (he : elemT X.P t = some (e, sz)) (hsz : Nat.blt 0 sz = true) (hz : zeroT X.P e = some zv) (hzs : zv.cells.size = sz) (hty : (isSliceT X.P ty || isStringT X.P ty) = true) (hj : S[j]? = some (own e sz p n c xs))
    (hl : Builtin.lenOf v = pure m) (hlen : ys.length = m * sz) (hone : (ys.all (·.oneCell')) = true)
    (hr : ∀ w, Heap X.w0 S w → (Builtin.firstCells sz m v).run X.P w = .ok ys.toArray w) (hb : (2 * (n + m) + 192) * bytesT X.P e ≤ 281474976710656) (hbz : Nat.blt 0 (bytesT X.P e) = true)
    (h : ∀ p' c', n + m ≤ c' → (n + m = 0 → xs ++ ys = []) → Rg X ops (i + 1) k ((d, .slice p' (n + m) c') :: E) (S.set j (own e sz p' (n + m) c' (xs ++ ys))) Q) : Rg X ops i k E S Q := by
  refine Rg.value ho hc fun ac w o ha hw hop => ?_
  have hsz' : 0 < sz := by simpa using hsz
  unfold elemT at he
  split at he
  · rename_i e' hu
    cases hs : szT X.P e' with
    | none => rw [hs] at he; cases he
    | some q =>
      rw [hs] at he
      simp only [Option.map_some, Option.some.injEq, Prod.mk.injEq] at he
      obtain ⟨rfl, rfl⟩ := he
      have hti : ∃ inf, X.P.info? e' = some inf ∧ inf.bytes = bytesT X.P e' := by
        unfold szT at hs
        cases hi : X.P.info? e' with
        | none => rw [hi] at hs; cases hs
        | some inf => exact ⟨inf, rfl, by simp [bytesT, hi]⟩
      obtain ⟨inf, hinf, hbytes⟩ := hti
      have hnz : (∃ e2, X.P.underlying ty = some (.slice e2)) ∨ X.P.underlying ty = some .string := by
        unfold isSliceT isStringT at hty
        cases hd : X.P.underlying ty with
        | none => rw [hd] at hty; simp at hty
        | some dd => rw [hd] at hty; cases dd <;> first | exact .inl ⟨_, rfl⟩ | exact .inr rfl | simp at hty
      have hrun0 : ∀ r, (Builtin.append_ #[t, ty] o.type #[.slice p n c, v]).run X.P w = r → (execOp ac.eval o).run X.P w = r.andThen fun v w => .ok (.value v) w := by
        intro r hr
        unfold execOp; rw [hop]
        simp [resolve, invoke, builtin, ha.eval hx, ha.eval hy, hr]
      have hw1 := hw.at_ j hj
      have hxl : xs.length = n * q := by
        rcases hw1 with ⟨_, h2, _, h4⟩ | ⟨_, _, _, _, h5, _⟩
        · rw [h2, h4]; simp
        · exact h5
      have hemp : n + m = 0 → xs ++ ys = [] := by
        intro h0
        have e1 : n = 0 := by omega
        have e2 : m = 0 := by omega
        subst e1 e2
        simp at hxl hlen
        simp [hxl, hlen]
      by_cases hcap : n + m ≤ c
      · -- there is room
        rcases hw1 with ⟨rfl, rfl, rfl, rfl⟩ | ⟨b, rest, rfl, h2, h3, h4⟩
        · have hm0 : m = 0 := by omega
          subst hm0
          have hys : ys = [] := by simpa using hlen
          subst hys
          refine ⟨.slice none 0 0, w, S, ?_, hw, ?_⟩
          · rw [hrun0 (.ok (.slice none 0 0) w)]
            · rfl
            · unfold Builtin.append_
              rcases hnz with ⟨e2, hdd⟩ | hdd <;> simp [run_underlying hu, run_szOf hs, run_underlying hdd, hl, hr w hw]
          · have := h none 0 (Nat.le_refl _) (fun _ => rfl)
            simp only [List.append_nil] at this
            have hset : S.set j (own e' q none 0 0 []) = S := by
              have hlt := (List.getElem?_eq_some_iff.1 hj).1
              have hge := (List.getElem?_eq_some_iff.1 hj).2
              rw [← hge]; simp
            rw [hset] at this
            exact this
        · simp only [List.length_append] at h4
          have hrl : ys.length ≤ rest.length := by
            have : (n + m) * q ≤ c * q := Nat.mul_le_mul_right q hcap
            rw [Nat.add_mul] at this
            omega
          have hstore := run_storeCells (P := X.P) (t := e') ys w b (n * q) 0 (xs ++ rest).toArray h2 (by simp; omega) hone
          simp only [Nat.add_zero] at hstore
          have hpc : putCells (xs ++ rest).toArray (n * q) ys = (xs ++ ys ++ rest.drop ys.length).toArray := by rw [← h3]; exact putCells_mid xs ys rest hrl
          rw [hpc] at hstore
          refine ⟨.slice (some ⟨b, 0, none⟩) (n + m) c, { w with heap := w.heap.setIfInBounds b (.cells (xs ++ ys ++ rest.drop ys.length).toArray e' (0, 0)) }, _, ?_, ?_, h (some ⟨b, 0, none⟩) c hcap hemp⟩
          · rw [hrun0 (.ok (.slice (some ⟨b, 0, none⟩) (n + m) c) { w with heap := w.heap.setIfInBounds b (.cells (xs ++ ys ++ rest.drop ys.length).toArray e' (0, 0)) })]
            · rfl
            · unfold Builtin.append_
              have hadd : (⟨b, 0, none⟩ : Addr).add (n * q) = ⟨b, n * q, none⟩ := by rw [add_mk, Nat.zero_add]
              rcases hnz with ⟨e2, hdd⟩ | hdd <;> simp [run_underlying hu, run_szOf hs, run_underlying hdd, hl, hr w hw, hcap, hadd, hstore]
          · refine hw.setI j hj _ rfl rfl rfl (by simp) (fun q' hq => .inl hq) (.inr ⟨b, rest.drop ys.length, rfl, by simp [(Array.getElem?_eq_some_iff.1 h2).1], ?_, ?_⟩) (fun q' _ hq => ?_)
            · simp only [List.length_append, hlen, h3, Nat.add_mul]
            · simp only [List.length_append, List.length_drop]; omega
            · refine Array.getElem?_setIfInBounds_ne (fun e => hq ?_)
              subst e; rfl
      · -- a new block
        have hneed : c < n + m := by omega
        have hn64 : ¬ (((n + m : Nat) : Int) > IntKind.i64.max) := by
          have hbz' : 0 < bytesT X.P e' := by simpa using hbz
          have : 2 * (n + m) + 192 ≤ (2 * (n + m) + 192) * bytesT X.P e' := Nat.le_mul_of_pos_right _ hbz'
          simp only [IntKind.max]
          simp [IntKind.bits, IntKind.signed]
          omega
        have hlim : ¬ (Builtin.nextslicecap (n + m) c * inf.bytes > 2 ^ 48) := by
          have h1 := nextcap_le (n + m) c hneed
          have : Builtin.nextslicecap (n + m) c * inf.bytes ≤ (2 * (n + m) + 192) * inf.bytes := Nat.mul_le_mul_right _ h1
          rw [hbytes] at this ⊢
          omega
        have hold : (Builtin.firstCells q n (.slice p n c)).run X.P w = .ok xs.toArray w := by
          rcases hw1 with ⟨rfl, rfl, rfl, rfl⟩ | ⟨b, rest, rfl, h2, h3, h4⟩
          · simp [Builtin.firstCells]
          · simp only [Builtin.firstCells]
            have hl' := run_loadCells_list (P := X.P) w ⟨b, 0, none⟩ xs (fun jj vv hv => by
              rw [add_mk, Nat.zero_add, cell_blk h2]
              have := (List.getElem?_eq_some_iff.1 hv).1
              simp only [List.getElem?_toArray]
              rw [List.getElem?_append_left this]; exact hv)
            rw [h3] at hl'
            exact hl'
        obtain ⟨cap', hcq⟩ : ∃ cap', cap' = Question.cut (.appendCap (n + m) c e') (w.tape w.drawn (.appendCap (n + m) c e')) := ⟨_, rfl⟩
        have hcle : n + m ≤ cap' := by
          rw [hcq]; simp only [Question.cut]; omega
        let rest : List Value := (Builtin.zeroCells zv.cells (cap' - (n + m))).toList
        have hrestl : rest.length = (cap' - (n + m)) * q := by
          show (Builtin.zeroCells zv.cells (cap' - (n + m))).toList.length = _
          rw [Array.length_toList, zeroCells_length, hzs]
        refine ⟨.slice (some ⟨w.heap.size, 0, none⟩) (n + m) cap', { w with heap := w.heap.push (.cells (xs ++ ys ++ rest).toArray e' (0, 0)), drawn := w.drawn + 1 }, _, ?_, ?_, h (some ⟨w.heap.size, 0, none⟩) cap' hcle hemp⟩
        · rw [hrun0 (.ok (.slice (some ⟨w.heap.size, 0, none⟩) (n + m) cap') { w with heap := w.heap.push (.cells (xs ++ ys ++ rest).toArray e' (0, 0)), drawn := w.drawn + 1 })]
          · rfl
          · unfold Builtin.append_
            have hwd : Heap X.w0 S { w with drawn := w.drawn + 1 } := ⟨hw.os, hw.tape, hw.output, fun it hit => it.stable w _ (fun _ _ => rfl) (hw.ok it hit), hw.low, hw.apart⟩
            have hold' : (Builtin.firstCells q n (.slice p n c)).run X.P { w with drawn := w.drawn + 1 } = .ok xs.toArray { w with drawn := w.drawn + 1 } := by
              have hw1' := hwd.at_ j hj
              rcases hw1' with ⟨rfl, rfl, rfl, rfl⟩ | ⟨b, rest, rfl, h2, h3, h4⟩
              · simp [Builtin.firstCells]
              · simp only [Builtin.firstCells]
                have hl' := run_loadCells_list (P := X.P) { w with drawn := w.drawn + 1 } ⟨b, 0, none⟩ xs (fun jj vv hv => by
                  rw [add_mk, Nat.zero_add, cell_blk h2]
                  have := (List.getElem?_eq_some_iff.1 hv).1
                  simp only [List.getElem?_toArray]
                  rw [List.getElem?_append_left this]; exact hv)
                rw [h3] at hl'
                exact hl'
            have hch : (choose (.appendCap (n + m) c e')).run X.P w = .ok cap' { w with drawn := w.drawn + 1 } := by
              rw [run_choose, hcq]; simp [Question.forced]
            have hnf : ¬ (n + m ≤ c) := hcap
            rcases hnz with ⟨e2, hdd⟩ | hdd
            all_goals simp only [Sem.run_bind, Sem.run_pure, Result.andThen_ok, run_underlying hu, run_szOf hs, run_underlying hdd, List.getElem?_toArray, List.getElem?_cons_zero, List.getElem?_cons_succ, hl, typeInfo_run hinf, Bool.false_eq_true, if_false, hnf, Sem.run_ite]
            all_goals rw [if_neg (by intro hh; exact hn64 hh.1), if_neg hlim]
            all_goals simp only [Sem.run_bind, hch, Result.andThen_ok, run_askRoom, hold', hr _ hwd, run_zero hz, newRow, run_newObj, Sem.run_pure, Bool.not_false, if_true]
            all_goals simp [rest]
            all_goals (congr 2; rw [← Array.toList_inj]; simp)
        · refine hw.setI j hj _ rfl rfl rfl (by simp) (fun q' hq => .inr ?_) (.inr ⟨w.heap.size, rest, rfl, by simp, ?_, ?_⟩) (fun q' hq1 _ => ?_)
          · have hq' : (some (⟨w.heap.size, 0, none⟩ : Addr)) = some ⟨q', 0, none⟩ := hq
            simp only [Option.some.injEq, Addr.mk.injEq, and_true] at hq'
            subst hq'; simp
          · simp only [List.length_append, hlen, hxl, Nat.add_mul]
          · simp only [List.length_append, hlen, hxl, hrestl]
            rw [← Nat.add_mul, ← Nat.add_mul]; congr 1; omega
          · show (w.heap.push _)[q']? = _
            rw [Array.getElem?_push, if_neg (by omega)]
  · cases he
end
end Go.Proofs.Ytfhhggcdmgjbcaa.Sx
