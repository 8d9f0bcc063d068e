/-
  A part of the walk of the seat: laws of a small proof system, and contracts of functions, each proved. Conditions: as each theorem says.
-/
import Derived.Test.YtfhhggcdmgjbcaaProg
import Derived.Test.YtfhhggcdmgjbcaaSxDraw2
import Derived.Test.YtfhhggcdmgjbcaaT17
namespace Go.Proofs.Ytfhhggcdmgjbcaa.Sx
open Go Go.RowKit Go.Proofs

def iv (l : List Int) : List Value := l.map (.int .i64 ·)
theorem iv_length (l : List Int) : (iv l).length = l.length := by simp [iv]
theorem iv_lt {l : List Int} {i : Nat} (h : i < l.length) : 0 + i * 1 < l.length := by omega
theorem iv_get {l : List Int} {i : Nat} (h : i < l.length) : (iv l)[0 + i * 1]? = some (.int .i64 (l.getD i 0)) := by
  rw [show 0 + i * 1 = i by omega]
  simp [iv, List.getD_eq_getElem?_getD, List.getElem?_eq_getElem h]
theorem iv_set {l : List Int} {i : Nat} (v : Int) : (iv l).set (0 + i * 1) (.int .i64 v) = iv (l.set i v) := by
  rw [show 0 + i * 1 = i by omega]
  simp [iv, List.map_set]
theorem iv_replicate (n : Nat) : iv (List.replicate n 0) = List.replicate n (Value.int .i64 0) := by simp [iv]
theorem livTo_short (ns : List Node) (k : Nat) : (livTo ns k).length ≤ k := by
  induction k with
  | zero => exact Nat.le_refl _
  | succ k ih =>
    simp only [livTo]
    cases (!decide ((nd ns k).kind = 0)) <;> simp <;> omega
theorem liv_short (ns : List Node) : (liv ns).length ≤ ns.length := livTo_short ns _
def lvi (ns : List Node) (m : Nat) : Nat := (liv ns).getD m 0
def lvn (ns : List Node) (m : Nat) : Node := nd ns (lvi ns m)
structure St where
  named : List Int
  subs : List Int
  home : List Int
def entStep (ns : List Node) (i : Nat) (st : St) (e : Entry) : St :=
  ⟨st.named.set e.node.toNat (st.named.getD e.node.toNat 0 + 1), cond (isS ns e.node 2) (st.subs.set i (st.subs.getD i 0 + 1)) st.subs, st.home.set e.node.toNat (i : Int)⟩
def entN (ns : List Node) (i : Nat) (es : List Entry) (st : St) : Nat → St
  | 0 => st
  | k + 1 => entStep ns i (entN ns i es st k) (en es k)
def chkN (ns : List Node) : Nat → St
  | 0 => ⟨List.replicate ns.length 0, List.replicate ns.length 0, List.replicate ns.length 0⟩
  | m + 1 => entN ns (lvi ns m) (lvn ns m).list (chkN ns m) (lvn ns m).list.length
def gensN (ns : List Node) : Nat → List (Int × Int)
  | 0 => []
  | m + 1 => upd (gensN ns m) (lvn ns m).gen ((look (gensN ns m) (lvn ns m).gen).getD 0 + 1)
theorem gensN_range (ns : List Node) (m : Nat) (a : Int) : 0 ≤ (look (gensN ns m) a).getD 0 ∧ (look (gensN ns m) a).getD 0 ≤ (m : Int) := by
  induction m generalizing a with
  | zero => simp [gensN, look]
  | succ m ih =>
    simp only [gensN, look_upd]
    by_cases h : a = (lvn ns m).gen
    · rw [if_pos h]
      have := ih (lvn ns m).gen
      simp only [Option.getD_some]; omega
    · rw [if_neg h]
      have := ih a
      omega
theorem getD_set (l : List Int) (i j : Nat) (v : Int) : (l.set i v).getD j 0 = if i = j ∧ j < l.length then v else l.getD j 0 := by
  simp only [List.getD_eq_getElem?_getD, List.getElem?_set]
  by_cases h : i = j
  · subst h
    by_cases h2 : i < l.length
    · simp [h2]
    · simp [h2, List.getElem?_eq_none (Nat.le_of_not_lt h2)]
  · simp [h]
structure StOk (n : Nat) (B : Int) (st : St) : Prop where
  named : st.named.length = n
  subs : st.subs.length = n
  home : st.home.length = n
  n0 : ∀ j, 0 ≤ st.named.getD j 0
  n1 : ∀ j, st.named.getD j 0 ≤ B
  s0 : ∀ j, 0 ≤ st.subs.getD j 0
  s1 : ∀ j, st.subs.getD j 0 ≤ B
theorem entN_ok {ns : List Node} {i n : Nat} {es : List Entry} {st : St} {B : Int} (h : StOk n B st) (k : Nat) : StOk n (B + k) (entN ns i es st k) := by
  induction k with
  | zero => simpa [entN] using h
  | succ k ih =>
    have hB : (B + (k + 1 : Nat) : Int) = B + k + 1 := by omega
    refine ⟨by simp [entN, entStep, ih.named], ?_, by simp [entN, entStep, ih.home], fun j => ?_, fun j => ?_, fun j => ?_, fun j => ?_⟩
    · simp only [entN, entStep]; cases isS ns (en es k).node 2 <;> simp [ih.subs]
    · simp only [entN, entStep, getD_set]; have := ih.n0 j; have := ih.n0 (en es k).node.toNat; split <;> omega
    · simp only [entN, entStep, getD_set]; have := ih.n1 j; have := ih.n1 (en es k).node.toNat; rw [hB]; split <;> omega
    · simp only [entN, entStep]; have h1 := ih.s0 j; have h2 := ih.s0 i
      cases isS ns (en es k).node 2 with
      | false => exact h1
      | true => simp only [cond_true, getD_set]; split <;> omega
    · simp only [entN, entStep]; have h1 := ih.s1 j; have h2 := ih.s1 i; rw [hB]
      cases isS ns (en es k).node 2 with
      | false => simp only [cond_false]; omega
      | true => simp only [cond_true, getD_set]; split <;> omega
theorem chkN_ok {ns : List Node} (hW : NodesWf ns) (m : Nat) : StOk ns.length (140737488355328 * m) (chkN ns m) := by
  induction m with
  | zero =>
    have : ∀ j, (List.replicate ns.length (0 : Int)).getD j 0 = 0 := by
      intro j; rw [List.getD_eq_getElem?_getD, List.getElem?_replicate]; split <;> rfl
    exact ⟨by simp [chkN], by simp [chkN], by simp [chkN], fun j => by simp only [chkN, this]; omega, fun j => by simp only [chkN, this]; omega, fun j => by simp only [chkN, this]; omega, fun j => by simp only [chkN, this]; omega⟩
  | succ m ih =>
    have h := entN_ok (ns := ns) (i := lvi ns m) (es := (lvn ns m).list) ih (lvn ns m).list.length
    have hl := (hW.node (lvi ns m)).list
    have hB : (140737488355328 * m + ((lvn ns m).list.length : Nat) : Int) ≤ 140737488355328 * (m + 1 : Nat) := by
      have : (lvn ns m).list.length ≤ 140737488355328 := hl
      omega
    exact ⟨h.named, h.subs, h.home, h.n0, fun j => Int.le_trans (h.n1 j) hB, h.s0, fun j => Int.le_trans (h.s1 j) hB⟩
theorem entN_subs_t {ns : List Node} {i : Nat} {es : List Entry} {st : St} {k : Nat} (h : isS ns (en es k).node 2 = true) : (entN ns i es st (k + 1)).subs = (entN ns i es st k).subs.set i ((entN ns i es st k).subs.getD i 0 + 1) := by simp only [entN, entStep, h, cond_true]
theorem entN_subs_f {ns : List Node} {i : Nat} {es : List Entry} {st : St} {k : Nat} (h : isS ns (en es k).node 2 = false) : (entN ns i es st (k + 1)).subs = (entN ns i es st k).subs := by simp only [entN, entStep, h, cond_false]
noncomputable def bad1 (ns : List Node) (tgen : Int) (m : Nat) : Bool :=
  (((((decide (tgen ≤ (lvn ns m).gen) || decide (1 < (look (gensN ns (m + 1)) (lvn ns m).gen).getD 0)) || decide (4095 < (lvn ns m).mode)) || !decide ((lvn ns m).rn < 1000000000)) || !decide ((lvn ns m).wn < 1000000000)) || !decide ((lvn ns m).tn < 1000000000)) ||
    (decide ((lvn ns m).kind = 2) && !entriesS ns (lvn ns m))
def nameN (ns : List Node) (m : Nat) : Int := (chkN ns (liv ns).length).named.getD (lvi ns m) 0
def subsN (ns : List Node) (m : Nat) : Int := (chkN ns (liv ns).length).subs.getD (lvi ns m) 0
def homeN (ns : List Node) (m : Nat) : Int := (chkN ns (liv ns).length).home.getD (lvi ns m) 0
def bad2 (ns : List Node) (m : Nat) : Bool :=
  cond (decide ((lvn ns m).kind = 2))
    (!decide ((lvn ns m).links = 2 + subsN ns m) || (decide (1 < ((lvi ns m : Nat) : Int)) && ((!decide (nameN ns m = 1) || !decide (homeN ns m = (lvn ns m).parent)) || !withinS ns ((lvi ns m : Nat) : Int) 1)))
    ((!decide ((lvn ns m).links = nameN ns m) || decide (nameN ns m < 1)) || decide (200 < nameN ns m))
def preBad (ns : List Node) : Bool :=
  ((((decide ((ns.length : Int) < 2) || decide (1025 < (ns.length : Int))) || !decide ((nd ns 0).kind = 0)) || !isS ns 1 2) || !decide ((nd ns 1).parent = 1)) || !thereS ns ((ns.length : Int) - 1)
noncomputable def checkS (ns : List Node) (tgen : Int) : Bool :=
  cond (preBad ns) false (cond (anyBad ns) false (((List.range (liv ns).length).all fun m => !bad1 ns tgen m) && ((List.range (liv ns).length).all fun m => !bad2 ns m)))
theorem checkS_1 {ns : List Node} {tgen : Int} (h : ∃ m, m < (liv ns).length ∧ bad1 ns tgen m = true) : checkS ns tgen = false := by
  obtain ⟨m, h1, h2⟩ := h
  have : (List.range (liv ns).length).all (fun m => !bad1 ns tgen m) = false := List.all_eq_false.2 ⟨m, List.mem_range.2 h1, by simp [h2]⟩
  unfold checkS; rw [this]; cases preBad ns <;> cases anyBad ns <;> rfl
theorem checkS_2 {ns : List Node} {tgen : Int} (h : ∃ m, m < (liv ns).length ∧ bad2 ns m = true) : checkS ns tgen = false := by
  obtain ⟨m, h1, h2⟩ := h
  have : (List.range (liv ns).length).all (fun m => !bad2 ns m) = false := List.all_eq_false.2 ⟨m, List.mem_range.2 h1, by simp [h2]⟩
  unfold checkS; rw [this]; cases preBad ns <;> cases anyBad ns <;> simp
theorem checkS_t {ns : List Node} {tgen : Int} (h1 : preBad ns = false) (h2 : anyBad ns = false) (h3 : ∀ m, m < (liv ns).length → bad1 ns tgen m = false) (h4 : ∀ m, m < (liv ns).length → bad2 ns m = false) : checkS ns tgen = true := by
  have e1 : (List.range (liv ns).length).all (fun m => !bad1 ns tgen m) = true := List.all_eq_true.2 fun m hm => by simp [h3 m (List.mem_range.1 hm)]
  have e2 : (List.range (liv ns).length).all (fun m => !bad2 ns m) = true := List.all_eq_true.2 fun m hm => by simp [h4 m (List.mem_range.1 hm)]
  unfold checkS; rw [h1, h2, e1, e2]; rfl
/-- entries lead to nodes -/
theorem ent_there {ns : List Node} {tgen : Int} {m k : Nat} (h1 : anyBad ns = false) (hm : m < (liv ns).length) (h2 : bad1 ns tgen m = false) (hk : k < (lvn ns m).list.length) : thereS ns (en (lvn ns m).list k).node = true := by
  have ho : onlyS (lvn ns m) = true := by
    have := List.any_eq_false.1 h1 (lvi ns m) (List.mem_range.2 (liv_get hm).1)
    simpa [lvn] using this
  have hk0 : ¬ ((lvn ns m).list.length : Int) = 0 := by omega
  have hl : listS (lvn ns m) = false := by unfold listS; rw [decide_eq_false hk0]; rfl
  have hkind : (lvn ns m).kind = 2 := by
    unfold onlyS at ho
    rw [hl] at ho
    by_cases e0 : (lvn ns m).kind = 0
    · simp [e0] at ho
    · by_cases e1 : (lvn ns m).kind = 1
      · simp [e1] at ho
      · by_cases e5 : (lvn ns m).kind = 5
        · simp [e5] at ho
        · simp [e0, e1, e5] at ho; exact ho.1.1
  have he : entriesS ns (lvn ns m) = true := by
    unfold bad1 at h2
    have := (or_f h2).2
    simpa [hkind] using this
  have hb : badE ns (lvn ns m) k = false := by
    cases hb : badE ns (lvn ns m) k with
    | false => rfl
    | true => rw [entriesS_bad hk hb] at he; cases he
  have := (or_f hb).2
  simpa using this

def val_f15 (ns : List Node) (id : Nat → Nat) : Nat → Value
  | 0 => .map (some (id 0))
  | 1 => .int .i64 (ns.length : Int)
  | 2 => .slice (some ⟨id 2, 0, none⟩) ns.length ns.length
  | 3 => .int .i64 (ns.length : Int)
  | 4 => .slice (some ⟨id 4, 0, none⟩) ns.length ns.length
  | 5 => .int .i64 (ns.length : Int)
  | 6 => .slice (some ⟨id 6, 0, none⟩) ns.length ns.length
  | 7 => .pointer (some ⟨id 7, 0, none⟩)
  | 8 => .pointer (some ⟨id 8, 0, none⟩)
  | 9 => .pointer (some ⟨id 9, 0, none⟩)
  | 10 => .pointer (some ⟨id 10, 0, none⟩)
  | 11 => undef
  | 12 => undef
  | 13 => undef
  | 14 => undef
  | _ => undef
def sig_f15 (ns : List Node) (done : Nat → Bool) (id : Nat → Nat) : Nat → Item
  | 0 => cond (done 0) (mapItem (intKey .u32) (id 0) []) noItem
  | 1 => noItem
  | 2 => cond (done 2) (own 3 1 (some ⟨id 2, 0, none⟩) ns.length ns.length (List.replicate ns.length (.int .i64 0))) noItem
  | 3 => noItem
  | 4 => cond (done 4) (own 3 1 (some ⟨id 4, 0, none⟩) ns.length ns.length (List.replicate ns.length (.int .i64 0))) noItem
  | 5 => noItem
  | 6 => cond (done 6) (own 3 1 (some ⟨id 6, 0, none⟩) ns.length ns.length (List.replicate ns.length (.int .i64 0))) noItem
  | 7 => cond (done 7) (blk (id 7) (.cells #[cond (done 11) (.map (some (id 0))) (.map none)] 123 (0, 0))) noItem
  | 8 => cond (done 8) (blk (id 8) (.cells #[cond (done 12) (.slice (some ⟨id 2, 0, none⟩) ns.length ns.length) (.slice none 0 0)] 124 (0, 0))) noItem
  | 9 => cond (done 9) (blk (id 9) (.cells #[cond (done 13) (.slice (some ⟨id 4, 0, none⟩) ns.length ns.length) (.slice none 0 0)] 124 (0, 0))) noItem
  | 10 => cond (done 10) (blk (id 10) (.cells #[cond (done 14) (.slice (some ⟨id 6, 0, none⟩) ns.length ns.length) (.slice none 0 0)] 124 (0, 0))) noItem
  | 11 => noItem
  | 12 => noItem
  | 13 => noItem
  | 14 => noItem
  | _ => noItem

set_option maxHeartbeats 8000000 in
theorem Check_calls {p : Option Addr} {ns : List Node} {cap : Nat} {gen : Int} {w : World} (hT : NodesAt (Low w) w p ns) (hW : NodesWf ns) :
    Calls Try.prog 15 #[.agg #[.slice p ns.length cap, .int .u32 gen]] w (Ret w (.bool (checkS ns gen))) := by
  refine calls_ofM (args := [_]) [base w (Low w)] Try.func15 (by kernel_rfl) (by kernel_rfl) (Heap.start w) ?_
  intro Q hQ
  have hlen := hW.len
  refine ev_seq (by kernel_rfl) ?_
  refine ev_region (n := 2) (by kernel_rfl) ?_
  refine rg_box (d := 1) (t := 25) (x := .tmp 0) (g := none) (by kernel_rfl) (by kernel_rfl) rfl ?_
  intro b1
  refine rg_alloc (d := 2) (t := 4) (g := none) (v := .bool false) (by kernel_rfl) (by kernel_rfl) (by kernel_rfl) ?_
  intro b2
  refine Rg.fin rfl ?_
  refine at_codeS [0, 1, 2] [(1, _), (2, _)] [blk b2 (.cells #[.bool false] 4 (0, 0)), blk b1 (.cells #[.slice p ns.length cap, .int .u32 gen] 25 (0, 0)), base w (Low w)] (.cons rfl (.cons rfl (.nil _))) rfl (by decide) (fun _ _ h => h) ?_
  refine ev_seq (by kernel_rfl) ?_
  refine ev_region (n := 4) (by kernel_rfl) ?_
  refine Rg.pure (d := 15) (op := .fieldAddr 25 (.tmp 1) 0) (g := none) (v := .pointer (some ⟨b1, 0 + 0, none⟩)) (by kernel_rfl) (by kernel_rfl) (pv_fieldAddr rfl (n := 0) (by kernel_rfl)) ?_
  refine Rg.pure (d := 16) (op := .load 22 (.tmp 15)) (g := none) (v := .slice p ns.length cap) (by kernel_rfl) (by kernel_rfl) (pv_load_blk 1 rfl rfl (by kernel_rfl) rfl) ?_
  refine Rg.pure (d := 17) (op := .call { callee := .builtin .len, args := #[.tmp 16], argTypes := #[22] }) (g := none) (v := .int .i64 (ns.length : Int)) (by kernel_rfl) (by kernel_rfl) (pv_len_slice rfl (by kernel_rfl)) ?_
  refine Rg.pure (d := 3) (op := .assign (.tmp 17)) (g := none) (v := .int .i64 (ns.length : Int)) (by kernel_rfl) (by kernel_rfl) (pv_assign rfl) ?_
  refine Rg.fin rfl ?_
  refine at_codeS [0, 1, 2] [(1, _), (2, _), (3, _)] [blk b2 (.cells #[.bool false] 4 (0, 0)), blk b1 (.cells #[.slice p ns.length cap, .int .u32 gen] 25 (0, 0)), base w (Low w)] (.cons rfl (.cons rfl (.cons rfl (.nil _)))) rfl (by decide) (fun _ _ h => h) ?_
  refine ev_seq (by kernel_rfl) ?_
  refine ev_seq (by kernel_rfl) ?_
  refine ev_region (n := 34) (by kernel_rfl) ?_
  refine Rg.pure (d := 18) (op := .move (.tmp 3)) (g := none) (v := .int .i64 (ns.length : Int)) (by kernel_rfl) (by kernel_rfl) (pv_move rfl) ?_
  refine Rg.pure (d := 19) (op := .binOp .lss 3 (.tmp 18) (.const (.int .i64 2)) 3) (g := none) (v := .bool (decide ((ns.length : Int) < 2))) (by kernel_rfl) (by kernel_rfl) (pv_lss rfl rfl) ?_
  refine Rg.pure (d := 20) (op := .move (.tmp 19)) (g := none) (v := .bool (decide ((ns.length : Int) < 2))) (by kernel_rfl) (by kernel_rfl) (pv_move rfl) ?_
  refine Rg.split 6 [(23, .bool ((decide ((ns.length : Int) < 2)) || (decide (1025 < (ns.length : Int))))), (1, .pointer (some ⟨b1, 0, none⟩)), (2, .pointer (some ⟨b2, 0, none⟩)), (3, .int .i64 (ns.length : Int))] [blk b2 (.cells #[.bool false] 4 (0, 0)), blk b1 (.cells #[.slice p ns.length cap, .int .u32 gen] 25 (0, 0)), base w (Low w)] (s := 20) (g := decide ((ns.length : Int) < 2)) rfl (by decide) (fun h1 => ?_) (fun h1 => ?_) ?_
  ·
    refine Rg.skips 5 (by kernel_rfl) ?_
    refine Rg.pure (d := 23) (op := .pick (.tmp 20) (.const (.bool true)) (.tmp 22)) (g := none) (v := .bool true) (by kernel_rfl) (by kernel_rfl) (pv_pick_t rfl rfl) ?_
    refine Rg.fin rfl (At.mid [0, 1, 2] (.cons (or_of_t h1 rfl) (.cons (rfl) (.cons (rfl) (.cons (rfl) (.nil _))))) rfl (by decide))
  ·
    have h2 := of_decide_eq_false h1
    refine Rg.pure (d := 21) (op := .move (.tmp 3)) (g := some (2, false)) (v := .int .i64 (ns.length : Int)) (by kernel_rfl) (by kernel_rfl) (pv_move rfl) ?_
    refine Rg.pure (d := 22) (op := .binOp .gtr 3 (.tmp 21) (.const (.int .i64 1025)) 3) (g := some (2, false)) (v := .bool (decide (1025 < (ns.length : Int)))) (by kernel_rfl) (by kernel_rfl) (pv_gtr rfl rfl) ?_
    refine Rg.pure (d := 23) (op := .pick (.tmp 20) (.const (.bool true)) (.tmp 22)) (g := none) (v := .bool (decide (1025 < (ns.length : Int)))) (by kernel_rfl) (by kernel_rfl) (pv_pick_f rfl rfl) ?_
    refine Rg.fin rfl (At.mid [0, 1, 2] (.cons (or_of_f h1 rfl) (.cons (rfl) (.cons (rfl) (.cons (rfl) (.nil _))))) rfl (by decide))
  refine Rg.pure (d := 24) (op := .move (.tmp 23)) (g := none) (v := .bool ((decide ((ns.length : Int) < 2)) || (decide (1025 < (ns.length : Int))))) (by kernel_rfl) (by kernel_rfl) (pv_move rfl) ?_
  refine Rg.split 14 [(31, .bool (((decide ((ns.length : Int) < 2)) || (decide (1025 < (ns.length : Int)))) || (!(decide (((nd ns 0).kind) = 0))))), (1, .pointer (some ⟨b1, 0, none⟩)), (2, .pointer (some ⟨b2, 0, none⟩)), (3, .int .i64 (ns.length : Int))] [blk b2 (.cells #[.bool false] 4 (0, 0)), blk b1 (.cells #[.slice p ns.length cap, .int .u32 gen] 25 (0, 0)), base w (Low w)] (s := 24) (g := (decide ((ns.length : Int) < 2)) || (decide (1025 < (ns.length : Int)))) rfl (by decide) (fun h3 => ?_) (fun h3 => ?_) ?_
  ·
    refine Rg.skips 13 (by kernel_rfl) ?_
    refine Rg.pure (d := 31) (op := .pick (.tmp 24) (.const (.bool true)) (.tmp 30)) (g := none) (v := .bool true) (by kernel_rfl) (by kernel_rfl) (pv_pick_t rfl rfl) ?_
    refine Rg.fin rfl (At.mid [0, 1, 2] (.cons (or_of_t h3 rfl) (.cons (rfl) (.cons (rfl) (.cons (rfl) (.nil _))))) rfl (by decide))
  ·
    have ⟨h4, h5⟩ := or_f h3
    have h6 := of_decide_eq_false h4
    have h7 := of_decide_eq_false h5
    refine Rg.pure (d := 25) (op := .fieldAddr 25 (.tmp 1) 0) (g := some (6, false)) (v := .pointer (some ⟨b1, 0 + 0, none⟩)) (by kernel_rfl) (by kernel_rfl) (pv_fieldAddr rfl (n := 0) (by kernel_rfl)) ?_
    refine Rg.pure (d := 26) (op := .load 22 (.tmp 25)) (g := some (6, false)) (v := .slice p ns.length cap) (by kernel_rfl) (by kernel_rfl) (pv_load_blk 1 rfl rfl (by kernel_rfl) rfl) ?_
    have ⟨q3, o4, hp5⟩ := hT.rows.adr (by omega)
    refine Rg.pure (d := 27) (op := .indexAddr 22 (.tmp 26) (.const (.int .i64 0))) (g := some (6, false)) (v := .pointer (some ⟨q3, o4 + ((0 : Int)).toNat * 25, none⟩)) (by kernel_rfl) (by kernel_rfl) (pv_indexAddr' rfl hp5 rfl (e := 44) (sz := 25) (by kernel_rfl) (by omega) (by omega)) ?_
    refine Rg.pure (d := 28) (op := .fieldAddr 44 (.tmp 27) 0) (g := some (6, false)) (v := .pointer (some ⟨q3, o4 + ((0 : Int)).toNat * 25 + 0, none⟩)) (by kernel_rfl) (by kernel_rfl) (pv_fieldAddr rfl (n := 0) (by kernel_rfl)) ?_
    refine Rg.pure (d := 29) (op := .load 33 (.tmp 28)) (g := some (6, false)) (v := .int .u32 ((nd ns 0).kind)) (by kernel_rfl) (by kernel_rfl) (pv_load rfl (by kernel_rfl) (fun w hw => ((hT).keep (hw.at_ 2 rfl) (fun _ h => h)).rows.cell _ _ hp5 _ (by omega) 0 (by decide))) ?_
    refine Rg.pure (d := 30) (op := .binOp .neq 33 (.tmp 29) (.const (.int .u32 0)) 33) (g := some (6, false)) (v := .bool (!(decide (((nd ns 0).kind) = 0)))) (by kernel_rfl) (by kernel_rfl) (pv_neq rfl rfl) ?_
    refine Rg.pure (d := 31) (op := .pick (.tmp 24) (.const (.bool true)) (.tmp 30)) (g := none) (v := .bool (!(decide (((nd ns 0).kind) = 0)))) (by kernel_rfl) (by kernel_rfl) (pv_pick_f rfl rfl) ?_
    refine Rg.fin rfl (At.mid [0, 1, 2] (.cons (or_of_f h3 rfl) (.cons (rfl) (.cons (rfl) (.cons (rfl) (.nil _))))) rfl (by decide))
  refine Rg.pure (d := 32) (op := .move (.tmp 31)) (g := none) (v := .bool (((decide ((ns.length : Int) < 2)) || (decide (1025 < (ns.length : Int)))) || (!(decide (((nd ns 0).kind) = 0))))) (by kernel_rfl) (by kernel_rfl) (pv_move rfl) ?_
  refine Rg.split 19 [(36, .bool ((((decide ((ns.length : Int) < 2)) || (decide (1025 < (ns.length : Int)))) || (!(decide (((nd ns 0).kind) = 0)))) || (!(isS ns 1 2)))), (1, .pointer (some ⟨b1, 0, none⟩)), (2, .pointer (some ⟨b2, 0, none⟩)), (3, .int .i64 (ns.length : Int))] [blk b2 (.cells #[.bool false] 4 (0, 0)), blk b1 (.cells #[.slice p ns.length cap, .int .u32 gen] 25 (0, 0)), base w (Low w)] (s := 32) (g := ((decide ((ns.length : Int) < 2)) || (decide (1025 < (ns.length : Int)))) || (!(decide (((nd ns 0).kind) = 0)))) rfl (by decide) (fun h8 => ?_) (fun h8 => ?_) ?_
  ·
    refine Rg.skips 18 (by kernel_rfl) ?_
    refine Rg.pure (d := 36) (op := .pick (.tmp 32) (.const (.bool true)) (.tmp 35)) (g := none) (v := .bool true) (by kernel_rfl) (by kernel_rfl) (pv_pick_t rfl rfl) ?_
    refine Rg.fin rfl (At.mid [0, 1, 2] (.cons (or_of_t h8 rfl) (.cons (rfl) (.cons (rfl) (.cons (rfl) (.nil _))))) rfl (by decide))
  ·
    have ⟨h9, h10⟩ := or_f h8
    have ⟨h11, h12⟩ := or_f h9
    have h13 := of_decide_eq_false h11
    have h14 := of_decide_eq_false h12
    have h15 := not_f h10
    have h16 := of_decide_eq_true h15
    refine Rg.pure (d := 33) (op := .load 25 (.tmp 1)) (g := some (14, false)) (v := .agg #[.slice p ns.length cap, .int .u32 gen]) (by kernel_rfl) (by kernel_rfl) (pv_load_blk_whole 1 rfl rfl (by kernel_rfl) (by kernel_rfl)) ?_
    refine rg_call (d := some 34) (f := 53) (xs := #[.tmp 33, .const (.int .i64 1), .const (.int .u32 2)]) (ts := #[25, 3, 33]) (g := some (14, false)) (v := .bool (isS ns 1 2)) (by kernel_rfl) (by kernel_rfl) (by kernel_rfl) rfl (fun w hw => is_calls ((hT).keep (hw.at_ 2 rfl) (fun k hk => hw.lt 2 rfl hk))) ?_
    refine Rg.pure (d := 35) (op := .unOp .not 4 (.tmp 34)) (g := some (14, false)) (v := .bool (!(isS ns 1 2))) (by kernel_rfl) (by kernel_rfl) (pv_not (b := isS ns 1 2) rfl) ?_
    refine Rg.pure (d := 36) (op := .pick (.tmp 32) (.const (.bool true)) (.tmp 35)) (g := none) (v := .bool (!(isS ns 1 2))) (by kernel_rfl) (by kernel_rfl) (pv_pick_f rfl rfl) ?_
    refine Rg.fin rfl (At.mid [0, 1, 2] (.cons (or_of_f h8 rfl) (.cons (rfl) (.cons (rfl) (.cons (rfl) (.nil _))))) rfl (by decide))
  refine Rg.pure (d := 37) (op := .move (.tmp 36)) (g := none) (v := .bool ((((decide ((ns.length : Int) < 2)) || (decide (1025 < (ns.length : Int)))) || (!(decide (((nd ns 0).kind) = 0)))) || (!(isS ns 1 2)))) (by kernel_rfl) (by kernel_rfl) (pv_move rfl) ?_
  refine Rg.split 27 [(44, .bool (((((decide ((ns.length : Int) < 2)) || (decide (1025 < (ns.length : Int)))) || (!(decide (((nd ns 0).kind) = 0)))) || (!(isS ns 1 2))) || (!(decide (((nd ns 1).parent) = 1))))), (1, .pointer (some ⟨b1, 0, none⟩)), (2, .pointer (some ⟨b2, 0, none⟩)), (3, .int .i64 (ns.length : Int))] [blk b2 (.cells #[.bool false] 4 (0, 0)), blk b1 (.cells #[.slice p ns.length cap, .int .u32 gen] 25 (0, 0)), base w (Low w)] (s := 37) (g := (((decide ((ns.length : Int) < 2)) || (decide (1025 < (ns.length : Int)))) || (!(decide (((nd ns 0).kind) = 0)))) || (!(isS ns 1 2))) rfl (by decide) (fun h17 => ?_) (fun h17 => ?_) ?_
  ·
    refine Rg.skips 26 (by kernel_rfl) ?_
    refine Rg.pure (d := 44) (op := .pick (.tmp 37) (.const (.bool true)) (.tmp 43)) (g := none) (v := .bool true) (by kernel_rfl) (by kernel_rfl) (pv_pick_t rfl rfl) ?_
    refine Rg.fin rfl (At.mid [0, 1, 2] (.cons (or_of_t h17 rfl) (.cons (rfl) (.cons (rfl) (.cons (rfl) (.nil _))))) rfl (by decide))
  ·
    have ⟨h18, h19⟩ := or_f h17
    have ⟨h20, h21⟩ := or_f h18
    have ⟨h22, h23⟩ := or_f h20
    have h24 := of_decide_eq_false h22
    have h25 := of_decide_eq_false h23
    have h26 := not_f h21
    have h27 := of_decide_eq_true h26
    have h28 := not_f h19
    have ⟨h29, h30, h31, h32⟩ := isS_t h28
    refine Rg.pure (d := 38) (op := .fieldAddr 25 (.tmp 1) 0) (g := some (19, false)) (v := .pointer (some ⟨b1, 0 + 0, none⟩)) (by kernel_rfl) (by kernel_rfl) (pv_fieldAddr rfl (n := 0) (by kernel_rfl)) ?_
    refine Rg.pure (d := 39) (op := .load 22 (.tmp 38)) (g := some (19, false)) (v := .slice p ns.length cap) (by kernel_rfl) (by kernel_rfl) (pv_load_blk 1 rfl rfl (by kernel_rfl) rfl) ?_
    have ⟨q6, o7, hp8⟩ := hT.rows.adr (by omega)
    refine Rg.pure (d := 40) (op := .indexAddr 22 (.tmp 39) (.const (.int .i64 1))) (g := some (19, false)) (v := .pointer (some ⟨q6, o7 + ((1 : Int)).toNat * 25, none⟩)) (by kernel_rfl) (by kernel_rfl) (pv_indexAddr' rfl hp8 rfl (e := 44) (sz := 25) (by kernel_rfl) (by omega) (by omega)) ?_
    refine Rg.pure (d := 41) (op := .fieldAddr 44 (.tmp 40) 13) (g := some (19, false)) (v := .pointer (some ⟨q6, o7 + ((1 : Int)).toNat * 25 + 23, none⟩)) (by kernel_rfl) (by kernel_rfl) (pv_fieldAddr rfl (n := 23) (by kernel_rfl)) ?_
    refine Rg.pure (d := 42) (op := .load 3 (.tmp 41)) (g := some (19, false)) (v := .int .i64 ((nd ns 1).parent)) (by kernel_rfl) (by kernel_rfl) (pv_load rfl (by kernel_rfl) (fun w hw => ((hT).keep (hw.at_ 2 rfl) (fun _ h => h)).rows.cell _ _ hp8 _ (by omega) 23 (by decide))) ?_
    refine Rg.pure (d := 43) (op := .binOp .neq 3 (.tmp 42) (.const (.int .i64 1)) 3) (g := some (19, false)) (v := .bool (!(decide (((nd ns 1).parent) = 1)))) (by kernel_rfl) (by kernel_rfl) (pv_neq rfl rfl) ?_
    refine Rg.pure (d := 44) (op := .pick (.tmp 37) (.const (.bool true)) (.tmp 43)) (g := none) (v := .bool (!(decide (((nd ns 1).parent) = 1)))) (by kernel_rfl) (by kernel_rfl) (pv_pick_f rfl rfl) ?_
    refine Rg.fin rfl (At.mid [0, 1, 2] (.cons (or_of_f h17 rfl) (.cons (rfl) (.cons (rfl) (.cons (rfl) (.nil _))))) rfl (by decide))
  refine Rg.pure (d := 45) (op := .move (.tmp 44)) (g := none) (v := .bool (((((decide ((ns.length : Int) < 2)) || (decide (1025 < (ns.length : Int)))) || (!(decide (((nd ns 0).kind) = 0)))) || (!(isS ns 1 2))) || (!(decide (((nd ns 1).parent) = 1))))) (by kernel_rfl) (by kernel_rfl) (pv_move rfl) ?_
  refine Rg.split 34 [(51, .bool ((((((decide ((ns.length : Int) < 2)) || (decide (1025 < (ns.length : Int)))) || (!(decide (((nd ns 0).kind) = 0)))) || (!(isS ns 1 2))) || (!(decide (((nd ns 1).parent) = 1)))) || (!(thereS ns ((ns.length : Int) - 1))))), (1, .pointer (some ⟨b1, 0, none⟩)), (2, .pointer (some ⟨b2, 0, none⟩)), (3, .int .i64 (ns.length : Int))] [blk b2 (.cells #[.bool false] 4 (0, 0)), blk b1 (.cells #[.slice p ns.length cap, .int .u32 gen] 25 (0, 0)), base w (Low w)] (s := 45) (g := ((((decide ((ns.length : Int) < 2)) || (decide (1025 < (ns.length : Int)))) || (!(decide (((nd ns 0).kind) = 0)))) || (!(isS ns 1 2))) || (!(decide (((nd ns 1).parent) = 1)))) rfl (by decide) (fun h33 => ?_) (fun h33 => ?_) ?_
  ·
    refine Rg.skips 33 (by kernel_rfl) ?_
    refine Rg.pure (d := 51) (op := .pick (.tmp 45) (.const (.bool true)) (.tmp 50)) (g := none) (v := .bool true) (by kernel_rfl) (by kernel_rfl) (pv_pick_t rfl rfl) ?_
    refine Rg.fin rfl (At.mid [0, 1, 2] (.cons (or_of_t h33 rfl) (.cons (rfl) (.cons (rfl) (.cons (rfl) (.nil _))))) rfl (by decide))
  ·
    have ⟨h34, h35⟩ := or_f h33
    have ⟨h36, h37⟩ := or_f h34
    have ⟨h38, h39⟩ := or_f h36
    have ⟨h40, h41⟩ := or_f h38
    have h42 := of_decide_eq_false h40
    have h43 := of_decide_eq_false h41
    have h44 := not_f h39
    have h45 := of_decide_eq_true h44
    have h46 := not_f h37
    have ⟨h47, h48, h49, h50⟩ := isS_t h46
    have h51 := not_f h35
    have h52 := of_decide_eq_true h51
    refine Rg.pure (d := 46) (op := .load 25 (.tmp 1)) (g := some (27, false)) (v := .agg #[.slice p ns.length cap, .int .u32 gen]) (by kernel_rfl) (by kernel_rfl) (pv_load_blk_whole 1 rfl rfl (by kernel_rfl) (by kernel_rfl)) ?_
    refine Rg.pure (d := 47) (op := .move (.tmp 3)) (g := some (27, false)) (v := .int .i64 (ns.length : Int)) (by kernel_rfl) (by kernel_rfl) (pv_move rfl) ?_
    refine Rg.pure (d := 48) (op := .binOp .sub 3 (.tmp 47) (.const (.int .i64 1)) 3) (g := some (27, false)) (v := .int .i64 ((ns.length : Int) - 1)) (by kernel_rfl) (by kernel_rfl) (pv_subb rfl rfl (in_i64 (by omega) (by omega))) ?_
    refine rg_call (d := some 49) (f := 54) (xs := #[.tmp 46, .tmp 48]) (ts := #[25, 3]) (g := some (27, false)) (v := .bool (thereS ns ((ns.length : Int) - 1))) (by kernel_rfl) (by kernel_rfl) (by kernel_rfl) rfl (fun w hw => there_calls ((hT).keep (hw.at_ 2 rfl) (fun k hk => hw.lt 2 rfl hk))) ?_
    refine Rg.pure (d := 50) (op := .unOp .not 4 (.tmp 49)) (g := some (27, false)) (v := .bool (!(thereS ns ((ns.length : Int) - 1)))) (by kernel_rfl) (by kernel_rfl) (pv_not (b := thereS ns ((ns.length : Int) - 1)) rfl) ?_
    refine Rg.pure (d := 51) (op := .pick (.tmp 45) (.const (.bool true)) (.tmp 50)) (g := none) (v := .bool (!(thereS ns ((ns.length : Int) - 1)))) (by kernel_rfl) (by kernel_rfl) (pv_pick_f rfl rfl) ?_
    refine Rg.fin rfl (At.mid [0, 1, 2] (.cons (or_of_f h33 rfl) (.cons (rfl) (.cons (rfl) (.cons (rfl) (.nil _))))) rfl (by decide))
  refine Rg.fin rfl ?_
  refine at_codeS [0, 1, 2] [(1, _), (2, _), (3, _), (51, _)] [blk b2 (.cells #[.bool false] 4 (0, 0)), blk b1 (.cells #[.slice p ns.length cap, .int .u32 gen] 25 (0, 0)), base w (Low w)] (.cons rfl (.cons rfl (.cons rfl (.cons rfl (.nil _))))) rfl (by decide) (fun _ _ h => h) ?_
  refine ev_cond (t := 51) (by kernel_rfl) rfl (fun h53 => ?_) (fun h53 => ?_)
  ·
    refine ev_seq (by kernel_rfl) ?_
    refine ev_region (n := 1) (by kernel_rfl) ?_
    refine rg_store (t := 4) (x := .tmp 2) (y := .const (.bool false)) (g := none) (cs' := #[.bool false]) 0 (by kernel_rfl) (by kernel_rfl) rfl rfl rfl (by kernel_rfl) (Nat.le_of_ble_eq_true (by kernel_rfl)) (by kernel_rfl) (by kernel_rfl) ?_
    refine Rg.fin rfl ?_
    refine at_codeS [0, 1, 2] [(1, _), (2, _), (3, _)] [blk b2 (.cells #[.bool false] 4 (0, 0)), blk b1 (.cells #[.slice p ns.length cap, .int .u32 gen] 25 (0, 0)), base w (Low w)] (.cons rfl (.cons rfl (.cons rfl (.nil _)))) rfl (by decide) (fun _ _ h => h) ?_
    refine ev_ret (by kernel_rfl) ?_
    refine At.via (Q := Q) hQ ?_
    refine At.leave ?_
    refine LeaveAt.one rfl (reads_cell 0 rfl rfl (by kernel_rfl) rfl) ?_
    exact fun w hw => ⟨(by unfold checkS; rw [show preBad ns = true from h53]; rfl), hw.base_below 2 rfl⟩
  ·
    have ⟨h54, h55⟩ := or_f h53
    have ⟨h56, h57⟩ := or_f h54
    have ⟨h58, h59⟩ := or_f h56
    have ⟨h60, h61⟩ := or_f h58
    have ⟨h62, h63⟩ := or_f h60
    have h64 := of_decide_eq_false h62
    have h65 := of_decide_eq_false h63
    have h66 := not_f h61
    have h67 := of_decide_eq_true h66
    have h68 := not_f h59
    have ⟨h69, h70, h71, h72⟩ := isS_t h68
    have h73 := not_f h57
    have h74 := of_decide_eq_true h73
    have h75 := not_f h55
    have ⟨h76, h77, h78⟩ := thereS_t h75
    have hpre_ : preBad ns = false := h53
    refine ev_skip (by kernel_rfl) ?_
    refine at_codeS [0, 1, 2] [(1, _), (2, _), (3, _)] [blk b2 (.cells #[.bool false] 4 (0, 0)), blk b1 (.cells #[.slice p ns.length cap, .int .u32 gen] 25 (0, 0)), base w (Low w)] (.cons rfl (.cons rfl (.cons rfl (.nil _)))) rfl (by decide) (fun _ _ h => h) ?_
    refine ev_seq (by kernel_rfl) ?_
    refine ev_seq (by kernel_rfl) ?_
    refine ev_region (n := 3) (by kernel_rfl) ?_
    refine Rg.pure (d := 52) (op := .fieldAddr 25 (.tmp 1) 0) (g := none) (v := .pointer (some ⟨b1, 0 + 0, none⟩)) (by kernel_rfl) (by kernel_rfl) (pv_fieldAddr rfl (n := 0) (by kernel_rfl)) ?_
    refine Rg.pure (d := 53) (op := .load 22 (.tmp 52)) (g := none) (v := .slice p ns.length cap) (by kernel_rfl) (by kernel_rfl) (pv_load_blk 1 rfl rfl (by kernel_rfl) rfl) ?_
    refine rg_call (d := some 54) (f := 55) (xs := #[.tmp 53, .func 56]) (ts := #[22, 122]) (g := none) (v := .bool (anyBad ns)) (by kernel_rfl) (by kernel_rfl) (by kernel_rfl) rfl (fun w hw => containsFunc_calls ((hT).keep (hw.at_ 2 rfl) (fun k hk => hw.lt 2 rfl hk)) hW) ?_
    refine Rg.fin rfl ?_
    refine at_codeS [0, 1, 2] [(1, _), (2, _), (3, _), (54, _)] [blk b2 (.cells #[.bool false] 4 (0, 0)), blk b1 (.cells #[.slice p ns.length cap, .int .u32 gen] 25 (0, 0)), base w (Low w)] (.cons rfl (.cons rfl (.cons rfl (.cons rfl (.nil _))))) rfl (by decide) (fun _ _ h => h) ?_
    refine ev_cond (t := 54) (by kernel_rfl) rfl (fun h79 => ?_) (fun h79 => ?_)
    ·
      refine ev_seq (by kernel_rfl) ?_
      refine ev_region (n := 1) (by kernel_rfl) ?_
      refine rg_store (t := 4) (x := .tmp 2) (y := .const (.bool false)) (g := none) (cs' := #[.bool false]) 0 (by kernel_rfl) (by kernel_rfl) rfl rfl rfl (by kernel_rfl) (Nat.le_of_ble_eq_true (by kernel_rfl)) (by kernel_rfl) (by kernel_rfl) ?_
      refine Rg.fin rfl ?_
      refine at_codeS [0, 1, 2] [(1, _), (2, _), (3, _)] [blk b2 (.cells #[.bool false] 4 (0, 0)), blk b1 (.cells #[.slice p ns.length cap, .int .u32 gen] 25 (0, 0)), base w (Low w)] (.cons rfl (.cons rfl (.cons rfl (.nil _)))) rfl (by decide) (fun _ _ h => h) ?_
      refine ev_ret (by kernel_rfl) ?_
      refine At.via (Q := Q) hQ ?_
      refine At.leave ?_
      refine LeaveAt.one rfl (reads_cell 0 rfl rfl (by kernel_rfl) rfl) ?_
      exact fun w hw => ⟨(by unfold checkS; rw [hpre_, show anyBad ns = true from h79]; rfl), hw.base_below 2 rfl⟩
    ·
      have hbad_ : anyBad ns = false := h79
      refine ev_skip (by kernel_rfl) ?_
      refine at_codeS [0, 1, 2] [(1, _), (2, _), (3, _)] [blk b2 (.cells #[.bool false] 4 (0, 0)), blk b1 (.cells #[.slice p ns.length cap, .int .u32 gen] 25 (0, 0)), base w (Low w)] (.cons rfl (.cons rfl (.cons rfl (.nil _)))) rfl (by decide) (fun _ _ h => h) ?_
      refine ev_seq (by kernel_rfl) ?_
      refine ev_drawD (n := 15) (val_f15 ns) (sig_f15 ns) (by kernel_rfl) (by kernel_rfl) (fun id j hj => by obtain rfl | rfl | rfl | rfl | rfl | rfl | rfl | rfl | rfl | rfl | rfl | rfl | rfl | rfl | rfl : j = 0 ∨ j = 1 ∨ j = 2 ∨ j = 3 ∨ j = 4 ∨ j = 5 ∨ j = 6 ∨ j = 7 ∨ j = 8 ∨ j = 9 ∨ j = 10 ∨ j = 11 ∨ j = 12 ∨ j = 13 ∨ j = 14 := (by omega) <;> rfl) ?_ ?_
      · intro i hi done hnd hdeps hdown
        obtain rfl | rfl | rfl | rfl | rfl | rfl | rfl | rfl | rfl | rfl | rfl | rfl | rfl | rfl | rfl : i = 0 ∨ i = 1 ∨ i = 2 ∨ i = 3 ∨ i = 4 ∨ i = 5 ∨ i = 6 ∨ i = 7 ∨ i = 8 ∨ i = 9 ∨ i = 10 ∨ i = 11 ∨ i = 12 ∨ i = 13 ∨ i = 14 := (by omega)
        · have hs11 : done 11 = false := dep_of hdown hnd (by kernel_rfl); exact dstep_make (d := 55) (op := .makeMap 123 none) (.map #[] 0) (by kernel_rfl) hi (by kernel_rfl) rfl (low_of (by kernel_rfl)) hdeps (fun id b a w o ha ho hb => by subst hb; exact exec_makeMap ho) (fun id => by simp [sig_f15, hnd]) (fun id b k h => by simpa [sig_f15, updB, updN, mapItem] using h) (fun id w => ⟨#[], 0, by simp [sig_f15, updB, updN], rfl⟩) (fun id b j hj hne => by obtain rfl | rfl | rfl | rfl | rfl | rfl | rfl | rfl | rfl | rfl | rfl | rfl | rfl | rfl | rfl : j = 0 ∨ j = 1 ∨ j = 2 ∨ j = 3 ∨ j = 4 ∨ j = 5 ∨ j = 6 ∨ j = 7 ∨ j = 8 ∨ j = 9 ∨ j = 10 ∨ j = 11 ∨ j = 12 ∨ j = 13 ∨ j = 14 := (by omega) <;> first | exact absurd rfl hne | rfl | simp [sig_f15, updB, updN, hs11]) (fun id b j hj hd => by obtain rfl | rfl | rfl | rfl | rfl | rfl | rfl | rfl | rfl | rfl | rfl | rfl | rfl | rfl | rfl : j = 0 ∨ j = 1 ∨ j = 2 ∨ j = 3 ∨ j = 4 ∨ j = 5 ∨ j = 6 ∨ j = 7 ∨ j = 8 ∨ j = 9 ∨ j = 10 ∨ j = 11 ∨ j = 12 ∨ j = 13 ∨ j = 14 := (by omega) <;> first | rfl | (rw [hnd] at hd; cases hd))
        · exact dstep_pure (d := 56) (op := .move (.tmp 3)) (by kernel_rfl) hi (by kernel_rfl) rfl (low_of (by kernel_rfl)) hdeps (fun id => (pv_move (by kernel_rfl))) (fun id j hj => by obtain rfl | rfl | rfl | rfl | rfl | rfl | rfl | rfl | rfl | rfl | rfl | rfl | rfl | rfl | rfl : j = 0 ∨ j = 1 ∨ j = 2 ∨ j = 3 ∨ j = 4 ∨ j = 5 ∨ j = 6 ∨ j = 7 ∨ j = 8 ∨ j = 9 ∨ j = 10 ∨ j = 11 ∨ j = 12 ∨ j = 13 ∨ j = 14 := (by omega) <;> rfl)
        · have hs12 : done 12 = false := dep_of hdown hnd (by kernel_rfl); exact dstep_make (d := 57) (op := .makeSlice 124 (.tmp 56) (.tmp 56)) (.cells (List.replicate ns.length (.int .i64 0)).toArray 3 (0, 0)) (by kernel_rfl) hi (by kernel_rfl) rfl (low_of (by kernel_rfl)) hdeps (fun id b a w o ha ho hb => by subst hb; exact exec_makeSlice (L := (ns.length : Int)) ho (ha.eval (by kernel_rfl)) (ha.eval (by kernel_rfl)) (e := 3) (sz := 1) (by kernel_rfl) (zv := .int .i64 0) (by kernel_rfl) rfl rfl (by omega) (by omega) (by show bytesT Try.prog 3 ≤ 65536; rw [show bytesT Try.prog 3 = 8 from by kernel_rfl]; omega)) (fun id => by simp [sig_f15, hnd]) (fun id b k h => by have h2 : (some (⟨b, 0, none⟩ : Addr)) = some ⟨k, 0, none⟩ := h; simp only [Option.some.injEq, Addr.mk.injEq, and_true] at h2; exact h2.symm) (fun id w => .inr ⟨w.heap.size, [], rfl, by simp, by simp, by simp⟩) (fun id b j hj hne => by obtain rfl | rfl | rfl | rfl | rfl | rfl | rfl | rfl | rfl | rfl | rfl | rfl | rfl | rfl | rfl : j = 0 ∨ j = 1 ∨ j = 2 ∨ j = 3 ∨ j = 4 ∨ j = 5 ∨ j = 6 ∨ j = 7 ∨ j = 8 ∨ j = 9 ∨ j = 10 ∨ j = 11 ∨ j = 12 ∨ j = 13 ∨ j = 14 := (by omega) <;> first | exact absurd rfl hne | rfl | simp [sig_f15, updB, updN, hs12]) (fun id b j hj hd => by obtain rfl | rfl | rfl | rfl | rfl | rfl | rfl | rfl | rfl | rfl | rfl | rfl | rfl | rfl | rfl : j = 0 ∨ j = 1 ∨ j = 2 ∨ j = 3 ∨ j = 4 ∨ j = 5 ∨ j = 6 ∨ j = 7 ∨ j = 8 ∨ j = 9 ∨ j = 10 ∨ j = 11 ∨ j = 12 ∨ j = 13 ∨ j = 14 := (by omega) <;> first | rfl | (rw [hnd] at hd; cases hd))
        · exact dstep_pure (d := 58) (op := .move (.tmp 3)) (by kernel_rfl) hi (by kernel_rfl) rfl (low_of (by kernel_rfl)) hdeps (fun id => (pv_move (by kernel_rfl))) (fun id j hj => by obtain rfl | rfl | rfl | rfl | rfl | rfl | rfl | rfl | rfl | rfl | rfl | rfl | rfl | rfl | rfl : j = 0 ∨ j = 1 ∨ j = 2 ∨ j = 3 ∨ j = 4 ∨ j = 5 ∨ j = 6 ∨ j = 7 ∨ j = 8 ∨ j = 9 ∨ j = 10 ∨ j = 11 ∨ j = 12 ∨ j = 13 ∨ j = 14 := (by omega) <;> rfl)
        · have hs13 : done 13 = false := dep_of hdown hnd (by kernel_rfl); exact dstep_make (d := 59) (op := .makeSlice 124 (.tmp 58) (.tmp 58)) (.cells (List.replicate ns.length (.int .i64 0)).toArray 3 (0, 0)) (by kernel_rfl) hi (by kernel_rfl) rfl (low_of (by kernel_rfl)) hdeps (fun id b a w o ha ho hb => by subst hb; exact exec_makeSlice (L := (ns.length : Int)) ho (ha.eval (by kernel_rfl)) (ha.eval (by kernel_rfl)) (e := 3) (sz := 1) (by kernel_rfl) (zv := .int .i64 0) (by kernel_rfl) rfl rfl (by omega) (by omega) (by show bytesT Try.prog 3 ≤ 65536; rw [show bytesT Try.prog 3 = 8 from by kernel_rfl]; omega)) (fun id => by simp [sig_f15, hnd]) (fun id b k h => by have h2 : (some (⟨b, 0, none⟩ : Addr)) = some ⟨k, 0, none⟩ := h; simp only [Option.some.injEq, Addr.mk.injEq, and_true] at h2; exact h2.symm) (fun id w => .inr ⟨w.heap.size, [], rfl, by simp, by simp, by simp⟩) (fun id b j hj hne => by obtain rfl | rfl | rfl | rfl | rfl | rfl | rfl | rfl | rfl | rfl | rfl | rfl | rfl | rfl | rfl : j = 0 ∨ j = 1 ∨ j = 2 ∨ j = 3 ∨ j = 4 ∨ j = 5 ∨ j = 6 ∨ j = 7 ∨ j = 8 ∨ j = 9 ∨ j = 10 ∨ j = 11 ∨ j = 12 ∨ j = 13 ∨ j = 14 := (by omega) <;> first | exact absurd rfl hne | rfl | simp [sig_f15, updB, updN, hs13]) (fun id b j hj hd => by obtain rfl | rfl | rfl | rfl | rfl | rfl | rfl | rfl | rfl | rfl | rfl | rfl | rfl | rfl | rfl : j = 0 ∨ j = 1 ∨ j = 2 ∨ j = 3 ∨ j = 4 ∨ j = 5 ∨ j = 6 ∨ j = 7 ∨ j = 8 ∨ j = 9 ∨ j = 10 ∨ j = 11 ∨ j = 12 ∨ j = 13 ∨ j = 14 := (by omega) <;> first | rfl | (rw [hnd] at hd; cases hd))
        · exact dstep_pure (d := 60) (op := .move (.tmp 3)) (by kernel_rfl) hi (by kernel_rfl) rfl (low_of (by kernel_rfl)) hdeps (fun id => (pv_move (by kernel_rfl))) (fun id j hj => by obtain rfl | rfl | rfl | rfl | rfl | rfl | rfl | rfl | rfl | rfl | rfl | rfl | rfl | rfl | rfl : j = 0 ∨ j = 1 ∨ j = 2 ∨ j = 3 ∨ j = 4 ∨ j = 5 ∨ j = 6 ∨ j = 7 ∨ j = 8 ∨ j = 9 ∨ j = 10 ∨ j = 11 ∨ j = 12 ∨ j = 13 ∨ j = 14 := (by omega) <;> rfl)
        · have hs14 : done 14 = false := dep_of hdown hnd (by kernel_rfl); exact dstep_make (d := 61) (op := .makeSlice 124 (.tmp 60) (.tmp 60)) (.cells (List.replicate ns.length (.int .i64 0)).toArray 3 (0, 0)) (by kernel_rfl) hi (by kernel_rfl) rfl (low_of (by kernel_rfl)) hdeps (fun id b a w o ha ho hb => by subst hb; exact exec_makeSlice (L := (ns.length : Int)) ho (ha.eval (by kernel_rfl)) (ha.eval (by kernel_rfl)) (e := 3) (sz := 1) (by kernel_rfl) (zv := .int .i64 0) (by kernel_rfl) rfl rfl (by omega) (by omega) (by show bytesT Try.prog 3 ≤ 65536; rw [show bytesT Try.prog 3 = 8 from by kernel_rfl]; omega)) (fun id => by simp [sig_f15, hnd]) (fun id b k h => by have h2 : (some (⟨b, 0, none⟩ : Addr)) = some ⟨k, 0, none⟩ := h; simp only [Option.some.injEq, Addr.mk.injEq, and_true] at h2; exact h2.symm) (fun id w => .inr ⟨w.heap.size, [], rfl, by simp, by simp, by simp⟩) (fun id b j hj hne => by obtain rfl | rfl | rfl | rfl | rfl | rfl | rfl | rfl | rfl | rfl | rfl | rfl | rfl | rfl | rfl : j = 0 ∨ j = 1 ∨ j = 2 ∨ j = 3 ∨ j = 4 ∨ j = 5 ∨ j = 6 ∨ j = 7 ∨ j = 8 ∨ j = 9 ∨ j = 10 ∨ j = 11 ∨ j = 12 ∨ j = 13 ∨ j = 14 := (by omega) <;> first | exact absurd rfl hne | rfl | simp [sig_f15, updB, updN, hs14]) (fun id b j hj hd => by obtain rfl | rfl | rfl | rfl | rfl | rfl | rfl | rfl | rfl | rfl | rfl | rfl | rfl | rfl | rfl : j = 0 ∨ j = 1 ∨ j = 2 ∨ j = 3 ∨ j = 4 ∨ j = 5 ∨ j = 6 ∨ j = 7 ∨ j = 8 ∨ j = 9 ∨ j = 10 ∨ j = 11 ∨ j = 12 ∨ j = 13 ∨ j = 14 := (by omega) <;> first | rfl | (rw [hnd] at hd; cases hd))
        · have hq : done 11 = false := dep_of hdown hnd (by kernel_rfl); exact dstep_make (d := 4) (op := .alloc 123) (.cells (.map none : Value).cells 123 (0, 0)) (by kernel_rfl) hi (by kernel_rfl) rfl (low_of (by kernel_rfl)) hdeps (fun id b a w o ha ho hb => by subst hb; exact exec_alloc ho (by kernel_rfl)) (fun id => by simp [sig_f15, hnd]) (fun id b k h => by simpa [sig_f15, updB, updN, blk] using h) (fun id w => by show (w.heap.push _)[w.heap.size]? = _; simp [updB, updN, hq]; try rfl) (fun id b j hj hne => by obtain rfl | rfl | rfl | rfl | rfl | rfl | rfl | rfl | rfl | rfl | rfl | rfl | rfl | rfl | rfl : j = 0 ∨ j = 1 ∨ j = 2 ∨ j = 3 ∨ j = 4 ∨ j = 5 ∨ j = 6 ∨ j = 7 ∨ j = 8 ∨ j = 9 ∨ j = 10 ∨ j = 11 ∨ j = 12 ∨ j = 13 ∨ j = 14 := (by omega) <;> first | exact absurd rfl hne | rfl | simp [sig_f15, updB, updN]) (fun id b j hj hd => by obtain rfl | rfl | rfl | rfl | rfl | rfl | rfl | rfl | rfl | rfl | rfl | rfl | rfl | rfl | rfl : j = 0 ∨ j = 1 ∨ j = 2 ∨ j = 3 ∨ j = 4 ∨ j = 5 ∨ j = 6 ∨ j = 7 ∨ j = 8 ∨ j = 9 ∨ j = 10 ∨ j = 11 ∨ j = 12 ∨ j = 13 ∨ j = 14 := (by omega) <;> first | rfl | (rw [hnd] at hd; cases hd))
        · have hq : done 12 = false := dep_of hdown hnd (by kernel_rfl); exact dstep_make (d := 5) (op := .alloc 124) (.cells (.slice none 0 0 : Value).cells 124 (0, 0)) (by kernel_rfl) hi (by kernel_rfl) rfl (low_of (by kernel_rfl)) hdeps (fun id b a w o ha ho hb => by subst hb; exact exec_alloc ho (by kernel_rfl)) (fun id => by simp [sig_f15, hnd]) (fun id b k h => by simpa [sig_f15, updB, updN, blk] using h) (fun id w => by show (w.heap.push _)[w.heap.size]? = _; simp [updB, updN, hq]; try rfl) (fun id b j hj hne => by obtain rfl | rfl | rfl | rfl | rfl | rfl | rfl | rfl | rfl | rfl | rfl | rfl | rfl | rfl | rfl : j = 0 ∨ j = 1 ∨ j = 2 ∨ j = 3 ∨ j = 4 ∨ j = 5 ∨ j = 6 ∨ j = 7 ∨ j = 8 ∨ j = 9 ∨ j = 10 ∨ j = 11 ∨ j = 12 ∨ j = 13 ∨ j = 14 := (by omega) <;> first | exact absurd rfl hne | rfl | simp [sig_f15, updB, updN]) (fun id b j hj hd => by obtain rfl | rfl | rfl | rfl | rfl | rfl | rfl | rfl | rfl | rfl | rfl | rfl | rfl | rfl | rfl : j = 0 ∨ j = 1 ∨ j = 2 ∨ j = 3 ∨ j = 4 ∨ j = 5 ∨ j = 6 ∨ j = 7 ∨ j = 8 ∨ j = 9 ∨ j = 10 ∨ j = 11 ∨ j = 12 ∨ j = 13 ∨ j = 14 := (by omega) <;> first | rfl | (rw [hnd] at hd; cases hd))
        · have hq : done 13 = false := dep_of hdown hnd (by kernel_rfl); exact dstep_make (d := 6) (op := .alloc 124) (.cells (.slice none 0 0 : Value).cells 124 (0, 0)) (by kernel_rfl) hi (by kernel_rfl) rfl (low_of (by kernel_rfl)) hdeps (fun id b a w o ha ho hb => by subst hb; exact exec_alloc ho (by kernel_rfl)) (fun id => by simp [sig_f15, hnd]) (fun id b k h => by simpa [sig_f15, updB, updN, blk] using h) (fun id w => by show (w.heap.push _)[w.heap.size]? = _; simp [updB, updN, hq]; try rfl) (fun id b j hj hne => by obtain rfl | rfl | rfl | rfl | rfl | rfl | rfl | rfl | rfl | rfl | rfl | rfl | rfl | rfl | rfl : j = 0 ∨ j = 1 ∨ j = 2 ∨ j = 3 ∨ j = 4 ∨ j = 5 ∨ j = 6 ∨ j = 7 ∨ j = 8 ∨ j = 9 ∨ j = 10 ∨ j = 11 ∨ j = 12 ∨ j = 13 ∨ j = 14 := (by omega) <;> first | exact absurd rfl hne | rfl | simp [sig_f15, updB, updN]) (fun id b j hj hd => by obtain rfl | rfl | rfl | rfl | rfl | rfl | rfl | rfl | rfl | rfl | rfl | rfl | rfl | rfl | rfl : j = 0 ∨ j = 1 ∨ j = 2 ∨ j = 3 ∨ j = 4 ∨ j = 5 ∨ j = 6 ∨ j = 7 ∨ j = 8 ∨ j = 9 ∨ j = 10 ∨ j = 11 ∨ j = 12 ∨ j = 13 ∨ j = 14 := (by omega) <;> first | rfl | (rw [hnd] at hd; cases hd))
        · have hq : done 14 = false := dep_of hdown hnd (by kernel_rfl); exact dstep_make (d := 7) (op := .alloc 124) (.cells (.slice none 0 0 : Value).cells 124 (0, 0)) (by kernel_rfl) hi (by kernel_rfl) rfl (low_of (by kernel_rfl)) hdeps (fun id b a w o ha ho hb => by subst hb; exact exec_alloc ho (by kernel_rfl)) (fun id => by simp [sig_f15, hnd]) (fun id b k h => by simpa [sig_f15, updB, updN, blk] using h) (fun id w => by show (w.heap.push _)[w.heap.size]? = _; simp [updB, updN, hq]; try rfl) (fun id b j hj hne => by obtain rfl | rfl | rfl | rfl | rfl | rfl | rfl | rfl | rfl | rfl | rfl | rfl | rfl | rfl | rfl : j = 0 ∨ j = 1 ∨ j = 2 ∨ j = 3 ∨ j = 4 ∨ j = 5 ∨ j = 6 ∨ j = 7 ∨ j = 8 ∨ j = 9 ∨ j = 10 ∨ j = 11 ∨ j = 12 ∨ j = 13 ∨ j = 14 := (by omega) <;> first | exact absurd rfl hne | rfl | simp [sig_f15, updB, updN]) (fun id b j hj hd => by obtain rfl | rfl | rfl | rfl | rfl | rfl | rfl | rfl | rfl | rfl | rfl | rfl | rfl | rfl | rfl : j = 0 ∨ j = 1 ∨ j = 2 ∨ j = 3 ∨ j = 4 ∨ j = 5 ∨ j = 6 ∨ j = 7 ∨ j = 8 ∨ j = 9 ∨ j = 10 ∨ j = 11 ∨ j = 12 ∨ j = 13 ∨ j = 14 := (by omega) <;> first | rfl | (rw [hnd] at hd; cases hd))
        · have hm : done 7 = true := dep_in hdeps (by kernel_rfl)
          exact dstep_store (m := 7) (t := 123) (u := 123) (v0 := 0) (x := .tmp 4) (y := .tmp 55) (bk := fun id => id 7) (cs := fun id => #[.map none]) (cs' := fun id => #[.map (some (id 0))]) (yv := fun id => .map (some (id 0))) (by kernel_rfl) hi (by omega) (by kernel_rfl) (low_of (by kernel_rfl)) hdeps (fun id => by kernel_rfl) (fun id => by kernel_rfl) (fun id => by simp [sig_f15, hm, hnd]) (fun id => by simp [sig_f15, updB, hm]) (fun id j hj hne => by obtain rfl | rfl | rfl | rfl | rfl | rfl | rfl | rfl | rfl | rfl | rfl | rfl | rfl | rfl | rfl : j = 0 ∨ j = 1 ∨ j = 2 ∨ j = 3 ∨ j = 4 ∨ j = 5 ∨ j = 6 ∨ j = 7 ∨ j = 8 ∨ j = 9 ∨ j = 10 ∨ j = 11 ∨ j = 12 ∨ j = 13 ∨ j = 14 := (by omega) <;> first | exact absurd rfl hne | rfl) (fun id => by kernel_rfl) (fun id => Nat.le_of_ble_eq_true (by kernel_rfl)) (fun id => by kernel_rfl) (fun id => by kernel_rfl) rfl
        · have hm : done 8 = true := dep_in hdeps (by kernel_rfl)
          exact dstep_store (m := 8) (t := 124) (u := 124) (v0 := 0) (x := .tmp 5) (y := .tmp 57) (bk := fun id => id 8) (cs := fun id => #[.slice none 0 0]) (cs' := fun id => #[.slice (some ⟨id 2, 0, none⟩) ns.length ns.length]) (yv := fun id => .slice (some ⟨id 2, 0, none⟩) ns.length ns.length) (by kernel_rfl) hi (by omega) (by kernel_rfl) (low_of (by kernel_rfl)) hdeps (fun id => by kernel_rfl) (fun id => by kernel_rfl) (fun id => by simp [sig_f15, hm, hnd]) (fun id => by simp [sig_f15, updB, hm]) (fun id j hj hne => by obtain rfl | rfl | rfl | rfl | rfl | rfl | rfl | rfl | rfl | rfl | rfl | rfl | rfl | rfl | rfl : j = 0 ∨ j = 1 ∨ j = 2 ∨ j = 3 ∨ j = 4 ∨ j = 5 ∨ j = 6 ∨ j = 7 ∨ j = 8 ∨ j = 9 ∨ j = 10 ∨ j = 11 ∨ j = 12 ∨ j = 13 ∨ j = 14 := (by omega) <;> first | exact absurd rfl hne | rfl) (fun id => by kernel_rfl) (fun id => Nat.le_of_ble_eq_true (by kernel_rfl)) (fun id => by kernel_rfl) (fun id => by kernel_rfl) rfl
        · have hm : done 9 = true := dep_in hdeps (by kernel_rfl)
          exact dstep_store (m := 9) (t := 124) (u := 124) (v0 := 0) (x := .tmp 6) (y := .tmp 59) (bk := fun id => id 9) (cs := fun id => #[.slice none 0 0]) (cs' := fun id => #[.slice (some ⟨id 4, 0, none⟩) ns.length ns.length]) (yv := fun id => .slice (some ⟨id 4, 0, none⟩) ns.length ns.length) (by kernel_rfl) hi (by omega) (by kernel_rfl) (low_of (by kernel_rfl)) hdeps (fun id => by kernel_rfl) (fun id => by kernel_rfl) (fun id => by simp [sig_f15, hm, hnd]) (fun id => by simp [sig_f15, updB, hm]) (fun id j hj hne => by obtain rfl | rfl | rfl | rfl | rfl | rfl | rfl | rfl | rfl | rfl | rfl | rfl | rfl | rfl | rfl : j = 0 ∨ j = 1 ∨ j = 2 ∨ j = 3 ∨ j = 4 ∨ j = 5 ∨ j = 6 ∨ j = 7 ∨ j = 8 ∨ j = 9 ∨ j = 10 ∨ j = 11 ∨ j = 12 ∨ j = 13 ∨ j = 14 := (by omega) <;> first | exact absurd rfl hne | rfl) (fun id => by kernel_rfl) (fun id => Nat.le_of_ble_eq_true (by kernel_rfl)) (fun id => by kernel_rfl) (fun id => by kernel_rfl) rfl
        · have hm : done 10 = true := dep_in hdeps (by kernel_rfl)
          exact dstep_store (m := 10) (t := 124) (u := 124) (v0 := 0) (x := .tmp 7) (y := .tmp 61) (bk := fun id => id 10) (cs := fun id => #[.slice none 0 0]) (cs' := fun id => #[.slice (some ⟨id 6, 0, none⟩) ns.length ns.length]) (yv := fun id => .slice (some ⟨id 6, 0, none⟩) ns.length ns.length) (by kernel_rfl) hi (by omega) (by kernel_rfl) (low_of (by kernel_rfl)) hdeps (fun id => by kernel_rfl) (fun id => by kernel_rfl) (fun id => by simp [sig_f15, hm, hnd]) (fun id => by simp [sig_f15, updB, hm]) (fun id j hj hne => by obtain rfl | rfl | rfl | rfl | rfl | rfl | rfl | rfl | rfl | rfl | rfl | rfl | rfl | rfl | rfl : j = 0 ∨ j = 1 ∨ j = 2 ∨ j = 3 ∨ j = 4 ∨ j = 5 ∨ j = 6 ∨ j = 7 ∨ j = 8 ∨ j = 9 ∨ j = 10 ∨ j = 11 ∨ j = 12 ∨ j = 13 ∨ j = 14 := (by omega) <;> first | exact absurd rfl hne | rfl) (fun id => by kernel_rfl) (fun id => Nat.le_of_ble_eq_true (by kernel_rfl)) (fun id => by kernel_rfl) (fun id => by kernel_rfl) rfl
      · intro done id hall
        have e0 := hall 0 (by omega)
        have e1 := hall 1 (by omega)
        have e2 := hall 2 (by omega)
        have e3 := hall 3 (by omega)
        have e4 := hall 4 (by omega)
        have e5 := hall 5 (by omega)
        have e6 := hall 6 (by omega)
        have e7 := hall 7 (by omega)
        have e8 := hall 8 (by omega)
        have e9 := hall 9 (by omega)
        have e10 := hall 10 (by omega)
        have e11 := hall 11 (by omega)
        have e12 := hall 12 (by omega)
        have e13 := hall 13 (by omega)
        have e14 := hall 14 (by omega)
        obtain ⟨r_0, q0⟩ : ∃ b, id 0 = b := ⟨_, rfl⟩
        obtain ⟨z_2, q2⟩ : ∃ b, id 2 = b := ⟨_, rfl⟩
        obtain ⟨z_4, q4⟩ : ∃ b, id 4 = b := ⟨_, rfl⟩
        obtain ⟨z_6, q6⟩ : ∃ b, id 6 = b := ⟨_, rfl⟩
        obtain ⟨b_7, q7⟩ : ∃ b, id 7 = b := ⟨_, rfl⟩
        obtain ⟨b_8, q8⟩ : ∃ b, id 8 = b := ⟨_, rfl⟩
        obtain ⟨b_9, q9⟩ : ∃ b, id 9 = b := ⟨_, rfl⟩
        obtain ⟨b_10, q10⟩ : ∃ b, id 10 = b := ⟨_, rfl⟩
        rw [show (List.range 15).map ((sig_f15 ns) done id) = [mapItem (intKey .u32) r_0 ([] : List (Int × Int)), noItem, own 3 1 (some ⟨z_2, 0, none⟩) ns.length ns.length (List.replicate ns.length (.int .i64 0)), noItem, own 3 1 (some ⟨z_4, 0, none⟩) ns.length ns.length (List.replicate ns.length (.int .i64 0)), noItem, own 3 1 (some ⟨z_6, 0, none⟩) ns.length ns.length (List.replicate ns.length (.int .i64 0)), blk b_7 (.cells #[.map (some r_0)] 123 (0, 0)), blk b_8 (.cells #[.slice (some ⟨z_2, 0, none⟩) ns.length ns.length] 124 (0, 0)), blk b_9 (.cells #[.slice (some ⟨z_4, 0, none⟩) ns.length ns.length] 124 (0, 0)), blk b_10 (.cells #[.slice (some ⟨z_6, 0, none⟩) ns.length ns.length] 124 (0, 0)), noItem, noItem, noItem, noItem] from by (simp only [List.range, List.range.loop, List.map, sig_f15, e0, e1, e2, e3, e4, e5, e6, e7, e8, e9, e10, e11, e12, e13, e14, cond_true, q0, q2, q4, q6, q7, q8, q9, q10]) <;> rfl]
        refine at_codeS [0, 2, 4, 6, 7, 8, 9, 10, 15, 16, 17] [(1, .pointer (some ⟨b1, 0, none⟩)), (2, .pointer (some ⟨b2, 0, none⟩)), (4, .pointer (some ⟨b_7, 0, none⟩)), (5, .pointer (some ⟨b_8, 0, none⟩)), (6, .pointer (some ⟨b_9, 0, none⟩)), (7, .pointer (some ⟨b_10, 0, none⟩))] [mapItem (intKey .u32) r_0 ([] : List (Int × Int)), own 3 1 (some ⟨z_2, 0, none⟩) ns.length ns.length (List.replicate ns.length (.int .i64 0)), own 3 1 (some ⟨z_4, 0, none⟩) ns.length ns.length (List.replicate ns.length (.int .i64 0)), own 3 1 (some ⟨z_6, 0, none⟩) ns.length ns.length (List.replicate ns.length (.int .i64 0)), blk b_7 (.cells #[.map (some r_0)] 123 (0, 0)), blk b_8 (.cells #[.slice (some ⟨z_2, 0, none⟩) ns.length ns.length] 124 (0, 0)), blk b_9 (.cells #[.slice (some ⟨z_4, 0, none⟩) ns.length ns.length] 124 (0, 0)), blk b_10 (.cells #[.slice (some ⟨z_6, 0, none⟩) ns.length ns.length] 124 (0, 0)), blk b2 (.cells #[.bool false] 4 (0, 0)), blk b1 (.cells #[.slice p ns.length cap, .int .u32 gen] 25 (0, 0)), base w (Low w)] (.cons (rfl) (.cons (rfl) (.cons ((by rw [← q7]; kernel_rfl)) (.cons ((by rw [← q8]; kernel_rfl)) (.cons ((by rw [← q9]; kernel_rfl)) (.cons ((by rw [← q10]; kernel_rfl)) (.nil _))))))) rfl (by decide) (fun _ _ h => h) ?_
        refine ev_seq (by kernel_rfl) ?_
        refine ev_seq (by kernel_rfl) ?_
        refine ev_region (n := 2) (by kernel_rfl) ?_
        refine Rg.pure (d := 62) (op := .load 25 (.tmp 1)) (g := none) (v := .agg #[.slice p ns.length cap, .int .u32 gen]) (by kernel_rfl) (by kernel_rfl) (pv_load_blk_whole 9 rfl rfl (by kernel_rfl) (by kernel_rfl)) ?_
        refine rg_callN (T := Nat) (d := some 63) (f := 58) (fo := .func 58) (caps := #[]) (xs := #[.tmp 62]) (ts := #[25]) (g := none) (v := fun b9 => .func (.func 112) #[] #[.pointer (some ⟨b9, 0, none⟩)]) (L := fun b9 => [blk b9 (.cells #[.slice p ns.length cap, .int .u32 gen] 25 (0, 0))]) (by kernel_rfl) (by kernel_rfl) rfl (by kernel_rfl) rfl (fun w hw => living_calls) ?_
        rintro b9 _
        dsimp only [putE, List.append, HAppend.hAppend, Append.append]
        refine Rg.fin rfl ?_
        refine at_codeS [0, 1, 2, 3, 4, 5, 6, 7, 8, 9, 10, 11] [(1, _), (2, _), (4, _), (5, _), (6, _), (7, _), (63, _)] [blk b9 (.cells #[.slice p ns.length cap, .int .u32 gen] 25 (0, 0)), mapItem (intKey .u32) r_0 ([] : List (Int × Int)), own 3 1 (some ⟨z_2, 0, none⟩) ns.length ns.length (List.replicate ns.length (.int .i64 0)), own 3 1 (some ⟨z_4, 0, none⟩) ns.length ns.length (List.replicate ns.length (.int .i64 0)), own 3 1 (some ⟨z_6, 0, none⟩) ns.length ns.length (List.replicate ns.length (.int .i64 0)), blk b_7 (.cells #[.map (some r_0)] 123 (0, 0)), blk b_8 (.cells #[.slice (some ⟨z_2, 0, none⟩) ns.length ns.length] 124 (0, 0)), blk b_9 (.cells #[.slice (some ⟨z_4, 0, none⟩) ns.length ns.length] 124 (0, 0)), blk b_10 (.cells #[.slice (some ⟨z_6, 0, none⟩) ns.length ns.length] 124 (0, 0)), blk b2 (.cells #[.bool false] 4 (0, 0)), blk b1 (.cells #[.slice p ns.length cap, .int .u32 gen] 25 (0, 0)), base w (Low w)] (.cons rfl (.cons rfl (.cons rfl (.cons rfl (.cons rfl (.cons rfl (.cons rfl (.nil _)))))))) rfl (by decide) (fun _ _ h => h) ?_
        refine ev_block (id := 0) (by kernel_rfl) ?_
        refine Ev.addFact (show ∀ m, m < 0 → bad1 ns gen m = false from fun m hm => absurd hm (Nat.not_lt_zero _)) ?_
        refine ev_rangeFunc (T := Unit) (t := 63) (ps := #[64, 65]) (gf := 112) (caps := #[.pointer (some ⟨b9, 0, none⟩)]) (livRows ns) (fun i_ u_ => [own 3 1 (some ⟨z_2, 0, none⟩) ns.length ns.length (iv (chkN ns i_).named), own 3 1 (some ⟨z_4, 0, none⟩) ns.length ns.length (iv (chkN ns i_).subs), own 3 1 (some ⟨z_6, 0, none⟩) ns.length ns.length (iv (chkN ns i_).home), mapItem (intKey .u32) r_0 (gensN ns i_ : List (Int × Int)), blk b_7 (.cells #[.map (some r_0)] 123 (0, 0)), blk b_8 (.cells #[.slice (some ⟨z_2, 0, none⟩) ns.length ns.length] 124 (0, 0)), blk b_9 (.cells #[.slice (some ⟨z_4, 0, none⟩) ns.length ns.length] 124 (0, 0)), blk b_10 (.cells #[.slice (some ⟨z_6, 0, none⟩) ns.length ns.length] 124 (0, 0)), blk b1 (.cells #[.slice p ns.length cap, .int .u32 gen] 25 (0, 0)), blk b2 (.cells #[.bool false] 4 (0, 0)), fact (∀ m, m < i_ → bad1 ns gen m = false)]) (fun i_ u_ => [blk b2 (.cells #[.bool false] 4 (0, 0)), fact (∃ m, m < (liv ns).length ∧ bad1 ns gen m = true)]) (.ret) () [blk b9 (.cells #[.slice p ns.length cap, .int .u32 gen] 25 (0, 0))] [base w (Low w)] (by kernel_rfl) rfl rfl (by kernel_rfl) (by kernel_rfl) (by intro x hx; simp only [livRows, List.mem_map] at hx; obtain ⟨i, _, rfl⟩ := hx; rfl) (fun w hw => (by have h := hw.pick [3, 4, 5, 2, 6, 7, 8, 9, 11, 10, 0, 1, 12] (by decide); rw [← iv_replicate] at h; exact h)) (living1_iter hT hlen) ?_ ?_ ?_
        ·
          intro F l Db0 i_ u_ fr hn
          have hn_ := hn
          rw [show (livRows ns).length = (liv ns).length from livRows_length ns] at hn_
          rw [show (livRows ns).getD i_ [] = [.int .i64 ((lvi ns i_ : Nat) : Int), .agg ((lvn ns i_).cells)] from (livRows_get (by rw [livRows_length] at hn; exact hn))]
          refine Ev.weak (E' := [(1, .pointer (some ⟨b1, 0, none⟩)), (2, .pointer (some ⟨b2, 0, none⟩)), (4, .pointer (some ⟨b_7, 0, none⟩)), (5, .pointer (some ⟨b_8, 0, none⟩)), (6, .pointer (some ⟨b_9, 0, none⟩)), (7, .pointer (some ⟨b_10, 0, none⟩)), (64, .int .i64 ((lvi ns i_ : Nat) : Int)), (65, .agg ((lvn ns i_).cells))]) (S' := [own 3 1 (some ⟨z_2, 0, none⟩) ns.length ns.length (iv (chkN ns i_).named), own 3 1 (some ⟨z_4, 0, none⟩) ns.length ns.length (iv (chkN ns i_).subs), own 3 1 (some ⟨z_6, 0, none⟩) ns.length ns.length (iv (chkN ns i_).home), mapItem (intKey .u32) r_0 (gensN ns i_ : List (Int × Int)), blk b_7 (.cells #[.map (some r_0)] 123 (0, 0)), blk b_8 (.cells #[.slice (some ⟨z_2, 0, none⟩) ns.length ns.length] 124 (0, 0)), blk b_9 (.cells #[.slice (some ⟨z_4, 0, none⟩) ns.length ns.length] 124 (0, 0)), blk b_10 (.cells #[.slice (some ⟨z_6, 0, none⟩) ns.length ns.length] 124 (0, 0)), blk b1 (.cells #[.slice p ns.length cap, .int .u32 gen] 25 (0, 0)), blk b2 (.cells #[.bool false] 4 (0, 0)), fact (∀ m, m < i_ → bad1 ns gen m = false), blk l (.loop (F.rc .ready none)), blk Db0 (.deferred (some [])), fr, base w (Low w)]) [0, 1, 2, 3, 4, 5, 6, 7, 8, 9, 10, 11, 12, 13, 14] (.cons (rfl) (.cons (rfl) (.cons (rfl) (.cons (rfl) (.cons (rfl) (.cons (rfl) (.cons (rfl) (.cons (rfl) (.nil _))))))))) rfl (by decide) ?_
          refine Ev.factAt 10 rfl (fun hno => ?_)
          have hlt_ := liv_get hn_
          have hnd_ := hW.node (lvi ns i_)
          have hck_ := chkN_ok hW i_
          have hlv_ : lvi ns i_ < ns.length := hlt_.1
          have hcap_ := liv_short ns
          have hle_ : (lvn ns i_).list.length ≤ 140737488355328 := hnd_.list
          have hgr_ := gensN_range ns i_ (lvn ns i_).gen
          refine ev_seq (by kernel_rfl) ?_
          refine ev_region (n := 1) (by kernel_rfl) ?_
          refine Rg.pure (d := 8) (op := .assign (.tmp 64)) (g := none) (v := .int .i64 ((lvi ns i_ : Nat) : Int)) (by kernel_rfl) (by kernel_rfl) (pv_assign rfl) ?_
          refine Rg.fin rfl ?_
          refine at_codeS [0, 1, 2, 3, 4, 5, 6, 7, 8, 9, 10, 11, 12, 13, 14] [(1, _), (2, _), (4, _), (5, _), (6, _), (7, _), (8, _), (65, _)] [own 3 1 (some ⟨z_2, 0, none⟩) ns.length ns.length (iv (chkN ns i_).named), own 3 1 (some ⟨z_4, 0, none⟩) ns.length ns.length (iv (chkN ns i_).subs), own 3 1 (some ⟨z_6, 0, none⟩) ns.length ns.length (iv (chkN ns i_).home), mapItem (intKey .u32) r_0 (gensN ns i_ : List (Int × Int)), blk b_7 (.cells #[.map (some r_0)] 123 (0, 0)), blk b_8 (.cells #[.slice (some ⟨z_2, 0, none⟩) ns.length ns.length] 124 (0, 0)), blk b_9 (.cells #[.slice (some ⟨z_4, 0, none⟩) ns.length ns.length] 124 (0, 0)), blk b_10 (.cells #[.slice (some ⟨z_6, 0, none⟩) ns.length ns.length] 124 (0, 0)), blk b1 (.cells #[.slice p ns.length cap, .int .u32 gen] 25 (0, 0)), blk b2 (.cells #[.bool false] 4 (0, 0)), fact (∀ m, m < i_ → bad1 ns gen m = false), blk l (.loop (F.rc .ready none)), blk Db0 (.deferred (some [])), fr, base w (Low w)] (.cons rfl (.cons rfl (.cons rfl (.cons rfl (.cons rfl (.cons rfl (.cons rfl (.cons rfl (.nil _))))))))) rfl (by decide) (fun _ _ h => h) ?_
          refine ev_region (n := 2) (by kernel_rfl) ?_
          refine rg_alloc (d := 9) (t := 44) (g := none) (v := .agg #[.int .u32 0, .int .u32 0, .int .u32 0, .int .u32 0, .int .u32 0, .int .i64 0, .int .u32 0, .int .u32 0, .int .u32 0, .int .u32 0, .int .u32 0, .int .u32 0, .slice none 0 0, .int .u8 0, .int .u8 0, .int .u8 0, .int .u8 0, .int .u8 0, .int .u8 0, .int .u8 0, .int .u8 0, .string ⟨#[]⟩, .slice none 0 0, .int .i64 0, .int .u64 0]) (by kernel_rfl) (by kernel_rfl) (by kernel_rfl) ?_
          intro b10
          refine rg_store (t := 44) (x := .tmp 9) (y := .tmp 65) (g := none) (cs' := (lvn ns i_).cells) 0 (by kernel_rfl) (by kernel_rfl) rfl rfl rfl (by kernel_rfl) (Nat.le_of_ble_eq_true (by kernel_rfl)) (by kernel_rfl) (by kernel_rfl) ?_
          refine Rg.fin rfl ?_
          refine at_beginQ (E' := [(1, .pointer (some ⟨b1, 0, none⟩)), (2, .pointer (some ⟨b2, 0, none⟩)), (4, .pointer (some ⟨b_7, 0, none⟩)), (5, .pointer (some ⟨b_8, 0, none⟩)), (6, .pointer (some ⟨b_9, 0, none⟩)), (7, .pointer (some ⟨b_10, 0, none⟩)), (8, .int .i64 ((lvi ns i_ : Nat) : Int)), (9, .pointer (some ⟨b10, 0, none⟩))]) 12 [0, 1, 2, 3, 4, 5, 6, 7, 8, 9, 10, 11, 12, 13, 14, 15] rfl rfl (.cons (rfl) (.cons (rfl) (.cons (rfl) (.cons (rfl) (.cons (rfl) (.cons (rfl) (.cons (rfl) (.cons (rfl) (.nil _))))))))) (by decide) ?_
          intro Qr hQr
          refine ev_block (id := 1) (by kernel_rfl) ?_
          refine ev_seq (by kernel_rfl) ?_
          refine ev_region (n := 6) (by kernel_rfl) ?_
          refine Rg.pure (d := 66) (op := .load 123 (.tmp 4)) (g := none) (v := .map (some r_0)) (by kernel_rfl) (by kernel_rfl) (pv_load_blk 5 rfl rfl (by kernel_rfl) rfl) ?_
          refine Rg.pure (d := 67) (op := .fieldAddr 44 (.tmp 9) 1) (g := none) (v := .pointer (some ⟨b10, 0 + 1, none⟩)) (by kernel_rfl) (by kernel_rfl) (pv_fieldAddr rfl (n := 1) (by kernel_rfl)) ?_
          refine Rg.pure (d := 68) (op := .load 23 (.tmp 67)) (g := none) (v := .int .u32 ((lvn ns i_).gen)) (by kernel_rfl) (by kernel_rfl) (pv_load_blk 0 rfl rfl (by kernel_rfl) rfl) ?_
          refine Rg.pure (d := 69) (op := .lookup 123 (.tmp 66) (.tmp 68) false) (g := none) (v := .int .i64 ((look (gensN ns i_ : List (Int × Int)) ((lvn ns i_).gen)).getD 0)) (by kernel_rfl) (by kernel_rfl) (pv_lookup (kt := 23) (et := 3) (intKey .u32) 4 rfl rfl (by kernel_rfl) (by kernel_rfl) (by kernel_rfl) rfl) ?_
          refine Rg.pure (d := 70) (op := .binOp .add 3 (.tmp 69) (.const (.int .i64 1)) 3) (g := none) (v := .int .i64 (((look (gensN ns i_ : List (Int × Int)) ((lvn ns i_).gen)).getD 0) + 1)) (by kernel_rfl) (by kernel_rfl) (pv_addb rfl rfl (in_i64 (by omega) (by omega))) ?_
          refine rg_mapUpdate (t := 123) (x := .tmp 66) (y := .tmp 68) (z := .tmp 70) (kt := 23) (et := 3) (g := none) (intKey .u32) 4 (by kernel_rfl) (by kernel_rfl) rfl rfl rfl (by kernel_rfl) (by kernel_rfl) rfl ?_
          refine Rg.fin rfl ?_
          refine at_codeS [0, 1, 2, 3, 4, 5, 6, 7, 8, 9, 10, 11, 12, 13, 14, 15] [(1, _), (2, _), (4, _), (5, _), (6, _), (7, _), (8, _), (9, _)] [blk b10 (.cells ((lvn ns i_).cells) 44 (0, 0)), own 3 1 (some ⟨z_2, 0, none⟩) ns.length ns.length (iv (chkN ns i_).named), own 3 1 (some ⟨z_4, 0, none⟩) ns.length ns.length (iv (chkN ns i_).subs), own 3 1 (some ⟨z_6, 0, none⟩) ns.length ns.length (iv (chkN ns i_).home), mapItem (intKey .u32) r_0 (upd (gensN ns i_) ((lvn ns i_).gen) (((look (gensN ns i_ : List (Int × Int)) ((lvn ns i_).gen)).getD 0) + 1) : List (Int × Int)), blk b_7 (.cells #[.map (some r_0)] 123 (0, 0)), blk b_8 (.cells #[.slice (some ⟨z_2, 0, none⟩) ns.length ns.length] 124 (0, 0)), blk b_9 (.cells #[.slice (some ⟨z_4, 0, none⟩) ns.length ns.length] 124 (0, 0)), blk b_10 (.cells #[.slice (some ⟨z_6, 0, none⟩) ns.length ns.length] 124 (0, 0)), blk b1 (.cells #[.slice p ns.length cap, .int .u32 gen] 25 (0, 0)), blk b2 (.cells #[.bool false] 4 (0, 0)), fact (∀ m, m < i_ → bad1 ns gen m = false), blk l (.loop (F.rc .busy none)), blk Db0 (.deferred (some [])), fr, base w (Low w)] (.cons rfl (.cons rfl (.cons rfl (.cons rfl (.cons rfl (.cons rfl (.cons rfl (.cons rfl (.nil _))))))))) rfl (by decide) (fun _ _ h => h) ?_
          refine ev_seq (by kernel_rfl) ?_
          refine ev_seq (by kernel_rfl) ?_
          refine ev_region (n := 46) (by kernel_rfl) ?_
          refine Rg.pure (d := 71) (op := .fieldAddr 44 (.tmp 9) 1) (g := none) (v := .pointer (some ⟨b10, 0 + 1, none⟩)) (by kernel_rfl) (by kernel_rfl) (pv_fieldAddr rfl (n := 1) (by kernel_rfl)) ?_
          refine Rg.pure (d := 72) (op := .load 23 (.tmp 71)) (g := none) (v := .int .u32 ((lvn ns i_).gen)) (by kernel_rfl) (by kernel_rfl) (pv_load_blk 0 rfl rfl (by kernel_rfl) rfl) ?_
          refine Rg.pure (d := 73) (op := .fieldAddr 25 (.tmp 1) 1) (g := none) (v := .pointer (some ⟨b1, 0 + 1, none⟩)) (by kernel_rfl) (by kernel_rfl) (pv_fieldAddr rfl (n := 1) (by kernel_rfl)) ?_
          refine Rg.pure (d := 74) (op := .load 23 (.tmp 73)) (g := none) (v := .int .u32 gen) (by kernel_rfl) (by kernel_rfl) (pv_load_blk 9 rfl rfl (by kernel_rfl) rfl) ?_
          refine Rg.pure (d := 75) (op := .binOp .geq 23 (.tmp 72) (.tmp 74) 23) (g := none) (v := .bool (decide (gen ≤ ((lvn ns i_).gen)))) (by kernel_rfl) (by kernel_rfl) (pv_geq rfl rfl) ?_
          refine Rg.pure (d := 76) (op := .move (.tmp 75)) (g := none) (v := .bool (decide (gen ≤ ((lvn ns i_).gen)))) (by kernel_rfl) (by kernel_rfl) (pv_move rfl) ?_
          refine Rg.split 12 [(82, .bool ((decide (gen ≤ ((lvn ns i_).gen))) || (decide (1 < ((look (upd (gensN ns i_) ((lvn ns i_).gen) (((look (gensN ns i_ : List (Int × Int)) ((lvn ns i_).gen)).getD 0) + 1) : List (Int × Int)) ((lvn ns i_).gen)).getD 0))))), (1, .pointer (some ⟨b1, 0, none⟩)), (2, .pointer (some ⟨b2, 0, none⟩)), (5, .pointer (some ⟨b_8, 0, none⟩)), (6, .pointer (some ⟨b_9, 0, none⟩)), (7, .pointer (some ⟨b_10, 0, none⟩)), (8, .int .i64 ((lvi ns i_ : Nat) : Int)), (9, .pointer (some ⟨b10, 0, none⟩))] [blk b10 (.cells ((lvn ns i_).cells) 44 (0, 0)), own 3 1 (some ⟨z_2, 0, none⟩) ns.length ns.length (iv (chkN ns i_).named), own 3 1 (some ⟨z_4, 0, none⟩) ns.length ns.length (iv (chkN ns i_).subs), own 3 1 (some ⟨z_6, 0, none⟩) ns.length ns.length (iv (chkN ns i_).home), mapItem (intKey .u32) r_0 (upd (gensN ns i_) ((lvn ns i_).gen) (((look (gensN ns i_ : List (Int × Int)) ((lvn ns i_).gen)).getD 0) + 1) : List (Int × Int)), blk b_7 (.cells #[.map (some r_0)] 123 (0, 0)), blk b_8 (.cells #[.slice (some ⟨z_2, 0, none⟩) ns.length ns.length] 124 (0, 0)), blk b_9 (.cells #[.slice (some ⟨z_4, 0, none⟩) ns.length ns.length] 124 (0, 0)), blk b_10 (.cells #[.slice (some ⟨z_6, 0, none⟩) ns.length ns.length] 124 (0, 0)), blk b1 (.cells #[.slice p ns.length cap, .int .u32 gen] 25 (0, 0)), blk b2 (.cells #[.bool false] 4 (0, 0)), fact (∀ m, m < i_ → bad1 ns gen m = false), blk l (.loop (F.rc .busy none)), blk Db0 (.deferred (some [])), fr, base w (Low w)] (s := 76) (g := decide (gen ≤ ((lvn ns i_).gen))) rfl (by decide) (fun h80 => ?_) (fun h80 => ?_) ?_
          ·
            refine Rg.skips 11 (by kernel_rfl) ?_
            refine Rg.pure (d := 82) (op := .pick (.tmp 76) (.const (.bool true)) (.tmp 81)) (g := none) (v := .bool true) (by kernel_rfl) (by kernel_rfl) (pv_pick_t rfl rfl) ?_
            refine Rg.fin rfl (At.mid [0, 1, 2, 3, 4, 5, 6, 7, 8, 9, 10, 11, 12, 13, 14, 15] (.cons (or_of_t h80 rfl) (.cons (rfl) (.cons (rfl) (.cons (rfl) (.cons (rfl) (.cons (rfl) (.cons (rfl) (.cons (rfl) (.nil _))))))))) rfl (by decide))
          ·
            have h81 := of_decide_eq_false h80
            refine Rg.pure (d := 77) (op := .load 123 (.tmp 4)) (g := some (5, false)) (v := .map (some r_0)) (by kernel_rfl) (by kernel_rfl) (pv_load_blk 5 rfl rfl (by kernel_rfl) rfl) ?_
            refine Rg.pure (d := 78) (op := .fieldAddr 44 (.tmp 9) 1) (g := some (5, false)) (v := .pointer (some ⟨b10, 0 + 1, none⟩)) (by kernel_rfl) (by kernel_rfl) (pv_fieldAddr rfl (n := 1) (by kernel_rfl)) ?_
            refine Rg.pure (d := 79) (op := .load 23 (.tmp 78)) (g := some (5, false)) (v := .int .u32 ((lvn ns i_).gen)) (by kernel_rfl) (by kernel_rfl) (pv_load_blk 0 rfl rfl (by kernel_rfl) rfl) ?_
            refine Rg.pure (d := 80) (op := .lookup 123 (.tmp 77) (.tmp 79) false) (g := some (5, false)) (v := .int .i64 ((look (upd (gensN ns i_) ((lvn ns i_).gen) (((look (gensN ns i_ : List (Int × Int)) ((lvn ns i_).gen)).getD 0) + 1) : List (Int × Int)) ((lvn ns i_).gen)).getD 0)) (by kernel_rfl) (by kernel_rfl) (pv_lookup (kt := 23) (et := 3) (intKey .u32) 4 rfl rfl (by kernel_rfl) (by kernel_rfl) (by kernel_rfl) rfl) ?_
            refine Rg.pure (d := 81) (op := .binOp .gtr 3 (.tmp 80) (.const (.int .i64 1)) 3) (g := some (5, false)) (v := .bool (decide (1 < ((look (upd (gensN ns i_) ((lvn ns i_).gen) (((look (gensN ns i_ : List (Int × Int)) ((lvn ns i_).gen)).getD 0) + 1) : List (Int × Int)) ((lvn ns i_).gen)).getD 0)))) (by kernel_rfl) (by kernel_rfl) (pv_gtr rfl rfl) ?_
            refine Rg.pure (d := 82) (op := .pick (.tmp 76) (.const (.bool true)) (.tmp 81)) (g := none) (v := .bool (decide (1 < ((look (upd (gensN ns i_) ((lvn ns i_).gen) (((look (gensN ns i_ : List (Int × Int)) ((lvn ns i_).gen)).getD 0) + 1) : List (Int × Int)) ((lvn ns i_).gen)).getD 0)))) (by kernel_rfl) (by kernel_rfl) (pv_pick_f rfl rfl) ?_
            refine Rg.fin rfl (At.mid [0, 1, 2, 3, 4, 5, 6, 7, 8, 9, 10, 11, 12, 13, 14, 15] (.cons (or_of_f h80 rfl) (.cons (rfl) (.cons (rfl) (.cons (rfl) (.cons (rfl) (.cons (rfl) (.cons (rfl) (.cons (rfl) (.nil _))))))))) rfl (by decide))
          refine Rg.pure (d := 83) (op := .move (.tmp 82)) (g := none) (v := .bool ((decide (gen ≤ ((lvn ns i_).gen))) || (decide (1 < ((look (upd (gensN ns i_) ((lvn ns i_).gen) (((look (gensN ns i_ : List (Int × Int)) ((lvn ns i_).gen)).getD 0) + 1) : List (Int × Int)) ((lvn ns i_).gen)).getD 0))))) (by kernel_rfl) (by kernel_rfl) (pv_move rfl) ?_
          refine Rg.split 17 [(87, .bool (((decide (gen ≤ ((lvn ns i_).gen))) || (decide (1 < ((look (upd (gensN ns i_) ((lvn ns i_).gen) (((look (gensN ns i_ : List (Int × Int)) ((lvn ns i_).gen)).getD 0) + 1) : List (Int × Int)) ((lvn ns i_).gen)).getD 0)))) || (decide (4095 < ((lvn ns i_).mode))))), (1, .pointer (some ⟨b1, 0, none⟩)), (2, .pointer (some ⟨b2, 0, none⟩)), (5, .pointer (some ⟨b_8, 0, none⟩)), (6, .pointer (some ⟨b_9, 0, none⟩)), (7, .pointer (some ⟨b_10, 0, none⟩)), (8, .int .i64 ((lvi ns i_ : Nat) : Int)), (9, .pointer (some ⟨b10, 0, none⟩))] [blk b10 (.cells ((lvn ns i_).cells) 44 (0, 0)), own 3 1 (some ⟨z_2, 0, none⟩) ns.length ns.length (iv (chkN ns i_).named), own 3 1 (some ⟨z_4, 0, none⟩) ns.length ns.length (iv (chkN ns i_).subs), own 3 1 (some ⟨z_6, 0, none⟩) ns.length ns.length (iv (chkN ns i_).home), mapItem (intKey .u32) r_0 (upd (gensN ns i_) ((lvn ns i_).gen) (((look (gensN ns i_ : List (Int × Int)) ((lvn ns i_).gen)).getD 0) + 1) : List (Int × Int)), blk b_7 (.cells #[.map (some r_0)] 123 (0, 0)), blk b_8 (.cells #[.slice (some ⟨z_2, 0, none⟩) ns.length ns.length] 124 (0, 0)), blk b_9 (.cells #[.slice (some ⟨z_4, 0, none⟩) ns.length ns.length] 124 (0, 0)), blk b_10 (.cells #[.slice (some ⟨z_6, 0, none⟩) ns.length ns.length] 124 (0, 0)), blk b1 (.cells #[.slice p ns.length cap, .int .u32 gen] 25 (0, 0)), blk b2 (.cells #[.bool false] 4 (0, 0)), fact (∀ m, m < i_ → bad1 ns gen m = false), blk l (.loop (F.rc .busy none)), blk Db0 (.deferred (some [])), fr, base w (Low w)] (s := 83) (g := (decide (gen ≤ ((lvn ns i_).gen))) || (decide (1 < ((look (upd (gensN ns i_) ((lvn ns i_).gen) (((look (gensN ns i_ : List (Int × Int)) ((lvn ns i_).gen)).getD 0) + 1) : List (Int × Int)) ((lvn ns i_).gen)).getD 0)))) rfl (by decide) (fun h82 => ?_) (fun h82 => ?_) ?_
          ·
            refine Rg.skips 16 (by kernel_rfl) ?_
            refine Rg.pure (d := 87) (op := .pick (.tmp 83) (.const (.bool true)) (.tmp 86)) (g := none) (v := .bool true) (by kernel_rfl) (by kernel_rfl) (pv_pick_t rfl rfl) ?_
            refine Rg.fin rfl (At.mid [0, 1, 2, 3, 4, 5, 6, 7, 8, 9, 10, 11, 12, 13, 14, 15] (.cons (or_of_t h82 rfl) (.cons (rfl) (.cons (rfl) (.cons (rfl) (.cons (rfl) (.cons (rfl) (.cons (rfl) (.cons (rfl) (.nil _))))))))) rfl (by decide))
          ·
            have ⟨h83, h84⟩ := or_f h82
            have h85 := of_decide_eq_false h83
            have h86 := of_decide_eq_false h84
            refine Rg.pure (d := 84) (op := .fieldAddr 44 (.tmp 9) 2) (g := some (12, false)) (v := .pointer (some ⟨b10, 0 + 2, none⟩)) (by kernel_rfl) (by kernel_rfl) (pv_fieldAddr rfl (n := 2) (by kernel_rfl)) ?_
            refine Rg.pure (d := 85) (op := .load 23 (.tmp 84)) (g := some (12, false)) (v := .int .u32 ((lvn ns i_).mode)) (by kernel_rfl) (by kernel_rfl) (pv_load_blk 0 rfl rfl (by kernel_rfl) rfl) ?_
            refine Rg.pure (d := 86) (op := .binOp .gtr 23 (.tmp 85) (.const (.int .u32 4095)) 23) (g := some (12, false)) (v := .bool (decide (4095 < ((lvn ns i_).mode)))) (by kernel_rfl) (by kernel_rfl) (pv_gtr rfl rfl) ?_
            refine Rg.pure (d := 87) (op := .pick (.tmp 83) (.const (.bool true)) (.tmp 86)) (g := none) (v := .bool (decide (4095 < ((lvn ns i_).mode)))) (by kernel_rfl) (by kernel_rfl) (pv_pick_f rfl rfl) ?_
            refine Rg.fin rfl (At.mid [0, 1, 2, 3, 4, 5, 6, 7, 8, 9, 10, 11, 12, 13, 14, 15] (.cons (or_of_f h82 rfl) (.cons (rfl) (.cons (rfl) (.cons (rfl) (.cons (rfl) (.cons (rfl) (.cons (rfl) (.cons (rfl) (.nil _))))))))) rfl (by decide))
          refine Rg.pure (d := 88) (op := .move (.tmp 87)) (g := none) (v := .bool (((decide (gen ≤ ((lvn ns i_).gen))) || (decide (1 < ((look (upd (gensN ns i_) ((lvn ns i_).gen) (((look (gensN ns i_ : List (Int × Int)) ((lvn ns i_).gen)).getD 0) + 1) : List (Int × Int)) ((lvn ns i_).gen)).getD 0)))) || (decide (4095 < ((lvn ns i_).mode))))) (by kernel_rfl) (by kernel_rfl) (pv_move rfl) ?_
          refine Rg.split 23 [(93, .bool ((((decide (gen ≤ ((lvn ns i_).gen))) || (decide (1 < ((look (upd (gensN ns i_) ((lvn ns i_).gen) (((look (gensN ns i_ : List (Int × Int)) ((lvn ns i_).gen)).getD 0) + 1) : List (Int × Int)) ((lvn ns i_).gen)).getD 0)))) || (decide (4095 < ((lvn ns i_).mode)))) || (!(decide ((lvn ns i_).rn < 1000000000))))), (1, .pointer (some ⟨b1, 0, none⟩)), (2, .pointer (some ⟨b2, 0, none⟩)), (5, .pointer (some ⟨b_8, 0, none⟩)), (6, .pointer (some ⟨b_9, 0, none⟩)), (7, .pointer (some ⟨b_10, 0, none⟩)), (8, .int .i64 ((lvi ns i_ : Nat) : Int)), (9, .pointer (some ⟨b10, 0, none⟩))] [blk b10 (.cells ((lvn ns i_).cells) 44 (0, 0)), own 3 1 (some ⟨z_2, 0, none⟩) ns.length ns.length (iv (chkN ns i_).named), own 3 1 (some ⟨z_4, 0, none⟩) ns.length ns.length (iv (chkN ns i_).subs), own 3 1 (some ⟨z_6, 0, none⟩) ns.length ns.length (iv (chkN ns i_).home), mapItem (intKey .u32) r_0 (upd (gensN ns i_) ((lvn ns i_).gen) (((look (gensN ns i_ : List (Int × Int)) ((lvn ns i_).gen)).getD 0) + 1) : List (Int × Int)), blk b_7 (.cells #[.map (some r_0)] 123 (0, 0)), blk b_8 (.cells #[.slice (some ⟨z_2, 0, none⟩) ns.length ns.length] 124 (0, 0)), blk b_9 (.cells #[.slice (some ⟨z_4, 0, none⟩) ns.length ns.length] 124 (0, 0)), blk b_10 (.cells #[.slice (some ⟨z_6, 0, none⟩) ns.length ns.length] 124 (0, 0)), blk b1 (.cells #[.slice p ns.length cap, .int .u32 gen] 25 (0, 0)), blk b2 (.cells #[.bool false] 4 (0, 0)), fact (∀ m, m < i_ → bad1 ns gen m = false), blk l (.loop (F.rc .busy none)), blk Db0 (.deferred (some [])), fr, base w (Low w)] (s := 88) (g := ((decide (gen ≤ ((lvn ns i_).gen))) || (decide (1 < ((look (upd (gensN ns i_) ((lvn ns i_).gen) (((look (gensN ns i_ : List (Int × Int)) ((lvn ns i_).gen)).getD 0) + 1) : List (Int × Int)) ((lvn ns i_).gen)).getD 0)))) || (decide (4095 < ((lvn ns i_).mode)))) rfl (by decide) (fun h87 => ?_) (fun h87 => ?_) ?_
          ·
            refine Rg.skips 22 (by kernel_rfl) ?_
            refine Rg.pure (d := 93) (op := .pick (.tmp 88) (.const (.bool true)) (.tmp 92)) (g := none) (v := .bool true) (by kernel_rfl) (by kernel_rfl) (pv_pick_t rfl rfl) ?_
            refine Rg.fin rfl (At.mid [0, 1, 2, 3, 4, 5, 6, 7, 8, 9, 10, 11, 12, 13, 14, 15] (.cons (or_of_t h87 rfl) (.cons (rfl) (.cons (rfl) (.cons (rfl) (.cons (rfl) (.cons (rfl) (.cons (rfl) (.cons (rfl) (.nil _))))))))) rfl (by decide))
          ·
            have ⟨h88, h89⟩ := or_f h87
            have ⟨h90, h91⟩ := or_f h88
            have h92 := of_decide_eq_false h90
            have h93 := of_decide_eq_false h91
            have h94 := of_decide_eq_false h89
            refine Rg.pure (d := 89) (op := .fieldAddr 44 (.tmp 9) 6) (g := some (17, false)) (v := .pointer (some ⟨b10, 0 + 6, none⟩)) (by kernel_rfl) (by kernel_rfl) (pv_fieldAddr rfl (n := 6) (by kernel_rfl)) ?_
            refine Rg.pure (d := 90) (op := .load 36 (.tmp 89)) (g := some (17, false)) (v := .agg #[.int .u32 ((lvn ns i_).rs), .int .u32 ((lvn ns i_).rn)]) (by kernel_rfl) (by kernel_rfl) (pv_load_blk_agg 0 rfl rfl (vs := #[.int .u32 ((lvn ns i_).rs), .int .u32 ((lvn ns i_).rn)]) (by kernel_rfl) (by kernel_rfl) (agg_rfl (by kernel_rfl))) ?_
            refine rg_call (d := some 91) (f := 59) (xs := #[.tmp 90]) (ts := #[36]) (g := some (17, false)) (v := .bool (decide ((lvn ns i_).rn < 1000000000))) (by kernel_rfl) (by kernel_rfl) (by kernel_rfl) rfl (fun w hw => timesCheck_calls) ?_
            refine Rg.pure (d := 92) (op := .unOp .not 4 (.tmp 91)) (g := some (17, false)) (v := .bool (!(decide ((lvn ns i_).rn < 1000000000)))) (by kernel_rfl) (by kernel_rfl) (pv_not (b := decide ((lvn ns i_).rn < 1000000000)) rfl) ?_
            refine Rg.pure (d := 93) (op := .pick (.tmp 88) (.const (.bool true)) (.tmp 92)) (g := none) (v := .bool (!(decide ((lvn ns i_).rn < 1000000000)))) (by kernel_rfl) (by kernel_rfl) (pv_pick_f rfl rfl) ?_
            refine Rg.fin rfl (At.mid [0, 1, 2, 3, 4, 5, 6, 7, 8, 9, 10, 11, 12, 13, 14, 15] (.cons (or_of_f h87 rfl) (.cons (rfl) (.cons (rfl) (.cons (rfl) (.cons (rfl) (.cons (rfl) (.cons (rfl) (.cons (rfl) (.nil _))))))))) rfl (by decide))
          refine Rg.pure (d := 94) (op := .move (.tmp 93)) (g := none) (v := .bool ((((decide (gen ≤ ((lvn ns i_).gen))) || (decide (1 < ((look (upd (gensN ns i_) ((lvn ns i_).gen) (((look (gensN ns i_ : List (Int × Int)) ((lvn ns i_).gen)).getD 0) + 1) : List (Int × Int)) ((lvn ns i_).gen)).getD 0)))) || (decide (4095 < ((lvn ns i_).mode)))) || (!(decide ((lvn ns i_).rn < 1000000000))))) (by kernel_rfl) (by kernel_rfl) (pv_move rfl) ?_
          refine Rg.split 29 [(99, .bool (((((decide (gen ≤ ((lvn ns i_).gen))) || (decide (1 < ((look (upd (gensN ns i_) ((lvn ns i_).gen) (((look (gensN ns i_ : List (Int × Int)) ((lvn ns i_).gen)).getD 0) + 1) : List (Int × Int)) ((lvn ns i_).gen)).getD 0)))) || (decide (4095 < ((lvn ns i_).mode)))) || (!(decide ((lvn ns i_).rn < 1000000000)))) || (!(decide ((lvn ns i_).wn < 1000000000))))), (1, .pointer (some ⟨b1, 0, none⟩)), (2, .pointer (some ⟨b2, 0, none⟩)), (5, .pointer (some ⟨b_8, 0, none⟩)), (6, .pointer (some ⟨b_9, 0, none⟩)), (7, .pointer (some ⟨b_10, 0, none⟩)), (8, .int .i64 ((lvi ns i_ : Nat) : Int)), (9, .pointer (some ⟨b10, 0, none⟩))] [blk b10 (.cells ((lvn ns i_).cells) 44 (0, 0)), own 3 1 (some ⟨z_2, 0, none⟩) ns.length ns.length (iv (chkN ns i_).named), own 3 1 (some ⟨z_4, 0, none⟩) ns.length ns.length (iv (chkN ns i_).subs), own 3 1 (some ⟨z_6, 0, none⟩) ns.length ns.length (iv (chkN ns i_).home), mapItem (intKey .u32) r_0 (upd (gensN ns i_) ((lvn ns i_).gen) (((look (gensN ns i_ : List (Int × Int)) ((lvn ns i_).gen)).getD 0) + 1) : List (Int × Int)), blk b_7 (.cells #[.map (some r_0)] 123 (0, 0)), blk b_8 (.cells #[.slice (some ⟨z_2, 0, none⟩) ns.length ns.length] 124 (0, 0)), blk b_9 (.cells #[.slice (some ⟨z_4, 0, none⟩) ns.length ns.length] 124 (0, 0)), blk b_10 (.cells #[.slice (some ⟨z_6, 0, none⟩) ns.length ns.length] 124 (0, 0)), blk b1 (.cells #[.slice p ns.length cap, .int .u32 gen] 25 (0, 0)), blk b2 (.cells #[.bool false] 4 (0, 0)), fact (∀ m, m < i_ → bad1 ns gen m = false), blk l (.loop (F.rc .busy none)), blk Db0 (.deferred (some [])), fr, base w (Low w)] (s := 94) (g := (((decide (gen ≤ ((lvn ns i_).gen))) || (decide (1 < ((look (upd (gensN ns i_) ((lvn ns i_).gen) (((look (gensN ns i_ : List (Int × Int)) ((lvn ns i_).gen)).getD 0) + 1) : List (Int × Int)) ((lvn ns i_).gen)).getD 0)))) || (decide (4095 < ((lvn ns i_).mode)))) || (!(decide ((lvn ns i_).rn < 1000000000)))) rfl (by decide) (fun h95 => ?_) (fun h95 => ?_) ?_
          ·
            refine Rg.skips 28 (by kernel_rfl) ?_
            refine Rg.pure (d := 99) (op := .pick (.tmp 94) (.const (.bool true)) (.tmp 98)) (g := none) (v := .bool true) (by kernel_rfl) (by kernel_rfl) (pv_pick_t rfl rfl) ?_
            refine Rg.fin rfl (At.mid [0, 1, 2, 3, 4, 5, 6, 7, 8, 9, 10, 11, 12, 13, 14, 15] (.cons (or_of_t h95 rfl) (.cons (rfl) (.cons (rfl) (.cons (rfl) (.cons (rfl) (.cons (rfl) (.cons (rfl) (.cons (rfl) (.nil _))))))))) rfl (by decide))
          ·
            have ⟨h96, h97⟩ := or_f h95
            have ⟨h98, h99⟩ := or_f h96
            have ⟨h100, h101⟩ := or_f h98
            have h102 := of_decide_eq_false h100
            have h103 := of_decide_eq_false h101
            have h104 := of_decide_eq_false h99
            have h105 := not_f h97
            have h106 := of_decide_eq_true h105
            refine Rg.pure (d := 95) (op := .fieldAddr 44 (.tmp 9) 7) (g := some (23, false)) (v := .pointer (some ⟨b10, 0 + 8, none⟩)) (by kernel_rfl) (by kernel_rfl) (pv_fieldAddr rfl (n := 8) (by kernel_rfl)) ?_
            refine Rg.pure (d := 96) (op := .load 36 (.tmp 95)) (g := some (23, false)) (v := .agg #[.int .u32 ((lvn ns i_).ws), .int .u32 ((lvn ns i_).wn)]) (by kernel_rfl) (by kernel_rfl) (pv_load_blk_agg 0 rfl rfl (vs := #[.int .u32 ((lvn ns i_).ws), .int .u32 ((lvn ns i_).wn)]) (by kernel_rfl) (by kernel_rfl) (agg_rfl (by kernel_rfl))) ?_
            refine rg_call (d := some 97) (f := 59) (xs := #[.tmp 96]) (ts := #[36]) (g := some (23, false)) (v := .bool (decide ((lvn ns i_).wn < 1000000000))) (by kernel_rfl) (by kernel_rfl) (by kernel_rfl) rfl (fun w hw => timesCheck_calls) ?_
            refine Rg.pure (d := 98) (op := .unOp .not 4 (.tmp 97)) (g := some (23, false)) (v := .bool (!(decide ((lvn ns i_).wn < 1000000000)))) (by kernel_rfl) (by kernel_rfl) (pv_not (b := decide ((lvn ns i_).wn < 1000000000)) rfl) ?_
            refine Rg.pure (d := 99) (op := .pick (.tmp 94) (.const (.bool true)) (.tmp 98)) (g := none) (v := .bool (!(decide ((lvn ns i_).wn < 1000000000)))) (by kernel_rfl) (by kernel_rfl) (pv_pick_f rfl rfl) ?_
            refine Rg.fin rfl (At.mid [0, 1, 2, 3, 4, 5, 6, 7, 8, 9, 10, 11, 12, 13, 14, 15] (.cons (or_of_f h95 rfl) (.cons (rfl) (.cons (rfl) (.cons (rfl) (.cons (rfl) (.cons (rfl) (.cons (rfl) (.cons (rfl) (.nil _))))))))) rfl (by decide))
          refine Rg.pure (d := 100) (op := .move (.tmp 99)) (g := none) (v := .bool (((((decide (gen ≤ ((lvn ns i_).gen))) || (decide (1 < ((look (upd (gensN ns i_) ((lvn ns i_).gen) (((look (gensN ns i_ : List (Int × Int)) ((lvn ns i_).gen)).getD 0) + 1) : List (Int × Int)) ((lvn ns i_).gen)).getD 0)))) || (decide (4095 < ((lvn ns i_).mode)))) || (!(decide ((lvn ns i_).rn < 1000000000)))) || (!(decide ((lvn ns i_).wn < 1000000000))))) (by kernel_rfl) (by kernel_rfl) (pv_move rfl) ?_
          refine Rg.split 35 [(105, .bool ((((((decide (gen ≤ ((lvn ns i_).gen))) || (decide (1 < ((look (upd (gensN ns i_) ((lvn ns i_).gen) (((look (gensN ns i_ : List (Int × Int)) ((lvn ns i_).gen)).getD 0) + 1) : List (Int × Int)) ((lvn ns i_).gen)).getD 0)))) || (decide (4095 < ((lvn ns i_).mode)))) || (!(decide ((lvn ns i_).rn < 1000000000)))) || (!(decide ((lvn ns i_).wn < 1000000000)))) || (!(decide ((lvn ns i_).tn < 1000000000))))), (1, .pointer (some ⟨b1, 0, none⟩)), (2, .pointer (some ⟨b2, 0, none⟩)), (5, .pointer (some ⟨b_8, 0, none⟩)), (6, .pointer (some ⟨b_9, 0, none⟩)), (7, .pointer (some ⟨b_10, 0, none⟩)), (8, .int .i64 ((lvi ns i_ : Nat) : Int)), (9, .pointer (some ⟨b10, 0, none⟩))] [blk b10 (.cells ((lvn ns i_).cells) 44 (0, 0)), own 3 1 (some ⟨z_2, 0, none⟩) ns.length ns.length (iv (chkN ns i_).named), own 3 1 (some ⟨z_4, 0, none⟩) ns.length ns.length (iv (chkN ns i_).subs), own 3 1 (some ⟨z_6, 0, none⟩) ns.length ns.length (iv (chkN ns i_).home), mapItem (intKey .u32) r_0 (upd (gensN ns i_) ((lvn ns i_).gen) (((look (gensN ns i_ : List (Int × Int)) ((lvn ns i_).gen)).getD 0) + 1) : List (Int × Int)), blk b_7 (.cells #[.map (some r_0)] 123 (0, 0)), blk b_8 (.cells #[.slice (some ⟨z_2, 0, none⟩) ns.length ns.length] 124 (0, 0)), blk b_9 (.cells #[.slice (some ⟨z_4, 0, none⟩) ns.length ns.length] 124 (0, 0)), blk b_10 (.cells #[.slice (some ⟨z_6, 0, none⟩) ns.length ns.length] 124 (0, 0)), blk b1 (.cells #[.slice p ns.length cap, .int .u32 gen] 25 (0, 0)), blk b2 (.cells #[.bool false] 4 (0, 0)), fact (∀ m, m < i_ → bad1 ns gen m = false), blk l (.loop (F.rc .busy none)), blk Db0 (.deferred (some [])), fr, base w (Low w)] (s := 100) (g := ((((decide (gen ≤ ((lvn ns i_).gen))) || (decide (1 < ((look (upd (gensN ns i_) ((lvn ns i_).gen) (((look (gensN ns i_ : List (Int × Int)) ((lvn ns i_).gen)).getD 0) + 1) : List (Int × Int)) ((lvn ns i_).gen)).getD 0)))) || (decide (4095 < ((lvn ns i_).mode)))) || (!(decide ((lvn ns i_).rn < 1000000000)))) || (!(decide ((lvn ns i_).wn < 1000000000)))) rfl (by decide) (fun h107 => ?_) (fun h107 => ?_) ?_
          ·
            refine Rg.skips 34 (by kernel_rfl) ?_
            refine Rg.pure (d := 105) (op := .pick (.tmp 100) (.const (.bool true)) (.tmp 104)) (g := none) (v := .bool true) (by kernel_rfl) (by kernel_rfl) (pv_pick_t rfl rfl) ?_
            refine Rg.fin rfl (At.mid [0, 1, 2, 3, 4, 5, 6, 7, 8, 9, 10, 11, 12, 13, 14, 15] (.cons (or_of_t h107 rfl) (.cons (rfl) (.cons (rfl) (.cons (rfl) (.cons (rfl) (.cons (rfl) (.cons (rfl) (.cons (rfl) (.nil _))))))))) rfl (by decide))
          ·
            have ⟨h108, h109⟩ := or_f h107
            have ⟨h110, h111⟩ := or_f h108
            have ⟨h112, h113⟩ := or_f h110
            have ⟨h114, h115⟩ := or_f h112
            have h116 := of_decide_eq_false h114
            have h117 := of_decide_eq_false h115
            have h118 := of_decide_eq_false h113
            have h119 := not_f h111
            have h120 := of_decide_eq_true h119
            have h121 := not_f h109
            have h122 := of_decide_eq_true h121
            refine Rg.pure (d := 101) (op := .fieldAddr 44 (.tmp 9) 8) (g := some (29, false)) (v := .pointer (some ⟨b10, 0 + 10, none⟩)) (by kernel_rfl) (by kernel_rfl) (pv_fieldAddr rfl (n := 10) (by kernel_rfl)) ?_
            refine Rg.pure (d := 102) (op := .load 36 (.tmp 101)) (g := some (29, false)) (v := .agg #[.int .u32 ((lvn ns i_).ts), .int .u32 ((lvn ns i_).tn)]) (by kernel_rfl) (by kernel_rfl) (pv_load_blk_agg 0 rfl rfl (vs := #[.int .u32 ((lvn ns i_).ts), .int .u32 ((lvn ns i_).tn)]) (by kernel_rfl) (by kernel_rfl) (agg_rfl (by kernel_rfl))) ?_
            refine rg_call (d := some 103) (f := 59) (xs := #[.tmp 102]) (ts := #[36]) (g := some (29, false)) (v := .bool (decide ((lvn ns i_).tn < 1000000000))) (by kernel_rfl) (by kernel_rfl) (by kernel_rfl) rfl (fun w hw => timesCheck_calls) ?_
            refine Rg.pure (d := 104) (op := .unOp .not 4 (.tmp 103)) (g := some (29, false)) (v := .bool (!(decide ((lvn ns i_).tn < 1000000000)))) (by kernel_rfl) (by kernel_rfl) (pv_not (b := decide ((lvn ns i_).tn < 1000000000)) rfl) ?_
            refine Rg.pure (d := 105) (op := .pick (.tmp 100) (.const (.bool true)) (.tmp 104)) (g := none) (v := .bool (!(decide ((lvn ns i_).tn < 1000000000)))) (by kernel_rfl) (by kernel_rfl) (pv_pick_f rfl rfl) ?_
            refine Rg.fin rfl (At.mid [0, 1, 2, 3, 4, 5, 6, 7, 8, 9, 10, 11, 12, 13, 14, 15] (.cons (or_of_f h107 rfl) (.cons (rfl) (.cons (rfl) (.cons (rfl) (.cons (rfl) (.cons (rfl) (.cons (rfl) (.cons (rfl) (.nil _))))))))) rfl (by decide))
          refine Rg.pure (d := 106) (op := .move (.tmp 105)) (g := none) (v := .bool ((((((decide (gen ≤ ((lvn ns i_).gen))) || (decide (1 < ((look (upd (gensN ns i_) ((lvn ns i_).gen) (((look (gensN ns i_ : List (Int × Int)) ((lvn ns i_).gen)).getD 0) + 1) : List (Int × Int)) ((lvn ns i_).gen)).getD 0)))) || (decide (4095 < ((lvn ns i_).mode)))) || (!(decide ((lvn ns i_).rn < 1000000000)))) || (!(decide ((lvn ns i_).wn < 1000000000)))) || (!(decide ((lvn ns i_).tn < 1000000000))))) (by kernel_rfl) (by kernel_rfl) (pv_move rfl) ?_
          refine Rg.split 46 [(116, .bool (((((((decide (gen ≤ ((lvn ns i_).gen))) || (decide (1 < ((look (upd (gensN ns i_) ((lvn ns i_).gen) (((look (gensN ns i_ : List (Int × Int)) ((lvn ns i_).gen)).getD 0) + 1) : List (Int × Int)) ((lvn ns i_).gen)).getD 0)))) || (decide (4095 < ((lvn ns i_).mode)))) || (!(decide ((lvn ns i_).rn < 1000000000)))) || (!(decide ((lvn ns i_).wn < 1000000000)))) || (!(decide ((lvn ns i_).tn < 1000000000)))) || ((decide (((lvn ns i_).kind) = 2)) && (!(entriesS ns (lvn ns i_)))))), (1, .pointer (some ⟨b1, 0, none⟩)), (2, .pointer (some ⟨b2, 0, none⟩)), (5, .pointer (some ⟨b_8, 0, none⟩)), (6, .pointer (some ⟨b_9, 0, none⟩)), (7, .pointer (some ⟨b_10, 0, none⟩)), (8, .int .i64 ((lvi ns i_ : Nat) : Int)), (9, .pointer (some ⟨b10, 0, none⟩))] [blk b10 (.cells ((lvn ns i_).cells) 44 (0, 0)), own 3 1 (some ⟨z_2, 0, none⟩) ns.length ns.length (iv (chkN ns i_).named), own 3 1 (some ⟨z_4, 0, none⟩) ns.length ns.length (iv (chkN ns i_).subs), own 3 1 (some ⟨z_6, 0, none⟩) ns.length ns.length (iv (chkN ns i_).home), mapItem (intKey .u32) r_0 (upd (gensN ns i_) ((lvn ns i_).gen) (((look (gensN ns i_ : List (Int × Int)) ((lvn ns i_).gen)).getD 0) + 1) : List (Int × Int)), blk b_7 (.cells #[.map (some r_0)] 123 (0, 0)), blk b_8 (.cells #[.slice (some ⟨z_2, 0, none⟩) ns.length ns.length] 124 (0, 0)), blk b_9 (.cells #[.slice (some ⟨z_4, 0, none⟩) ns.length ns.length] 124 (0, 0)), blk b_10 (.cells #[.slice (some ⟨z_6, 0, none⟩) ns.length ns.length] 124 (0, 0)), blk b1 (.cells #[.slice p ns.length cap, .int .u32 gen] 25 (0, 0)), blk b2 (.cells #[.bool false] 4 (0, 0)), fact (∀ m, m < i_ → bad1 ns gen m = false), blk l (.loop (F.rc .busy none)), blk Db0 (.deferred (some [])), fr, base w (Low w)] (s := 106) (g := (((((decide (gen ≤ ((lvn ns i_).gen))) || (decide (1 < ((look (upd (gensN ns i_) ((lvn ns i_).gen) (((look (gensN ns i_ : List (Int × Int)) ((lvn ns i_).gen)).getD 0) + 1) : List (Int × Int)) ((lvn ns i_).gen)).getD 0)))) || (decide (4095 < ((lvn ns i_).mode)))) || (!(decide ((lvn ns i_).rn < 1000000000)))) || (!(decide ((lvn ns i_).wn < 1000000000)))) || (!(decide ((lvn ns i_).tn < 1000000000)))) rfl (by decide) (fun h123 => ?_) (fun h123 => ?_) ?_
          ·
            refine Rg.skips 45 (by kernel_rfl) ?_
            refine Rg.pure (d := 116) (op := .pick (.tmp 106) (.const (.bool true)) (.tmp 115)) (g := none) (v := .bool true) (by kernel_rfl) (by kernel_rfl) (pv_pick_t rfl rfl) ?_
            refine Rg.fin rfl (At.mid [0, 1, 2, 3, 4, 5, 6, 7, 8, 9, 10, 11, 12, 13, 14, 15] (.cons (or_of_t h123 rfl) (.cons (rfl) (.cons (rfl) (.cons (rfl) (.cons (rfl) (.cons (rfl) (.cons (rfl) (.cons (rfl) (.nil _))))))))) rfl (by decide))
          ·
            have ⟨h124, h125⟩ := or_f h123
            have ⟨h126, h127⟩ := or_f h124
            have ⟨h128, h129⟩ := or_f h126
            have ⟨h130, h131⟩ := or_f h128
            have ⟨h132, h133⟩ := or_f h130
            have h134 := of_decide_eq_false h132
            have h135 := of_decide_eq_false h133
            have h136 := of_decide_eq_false h131
            have h137 := not_f h129
            have h138 := of_decide_eq_true h137
            have h139 := not_f h127
            have h140 := of_decide_eq_true h139
            have h141 := not_f h125
            have h142 := of_decide_eq_true h141
            refine Rg.pure (d := 107) (op := .fieldAddr 44 (.tmp 9) 0) (g := some (35, false)) (v := .pointer (some ⟨b10, 0 + 0, none⟩)) (by kernel_rfl) (by kernel_rfl) (pv_fieldAddr rfl (n := 0) (by kernel_rfl)) ?_
            refine Rg.pure (d := 108) (op := .load 33 (.tmp 107)) (g := some (35, false)) (v := .int .u32 ((lvn ns i_).kind)) (by kernel_rfl) (by kernel_rfl) (pv_load_blk 0 rfl rfl (by kernel_rfl) rfl) ?_
            refine Rg.pure (d := 109) (op := .binOp .eql 33 (.tmp 108) (.const (.int .u32 2)) 33) (g := some (35, false)) (v := .bool (decide (((lvn ns i_).kind) = 2))) (by kernel_rfl) (by kernel_rfl) (pv_eql rfl rfl) ?_
            refine Rg.pure (d := 110) (op := .move (.tmp 109)) (g := some (35, false)) (v := .bool (decide (((lvn ns i_).kind) = 2))) (by kernel_rfl) (by kernel_rfl) (pv_move rfl) ?_
            refine Rg.split 45 [(115, .bool ((decide (((lvn ns i_).kind) = 2)) && (!(entriesS ns (lvn ns i_))))), (1, .pointer (some ⟨b1, 0, none⟩)), (2, .pointer (some ⟨b2, 0, none⟩)), (5, .pointer (some ⟨b_8, 0, none⟩)), (6, .pointer (some ⟨b_9, 0, none⟩)), (7, .pointer (some ⟨b_10, 0, none⟩)), (8, .int .i64 ((lvi ns i_ : Nat) : Int)), (9, .pointer (some ⟨b10, 0, none⟩)), (106, .bool false)] [blk b10 (.cells ((lvn ns i_).cells) 44 (0, 0)), own 3 1 (some ⟨z_2, 0, none⟩) ns.length ns.length (iv (chkN ns i_).named), own 3 1 (some ⟨z_4, 0, none⟩) ns.length ns.length (iv (chkN ns i_).subs), own 3 1 (some ⟨z_6, 0, none⟩) ns.length ns.length (iv (chkN ns i_).home), mapItem (intKey .u32) r_0 (upd (gensN ns i_) ((lvn ns i_).gen) (((look (gensN ns i_ : List (Int × Int)) ((lvn ns i_).gen)).getD 0) + 1) : List (Int × Int)), blk b_7 (.cells #[.map (some r_0)] 123 (0, 0)), blk b_8 (.cells #[.slice (some ⟨z_2, 0, none⟩) ns.length ns.length] 124 (0, 0)), blk b_9 (.cells #[.slice (some ⟨z_4, 0, none⟩) ns.length ns.length] 124 (0, 0)), blk b_10 (.cells #[.slice (some ⟨z_6, 0, none⟩) ns.length ns.length] 124 (0, 0)), blk b1 (.cells #[.slice p ns.length cap, .int .u32 gen] 25 (0, 0)), blk b2 (.cells #[.bool false] 4 (0, 0)), fact (∀ m, m < i_ → bad1 ns gen m = false), blk l (.loop (F.rc .busy none)), blk Db0 (.deferred (some [])), fr, base w (Low w)] (s := 110) (g := decide (((lvn ns i_).kind) = 2)) rfl (by decide) (fun h143 => ?_) (fun h143 => ?_) ?_
            ·
              have h144 := of_decide_eq_true h143
              refine Rg.pure (d := 111) (op := .load 25 (.tmp 1)) (g := some (39, true)) (v := .agg #[.slice p ns.length cap, .int .u32 gen]) (by kernel_rfl) (by kernel_rfl) (pv_load_blk_whole 9 rfl rfl (by kernel_rfl) (by kernel_rfl)) ?_
              refine Rg.pure (d := 112) (op := .load 44 (.tmp 9)) (g := some (39, true)) (v := .agg ((lvn ns i_).cells)) (by kernel_rfl) (by kernel_rfl) (pv_load_blk_whole 0 rfl rfl (by kernel_rfl) (by kernel_rfl)) ?_
              refine rg_call (d := some 113) (f := 60) (xs := #[.tmp 111, .tmp 112]) (ts := #[25, 44]) (g := some (39, true)) (v := .bool (entriesS ns (lvn ns i_))) (by kernel_rfl) (by kernel_rfl) (by kernel_rfl) rfl (fun w hw => entries_calls ((hT).keep (hw.at_ 15 rfl) (fun k hk => hw.lt 15 rfl hk)) hW (((show NodeAt (Low _) _ (lvn ns i_) from hT.node (lvi ns i_) (liv_get hn_).1)).keep (hw.at_ 15 rfl) (fun k hk => hw.lt 15 rfl hk)) ((hW.node _))) ?_
              refine Rg.pure (d := 114) (op := .unOp .not 4 (.tmp 113)) (g := some (39, true)) (v := .bool (!(entriesS ns (lvn ns i_)))) (by kernel_rfl) (by kernel_rfl) (pv_not (b := entriesS ns (lvn ns i_)) rfl) ?_
              refine Rg.pure (d := 115) (op := .pick (.tmp 110) (.tmp 114) (.const (.bool false))) (g := some (35, false)) (v := .bool (!(entriesS ns (lvn ns i_)))) (by kernel_rfl) (by kernel_rfl) (pv_pick_t rfl rfl) ?_
              refine Rg.fin rfl (At.mid [0, 1, 2, 3, 4, 5, 6, 7, 8, 9, 10, 11, 12, 13, 14, 15] (.cons (and_of_t h143 rfl) (.cons (rfl) (.cons (rfl) (.cons (rfl) (.cons (rfl) (.cons (rfl) (.cons (rfl) (.cons (rfl) (.cons (rfl) (.nil _)))))))))) rfl (by decide))
            ·
              refine Rg.skips 44 (by kernel_rfl) ?_
              refine Rg.pure (d := 115) (op := .pick (.tmp 110) (.tmp 114) (.const (.bool false))) (g := some (35, false)) (v := .bool false) (by kernel_rfl) (by kernel_rfl) (pv_pick_f rfl rfl) ?_
              refine Rg.fin rfl (At.mid [0, 1, 2, 3, 4, 5, 6, 7, 8, 9, 10, 11, 12, 13, 14, 15] (.cons (and_of_f h143 rfl) (.cons (rfl) (.cons (rfl) (.cons (rfl) (.cons (rfl) (.cons (rfl) (.cons (rfl) (.cons (rfl) (.cons (rfl) (.nil _)))))))))) rfl (by decide))
            refine Rg.pure (d := 116) (op := .pick (.tmp 106) (.const (.bool true)) (.tmp 115)) (g := none) (v := .bool ((decide (((lvn ns i_).kind) = 2)) && (!(entriesS ns (lvn ns i_))))) (by kernel_rfl) (by kernel_rfl) (pv_pick_f rfl rfl) ?_
            refine Rg.fin rfl (At.mid [0, 1, 2, 3, 4, 5, 6, 7, 8, 9, 10, 11, 12, 13, 14, 15] (.cons (or_of_f h123 rfl) (.cons (rfl) (.cons (rfl) (.cons (rfl) (.cons (rfl) (.cons (rfl) (.cons (rfl) (.cons (rfl) (.nil _))))))))) rfl (by decide))
          refine Rg.fin rfl ?_
          refine at_codeS [0, 1, 2, 3, 4, 5, 6, 7, 8, 9, 10, 11, 12, 13, 14, 15] [(1, _), (2, _), (5, _), (6, _), (7, _), (8, _), (9, _), (116, _)] [blk b10 (.cells ((lvn ns i_).cells) 44 (0, 0)), own 3 1 (some ⟨z_2, 0, none⟩) ns.length ns.length (iv (chkN ns i_).named), own 3 1 (some ⟨z_4, 0, none⟩) ns.length ns.length (iv (chkN ns i_).subs), own 3 1 (some ⟨z_6, 0, none⟩) ns.length ns.length (iv (chkN ns i_).home), mapItem (intKey .u32) r_0 (upd (gensN ns i_) ((lvn ns i_).gen) (((look (gensN ns i_ : List (Int × Int)) ((lvn ns i_).gen)).getD 0) + 1) : List (Int × Int)), blk b_7 (.cells #[.map (some r_0)] 123 (0, 0)), blk b_8 (.cells #[.slice (some ⟨z_2, 0, none⟩) ns.length ns.length] 124 (0, 0)), blk b_9 (.cells #[.slice (some ⟨z_4, 0, none⟩) ns.length ns.length] 124 (0, 0)), blk b_10 (.cells #[.slice (some ⟨z_6, 0, none⟩) ns.length ns.length] 124 (0, 0)), blk b1 (.cells #[.slice p ns.length cap, .int .u32 gen] 25 (0, 0)), blk b2 (.cells #[.bool false] 4 (0, 0)), fact (∀ m, m < i_ → bad1 ns gen m = false), blk l (.loop (F.rc .busy none)), blk Db0 (.deferred (some [])), fr, base w (Low w)] (.cons rfl (.cons rfl (.cons rfl (.cons rfl (.cons rfl (.cons rfl (.cons rfl (.cons rfl (.nil _))))))))) rfl (by decide) (fun _ _ h => h) ?_
          refine ev_cond (t := 116) (by kernel_rfl) rfl (fun h145 => ?_) (fun h145 => ?_)
          ·
            refine ev_seq (by kernel_rfl) ?_
            refine ev_region (n := 1) (by kernel_rfl) ?_
            refine rg_store (t := 4) (x := .tmp 2) (y := .const (.bool false)) (g := none) (cs' := #[.bool false]) 10 (by kernel_rfl) (by kernel_rfl) rfl rfl rfl (by kernel_rfl) (Nat.le_of_ble_eq_true (by kernel_rfl)) (by kernel_rfl) (by kernel_rfl) ?_
            refine Rg.fin rfl ?_
            refine at_codeS [0, 1, 2, 3, 4, 5, 6, 7, 8, 9, 10, 11, 12, 13, 14, 15] [(1, _), (2, _), (5, _), (6, _), (7, _), (8, _), (9, _)] [blk b10 (.cells ((lvn ns i_).cells) 44 (0, 0)), own 3 1 (some ⟨z_2, 0, none⟩) ns.length ns.length (iv (chkN ns i_).named), own 3 1 (some ⟨z_4, 0, none⟩) ns.length ns.length (iv (chkN ns i_).subs), own 3 1 (some ⟨z_6, 0, none⟩) ns.length ns.length (iv (chkN ns i_).home), mapItem (intKey .u32) r_0 (upd (gensN ns i_) ((lvn ns i_).gen) (((look (gensN ns i_ : List (Int × Int)) ((lvn ns i_).gen)).getD 0) + 1) : List (Int × Int)), blk b_7 (.cells #[.map (some r_0)] 123 (0, 0)), blk b_8 (.cells #[.slice (some ⟨z_2, 0, none⟩) ns.length ns.length] 124 (0, 0)), blk b_9 (.cells #[.slice (some ⟨z_4, 0, none⟩) ns.length ns.length] 124 (0, 0)), blk b_10 (.cells #[.slice (some ⟨z_6, 0, none⟩) ns.length ns.length] 124 (0, 0)), blk b1 (.cells #[.slice p ns.length cap, .int .u32 gen] 25 (0, 0)), blk b2 (.cells #[.bool false] 4 (0, 0)), fact (∀ m, m < i_ → bad1 ns gen m = false), blk l (.loop (F.rc .busy none)), blk Db0 (.deferred (some [])), fr, base w (Low w)] (.cons rfl (.cons rfl (.cons rfl (.cons rfl (.cons rfl (.cons rfl (.cons rfl (.nil _)))))))) rfl (by decide) (fun _ _ h => h) ?_
            refine ev_ret (by kernel_rfl) ?_
            refine At.via (Q := Qr) hQr ?_
            refine at_roundRet () 12 rfl (fun w hw => (hw.addFact (show ∃ m, m < (liv ns).length ∧ bad1 ns gen m = true from ⟨i_, hn_, h145⟩)).pick [11, 0, 13, 14, 15, 16] (by decide))
          ·
            have ⟨h146, h147⟩ := or_f h145
            have ⟨h148, h149⟩ := or_f h146
            have ⟨h150, h151⟩ := or_f h148
            have ⟨h152, h153⟩ := or_f h150
            have ⟨h154, h155⟩ := or_f h152
            have ⟨h156, h157⟩ := or_f h154
            have h158 := of_decide_eq_false h156
            have h159 := of_decide_eq_false h157
            have h160 := of_decide_eq_false h155
            have h161 := not_f h153
            have h162 := of_decide_eq_true h161
            have h163 := not_f h151
            have h164 := of_decide_eq_true h163
            have h165 := not_f h149
            have h166 := of_decide_eq_true h165
            have hgood_ : bad1 ns gen i_ = false := h145
            refine ev_skip (by kernel_rfl) ?_
            refine at_codeS [0, 1, 2, 3, 4, 5, 6, 7, 8, 9, 10, 11, 12, 13, 14, 15] [(1, _), (2, _), (5, _), (6, _), (7, _), (8, _), (9, _)] [blk b10 (.cells ((lvn ns i_).cells) 44 (0, 0)), own 3 1 (some ⟨z_2, 0, none⟩) ns.length ns.length (iv (chkN ns i_).named), own 3 1 (some ⟨z_4, 0, none⟩) ns.length ns.length (iv (chkN ns i_).subs), own 3 1 (some ⟨z_6, 0, none⟩) ns.length ns.length (iv (chkN ns i_).home), mapItem (intKey .u32) r_0 (upd (gensN ns i_) ((lvn ns i_).gen) (((look (gensN ns i_ : List (Int × Int)) ((lvn ns i_).gen)).getD 0) + 1) : List (Int × Int)), blk b_7 (.cells #[.map (some r_0)] 123 (0, 0)), blk b_8 (.cells #[.slice (some ⟨z_2, 0, none⟩) ns.length ns.length] 124 (0, 0)), blk b_9 (.cells #[.slice (some ⟨z_4, 0, none⟩) ns.length ns.length] 124 (0, 0)), blk b_10 (.cells #[.slice (some ⟨z_6, 0, none⟩) ns.length ns.length] 124 (0, 0)), blk b1 (.cells #[.slice p ns.length cap, .int .u32 gen] 25 (0, 0)), blk b2 (.cells #[.bool false] 4 (0, 0)), fact (∀ m, m < i_ → bad1 ns gen m = false), blk l (.loop (F.rc .busy none)), blk Db0 (.deferred (some [])), fr, base w (Low w)] (.cons rfl (.cons rfl (.cons rfl (.cons rfl (.cons rfl (.cons rfl (.cons rfl (.nil _)))))))) rfl (by decide) (fun _ _ h => h) ?_
            refine ev_seq (by kernel_rfl) ?_
            refine ev_region (n := 4) (by kernel_rfl) ?_
            refine Rg.pure (d := 117) (op := .fieldAddr 44 (.tmp 9) 12) (g := none) (v := .pointer (some ⟨b10, 0 + 22, none⟩)) (by kernel_rfl) (by kernel_rfl) (pv_fieldAddr rfl (n := 22) (by kernel_rfl)) ?_
            refine Rg.pure (d := 118) (op := .load 42 (.tmp 117)) (g := none) (v := .slice ((lvn ns i_).lA) ((lvn ns i_).list.length) ((lvn ns i_).lCap)) (by kernel_rfl) (by kernel_rfl) (pv_load_blk 0 rfl rfl (by kernel_rfl) rfl) ?_
            refine Rg.pure (d := 119) (op := .call { callee := .builtin .len, args := #[.tmp 118], argTypes := #[42] }) (g := none) (v := .int .i64 ((lvn ns i_).list.length : Int)) (by kernel_rfl) (by kernel_rfl) (pv_len_slice rfl (by kernel_rfl)) ?_
            refine Rg.pure (d := 120) (op := .move (.const (.int .i64 0))) (g := none) (v := .int .i64 0) (by kernel_rfl) (by kernel_rfl) (pv_move rfl) ?_
            refine Rg.fin rfl ?_
            refine at_codeS [0, 1, 2, 3, 4, 5, 6, 7, 8, 9, 10, 11, 12, 13, 14, 15] [(1, _), (2, _), (5, _), (6, _), (7, _), (8, _), (118, _), (119, _), (120, _)] [blk b10 (.cells ((lvn ns i_).cells) 44 (0, 0)), own 3 1 (some ⟨z_2, 0, none⟩) ns.length ns.length (iv (chkN ns i_).named), own 3 1 (some ⟨z_4, 0, none⟩) ns.length ns.length (iv (chkN ns i_).subs), own 3 1 (some ⟨z_6, 0, none⟩) ns.length ns.length (iv (chkN ns i_).home), mapItem (intKey .u32) r_0 (upd (gensN ns i_) ((lvn ns i_).gen) (((look (gensN ns i_ : List (Int × Int)) ((lvn ns i_).gen)).getD 0) + 1) : List (Int × Int)), blk b_7 (.cells #[.map (some r_0)] 123 (0, 0)), blk b_8 (.cells #[.slice (some ⟨z_2, 0, none⟩) ns.length ns.length] 124 (0, 0)), blk b_9 (.cells #[.slice (some ⟨z_4, 0, none⟩) ns.length ns.length] 124 (0, 0)), blk b_10 (.cells #[.slice (some ⟨z_6, 0, none⟩) ns.length ns.length] 124 (0, 0)), blk b1 (.cells #[.slice p ns.length cap, .int .u32 gen] 25 (0, 0)), blk b2 (.cells #[.bool false] 4 (0, 0)), fact (∀ m, m < i_ → bad1 ns gen m = false), blk l (.loop (F.rc .busy none)), blk Db0 (.deferred (some [])), fr, base w (Low w)] (.cons rfl (.cons rfl (.cons rfl (.cons rfl (.cons rfl (.cons rfl (.cons rfl (.cons rfl (.cons rfl (.nil _)))))))))) rfl (by decide) (fun _ _ h => h) ?_
            refine ev_block (id := 2) (by kernel_rfl) ?_
            refine ev_loop (T := Nat) (fun k => [(1, .pointer (some ⟨b1, 0, none⟩)), (2, .pointer (some ⟨b2, 0, none⟩)), (5, .pointer (some ⟨b_8, 0, none⟩)), (6, .pointer (some ⟨b_9, 0, none⟩)), (7, .pointer (some ⟨b_10, 0, none⟩)), (8, .int .i64 ((lvi ns i_ : Nat) : Int)), (118, .slice ((lvn ns i_).lA) ((lvn ns i_).list.length) ((lvn ns i_).lCap)), (119, .int .i64 ((lvn ns i_).list.length : Int)), (120, .int .i64 (k : Int))]) (fun k => [own 3 1 (some ⟨z_2, 0, none⟩) ns.length ns.length (iv (entN ns (lvi ns i_) (lvn ns i_).list (chkN ns i_) k).named), own 3 1 (some ⟨z_4, 0, none⟩) ns.length ns.length (iv (entN ns (lvi ns i_) (lvn ns i_).list (chkN ns i_) k).subs), own 3 1 (some ⟨z_6, 0, none⟩) ns.length ns.length (iv (entN ns (lvi ns i_) (lvn ns i_).list (chkN ns i_) k).home), mapItem (intKey .u32) r_0 (gensN ns (i_ + 1) : List (Int × Int)), blk b_7 (.cells #[.map (some r_0)] 123 (0, 0)), blk b_8 (.cells #[.slice (some ⟨z_2, 0, none⟩) ns.length ns.length] 124 (0, 0)), blk b_9 (.cells #[.slice (some ⟨z_4, 0, none⟩) ns.length ns.length] 124 (0, 0)), blk b_10 (.cells #[.slice (some ⟨z_6, 0, none⟩) ns.length ns.length] 124 (0, 0)), blk b1 (.cells #[.slice p ns.length cap, .int .u32 gen] 25 (0, 0)), blk b2 (.cells #[.bool false] 4 (0, 0)), blk l (.loop (F.rc .busy none)), blk Db0 (.deferred (some [])), fr, base w (Low w)]) (fun k => k ≤ (lvn ns i_).list.length) (fun k => (lvn ns i_).list.length - k) 0 [1, 2, 3, 4, 5, 6, 7, 8, 9, 10, 12, 13, 14, 15] (by kernel_rfl) (by omega) (.cons (rfl) (.cons (rfl) (.cons (rfl) (.cons (rfl) (.cons (rfl) (.cons (rfl) (.cons (rfl) (.cons (rfl) (.cons (rfl) (.nil _)))))))))) rfl (by decide) ?_
            rintro k (hk : k ≤ (lvn ns i_).list.length)
            show Ev _ _ [(1, .pointer (some ⟨b1, 0, none⟩)), (2, .pointer (some ⟨b2, 0, none⟩)), (5, .pointer (some ⟨b_8, 0, none⟩)), (6, .pointer (some ⟨b_9, 0, none⟩)), (7, .pointer (some ⟨b_10, 0, none⟩)), (8, .int .i64 ((lvi ns i_ : Nat) : Int)), (118, .slice ((lvn ns i_).lA) ((lvn ns i_).list.length) ((lvn ns i_).lCap)), (119, .int .i64 ((lvn ns i_).list.length : Int)), (120, .int .i64 (k : Int))] [own 3 1 (some ⟨z_2, 0, none⟩) ns.length ns.length (iv (entN ns (lvi ns i_) (lvn ns i_).list (chkN ns i_) k).named), own 3 1 (some ⟨z_4, 0, none⟩) ns.length ns.length (iv (entN ns (lvi ns i_) (lvn ns i_).list (chkN ns i_) k).subs), own 3 1 (some ⟨z_6, 0, none⟩) ns.length ns.length (iv (entN ns (lvi ns i_) (lvn ns i_).list (chkN ns i_) k).home), mapItem (intKey .u32) r_0 (gensN ns (i_ + 1) : List (Int × Int)), blk b_7 (.cells #[.map (some r_0)] 123 (0, 0)), blk b_8 (.cells #[.slice (some ⟨z_2, 0, none⟩) ns.length ns.length] 124 (0, 0)), blk b_9 (.cells #[.slice (some ⟨z_4, 0, none⟩) ns.length ns.length] 124 (0, 0)), blk b_10 (.cells #[.slice (some ⟨z_6, 0, none⟩) ns.length ns.length] 124 (0, 0)), blk b1 (.cells #[.slice p ns.length cap, .int .u32 gen] 25 (0, 0)), blk b2 (.cells #[.bool false] 4 (0, 0)), blk l (.loop (F.rc .busy none)), blk Db0 (.deferred (some [])), fr, base w (Low w)] _
            have hok_ := entN_ok (ns := ns) (i := lvi ns i_) (es := (lvn ns i_).list) hck_ k
            refine ev_seq (by kernel_rfl) ?_
            refine ev_region (n := 1) (by kernel_rfl) ?_
            refine Rg.pure (d := 121) (op := .binOp .lss 3 (.tmp 120) (.tmp 119) 3) (g := none) (v := .bool (decide ((k : Int) < ((lvn ns i_).list.length : Int)))) (by kernel_rfl) (by kernel_rfl) (pv_lss rfl rfl) ?_
            refine Rg.fin rfl ?_
            refine at_codeS [0, 1, 2, 3, 4, 5, 6, 7, 8, 9, 10, 11, 12, 13] [(1, _), (2, _), (5, _), (6, _), (7, _), (8, _), (118, _), (119, _), (120, _), (121, _)] [own 3 1 (some ⟨z_2, 0, none⟩) ns.length ns.length (iv (entN ns (lvi ns i_) (lvn ns i_).list (chkN ns i_) k).named), own 3 1 (some ⟨z_4, 0, none⟩) ns.length ns.length (iv (entN ns (lvi ns i_) (lvn ns i_).list (chkN ns i_) k).subs), own 3 1 (some ⟨z_6, 0, none⟩) ns.length ns.length (iv (entN ns (lvi ns i_) (lvn ns i_).list (chkN ns i_) k).home), mapItem (intKey .u32) r_0 (gensN ns (i_ + 1) : List (Int × Int)), blk b_7 (.cells #[.map (some r_0)] 123 (0, 0)), blk b_8 (.cells #[.slice (some ⟨z_2, 0, none⟩) ns.length ns.length] 124 (0, 0)), blk b_9 (.cells #[.slice (some ⟨z_4, 0, none⟩) ns.length ns.length] 124 (0, 0)), blk b_10 (.cells #[.slice (some ⟨z_6, 0, none⟩) ns.length ns.length] 124 (0, 0)), blk b1 (.cells #[.slice p ns.length cap, .int .u32 gen] 25 (0, 0)), blk b2 (.cells #[.bool false] 4 (0, 0)), blk l (.loop (F.rc .busy none)), blk Db0 (.deferred (some [])), fr, base w (Low w)] (.cons rfl (.cons rfl (.cons rfl (.cons rfl (.cons rfl (.cons rfl (.cons rfl (.cons rfl (.cons rfl (.cons rfl (.nil _))))))))))) rfl (by decide) (fun _ _ h => h) ?_
            refine ev_seq (by kernel_rfl) ?_
            refine ev_cond (t := 121) (by kernel_rfl) rfl (fun h167 => ?_) (fun h167 => ?_)
            ·
              have h168 := of_decide_eq_true h167
              have hth_ := thereS_t (ent_there hbad_ hn_ hgood_ (show k < (lvn ns i_).list.length by omega))
              have ht1_ := hth_.1
              have ht2_ := hth_.2.1
              have hn0_ := hok_.n0 (en (lvn ns i_).list k).node.toNat
              have hn1_ := hok_.n1 (en (lvn ns i_).list k).node.toNat
              have hs0_ := hok_.s0 (lvi ns i_)
              have hs1_ := hok_.s1 (lvi ns i_)
              refine ev_skip (by kernel_rfl) ?_
              refine at_codeS [0, 1, 2, 3, 4, 5, 6, 7, 8, 9, 10, 11, 12, 13] [(1, _), (2, _), (5, _), (6, _), (7, _), (8, _), (118, _), (119, _), (120, _), (121, _)] [own 3 1 (some ⟨z_2, 0, none⟩) ns.length ns.length (iv (entN ns (lvi ns i_) (lvn ns i_).list (chkN ns i_) k).named), own 3 1 (some ⟨z_4, 0, none⟩) ns.length ns.length (iv (entN ns (lvi ns i_) (lvn ns i_).list (chkN ns i_) k).subs), own 3 1 (some ⟨z_6, 0, none⟩) ns.length ns.length (iv (entN ns (lvi ns i_) (lvn ns i_).list (chkN ns i_) k).home), mapItem (intKey .u32) r_0 (gensN ns (i_ + 1) : List (Int × Int)), blk b_7 (.cells #[.map (some r_0)] 123 (0, 0)), blk b_8 (.cells #[.slice (some ⟨z_2, 0, none⟩) ns.length ns.length] 124 (0, 0)), blk b_9 (.cells #[.slice (some ⟨z_4, 0, none⟩) ns.length ns.length] 124 (0, 0)), blk b_10 (.cells #[.slice (some ⟨z_6, 0, none⟩) ns.length ns.length] 124 (0, 0)), blk b1 (.cells #[.slice p ns.length cap, .int .u32 gen] 25 (0, 0)), blk b2 (.cells #[.bool false] 4 (0, 0)), blk l (.loop (F.rc .busy none)), blk Db0 (.deferred (some [])), fr, base w (Low w)] (.cons rfl (.cons rfl (.cons rfl (.cons rfl (.cons rfl (.cons rfl (.cons rfl (.cons rfl (.cons rfl (.cons rfl (.nil _))))))))))) rfl (by decide) (fun _ _ h => h) ?_
              refine ev_seq (by kernel_rfl) ?_
              refine ev_block (id := 3) (by kernel_rfl) ?_
              refine ev_seq (by kernel_rfl) ?_
              refine ev_region (n := 4) (by kernel_rfl) ?_
              have ⟨q11, o12, hp13⟩ := ((show NodeAt (Low _) _ (lvn ns i_) from hT.node (lvi ns i_) (liv_get hn_).1)).list.adr (by omega)
              refine Rg.pure (d := 122) (op := .indexAddr 42 (.tmp 118) (.tmp 120)) (g := none) (v := .pointer (some ⟨q11, o12 + ((k : Int)).toNat * 3, none⟩)) (by kernel_rfl) (by kernel_rfl) (pv_indexAddr' rfl hp13 rfl (e := 50) (sz := 3) (by kernel_rfl) (by omega) (by omega)) ?_
              refine Rg.pure (d := 123) (op := .load 50 (.tmp 122)) (g := none) (v := .agg #[.string ((en ((lvn ns i_).list) k).name), .int .i64 ((en ((lvn ns i_).list) k).node), .int .u64 ((en ((lvn ns i_).list) k).cookie)]) (by kernel_rfl) (by kernel_rfl) (pv_load_entry (i := ((k : Int)).toNat) (es := (lvn ns i_).list) rfl hp13 (by omega) (by kernel_rfl) (by kernel_rfl) (fun w hw => ((((show NodeAt (Low _) _ (lvn ns i_) from hT.node (lvi ns i_) (liv_get hn_).1)).list).keep (hw.at_ 13 rfl) (fun k hk => hw.lt 13 rfl hk)))) ?_
              refine rg_alloc (d := 11) (t := 50) (g := none) (v := .agg #[.string ⟨#[]⟩, .int .i64 0, .int .u64 0]) (by kernel_rfl) (by kernel_rfl) (by kernel_rfl) ?_
              intro b14
              refine rg_store (t := 50) (x := .tmp 11) (y := .tmp 123) (g := none) (cs' := #[.string ((en ((lvn ns i_).list) k).name), .int .i64 ((en ((lvn ns i_).list) k).node), .int .u64 ((en ((lvn ns i_).list) k).cookie)]) 0 (by kernel_rfl) (by kernel_rfl) rfl rfl rfl (by kernel_rfl) (Nat.le_of_ble_eq_true (by kernel_rfl)) (by kernel_rfl) (by kernel_rfl) ?_
              refine Rg.fin rfl ?_
              refine at_codeS [0, 1, 2, 3, 4, 5, 6, 7, 8, 9, 10, 11, 12, 13, 14] [(1, _), (2, _), (5, _), (6, _), (7, _), (8, _), (11, _), (118, _), (119, _), (120, _), (121, _), (122, _), (123, _)] [blk b14 (.cells #[.string ((en ((lvn ns i_).list) k).name), .int .i64 ((en ((lvn ns i_).list) k).node), .int .u64 ((en ((lvn ns i_).list) k).cookie)] 50 (0, 0)), own 3 1 (some ⟨z_2, 0, none⟩) ns.length ns.length (iv (entN ns (lvi ns i_) (lvn ns i_).list (chkN ns i_) k).named), own 3 1 (some ⟨z_4, 0, none⟩) ns.length ns.length (iv (entN ns (lvi ns i_) (lvn ns i_).list (chkN ns i_) k).subs), own 3 1 (some ⟨z_6, 0, none⟩) ns.length ns.length (iv (entN ns (lvi ns i_) (lvn ns i_).list (chkN ns i_) k).home), mapItem (intKey .u32) r_0 (gensN ns (i_ + 1) : List (Int × Int)), blk b_7 (.cells #[.map (some r_0)] 123 (0, 0)), blk b_8 (.cells #[.slice (some ⟨z_2, 0, none⟩) ns.length ns.length] 124 (0, 0)), blk b_9 (.cells #[.slice (some ⟨z_4, 0, none⟩) ns.length ns.length] 124 (0, 0)), blk b_10 (.cells #[.slice (some ⟨z_6, 0, none⟩) ns.length ns.length] 124 (0, 0)), blk b1 (.cells #[.slice p ns.length cap, .int .u32 gen] 25 (0, 0)), blk b2 (.cells #[.bool false] 4 (0, 0)), blk l (.loop (F.rc .busy none)), blk Db0 (.deferred (some [])), fr, base w (Low w)] (.cons rfl (.cons rfl (.cons rfl (.cons rfl (.cons rfl (.cons rfl (.cons rfl (.cons rfl (.cons rfl (.cons rfl (.cons rfl (.cons rfl (.cons rfl (.nil _)))))))))))))) rfl (by decide) (fun _ _ h => h) ?_
              refine ev_seq (by kernel_rfl) ?_
              refine ev_region (n := 8) (by kernel_rfl) ?_
              refine Rg.pure (d := 124) (op := .load 124 (.tmp 5)) (g := none) (v := .slice (some ⟨z_2, 0, none⟩) ns.length ns.length) (by kernel_rfl) (by kernel_rfl) (pv_load_blk 6 rfl rfl (by kernel_rfl) rfl) ?_
              refine Rg.pure (d := 125) (op := .fieldAddr 50 (.tmp 11) 1) (g := none) (v := .pointer (some ⟨b14, 0 + 1, none⟩)) (by kernel_rfl) (by kernel_rfl) (pv_fieldAddr rfl (n := 1) (by kernel_rfl)) ?_
              refine Rg.pure (d := 126) (op := .load 3 (.tmp 125)) (g := none) (v := .int .i64 ((en ((lvn ns i_).list) k).node)) (by kernel_rfl) (by kernel_rfl) (pv_load_blk 0 rfl rfl (by kernel_rfl) rfl) ?_
              refine Rg.pure (d := 127) (op := .indexAddr 124 (.tmp 124) (.tmp 126)) (g := none) (v := .pointer (some ⟨z_2, 0 + ((en ((lvn ns i_).list) k).node).toNat * 1, none⟩)) (by kernel_rfl) (by kernel_rfl) (pv_indexAddr rfl rfl (e := 3) (sz := 1) (by kernel_rfl) (by omega) (by omega)) ?_
              refine Rg.pure (d := 128) (op := .load 3 (.tmp 127)) (g := none) (v := .int .i64 (((entN ns (lvi ns i_) (lvn ns i_).list (chkN ns i_) k).named).getD (((en ((lvn ns i_).list) k).node).toNat) 0)) (by kernel_rfl) (by kernel_rfl) (pv_load_own 1 rfl rfl (by kernel_rfl) (iv_get (i := ((en ((lvn ns i_).list) k).node).toNat) (by rw [hok_.named]; omega))) ?_
              refine Rg.pure (d := 129) (op := .binOp .add 3 (.tmp 128) (.const (.int .i64 1)) 3) (g := none) (v := .int .i64 ((((entN ns (lvi ns i_) (lvn ns i_).list (chkN ns i_) k).named).getD (((en ((lvn ns i_).list) k).node).toNat) 0) + 1)) (by kernel_rfl) (by kernel_rfl) (pv_addb rfl rfl (in_i64 (by omega) (by omega))) ?_
              refine Rg.pure (d := 130) (op := .indexAddr 124 (.tmp 124) (.tmp 126)) (g := none) (v := .pointer (some ⟨z_2, 0 + ((en ((lvn ns i_).list) k).node).toNat * 1, none⟩)) (by kernel_rfl) (by kernel_rfl) (pv_indexAddr rfl rfl (e := 3) (sz := 1) (by kernel_rfl) (by omega) (by omega)) ?_
              refine rg_store_own (t := 3) (x := .tmp 130) (y := .tmp 129) (g := none) 1 (by kernel_rfl) (by kernel_rfl) rfl rfl rfl (by kernel_rfl) rfl rfl (by rw [iv_length]; exact iv_lt (by rw [hok_.named]; omega)) ?_
              rw [show (iv ((entN ns (lvi ns i_) (lvn ns i_).list (chkN ns i_) k).named)).set (0 + ((en ((lvn ns i_).list) k).node).toNat * 1) (.int .i64 ((((entN ns (lvi ns i_) (lvn ns i_).list (chkN ns i_) k).named).getD (((en ((lvn ns i_).list) k).node).toNat) 0) + 1)) = iv (((entN ns (lvi ns i_) (lvn ns i_).list (chkN ns i_) k).named).set (((en ((lvn ns i_).list) k).node).toNat) ((((entN ns (lvi ns i_) (lvn ns i_).list (chkN ns i_) k).named).getD (((en ((lvn ns i_).list) k).node).toNat) 0) + 1)) from iv_set (i := ((en ((lvn ns i_).list) k).node).toNat) _]
              refine Rg.fin rfl ?_
              refine at_codeS [0, 1, 2, 3, 4, 5, 6, 7, 8, 9, 10, 11, 12, 13, 14] [(1, _), (2, _), (5, _), (6, _), (7, _), (8, _), (11, _), (118, _), (119, _), (120, _), (121, _), (122, _), (123, _), (124, _), (125, _), (126, _), (127, _), (128, _), (129, _), (130, _)] [blk b14 (.cells #[.string ((en ((lvn ns i_).list) k).name), .int .i64 ((en ((lvn ns i_).list) k).node), .int .u64 ((en ((lvn ns i_).list) k).cookie)] 50 (0, 0)), own 3 1 (some ⟨z_2, 0, none⟩) ns.length ns.length (iv (((entN ns (lvi ns i_) (lvn ns i_).list (chkN ns i_) k).named).set (((en ((lvn ns i_).list) k).node).toNat) ((((entN ns (lvi ns i_) (lvn ns i_).list (chkN ns i_) k).named).getD (((en ((lvn ns i_).list) k).node).toNat) 0) + 1))), own 3 1 (some ⟨z_4, 0, none⟩) ns.length ns.length (iv (entN ns (lvi ns i_) (lvn ns i_).list (chkN ns i_) k).subs), own 3 1 (some ⟨z_6, 0, none⟩) ns.length ns.length (iv (entN ns (lvi ns i_) (lvn ns i_).list (chkN ns i_) k).home), mapItem (intKey .u32) r_0 (gensN ns (i_ + 1) : List (Int × Int)), blk b_7 (.cells #[.map (some r_0)] 123 (0, 0)), blk b_8 (.cells #[.slice (some ⟨z_2, 0, none⟩) ns.length ns.length] 124 (0, 0)), blk b_9 (.cells #[.slice (some ⟨z_4, 0, none⟩) ns.length ns.length] 124 (0, 0)), blk b_10 (.cells #[.slice (some ⟨z_6, 0, none⟩) ns.length ns.length] 124 (0, 0)), blk b1 (.cells #[.slice p ns.length cap, .int .u32 gen] 25 (0, 0)), blk b2 (.cells #[.bool false] 4 (0, 0)), blk l (.loop (F.rc .busy none)), blk Db0 (.deferred (some [])), fr, base w (Low w)] (.cons rfl (.cons rfl (.cons rfl (.cons rfl (.cons rfl (.cons rfl (.cons rfl (.cons rfl (.cons rfl (.cons rfl (.cons rfl (.cons rfl (.cons rfl (.cons rfl (.cons rfl (.cons rfl (.cons rfl (.cons rfl (.cons rfl (.cons rfl (.nil _))))))))))))))))))))) rfl (by decide) (fun _ _ h => h) ?_
              refine ev_seq (by kernel_rfl) ?_
              refine ev_region (n := 6) (by kernel_rfl) ?_
              refine Rg.pure (d := 131) (op := .load 124 (.tmp 7)) (g := none) (v := .slice (some ⟨z_6, 0, none⟩) ns.length ns.length) (by kernel_rfl) (by kernel_rfl) (pv_load_blk 8 rfl rfl (by kernel_rfl) rfl) ?_
              refine Rg.pure (d := 132) (op := .fieldAddr 50 (.tmp 11) 1) (g := none) (v := .pointer (some ⟨b14, 0 + 1, none⟩)) (by kernel_rfl) (by kernel_rfl) (pv_fieldAddr rfl (n := 1) (by kernel_rfl)) ?_
              refine Rg.pure (d := 133) (op := .load 3 (.tmp 132)) (g := none) (v := .int .i64 ((en ((lvn ns i_).list) k).node)) (by kernel_rfl) (by kernel_rfl) (pv_load_blk 0 rfl rfl (by kernel_rfl) rfl) ?_
              refine Rg.pure (d := 134) (op := .move (.tmp 8)) (g := none) (v := .int .i64 ((lvi ns i_ : Nat) : Int)) (by kernel_rfl) (by kernel_rfl) (pv_move rfl) ?_
              refine Rg.pure (d := 135) (op := .indexAddr 124 (.tmp 131) (.tmp 133)) (g := none) (v := .pointer (some ⟨z_6, 0 + ((en ((lvn ns i_).list) k).node).toNat * 1, none⟩)) (by kernel_rfl) (by kernel_rfl) (pv_indexAddr rfl rfl (e := 3) (sz := 1) (by kernel_rfl) (by omega) (by omega)) ?_
              refine rg_store_own (t := 3) (x := .tmp 135) (y := .tmp 134) (g := none) 3 (by kernel_rfl) (by kernel_rfl) rfl rfl rfl (by kernel_rfl) rfl rfl (by rw [iv_length]; exact iv_lt (by rw [hok_.home]; omega)) ?_
              rw [show (iv ((entN ns (lvi ns i_) (lvn ns i_).list (chkN ns i_) k).home)).set (0 + ((en ((lvn ns i_).list) k).node).toNat * 1) (.int .i64 ((lvi ns i_ : Nat) : Int)) = iv (((entN ns (lvi ns i_) (lvn ns i_).list (chkN ns i_) k).home).set (((en ((lvn ns i_).list) k).node).toNat) ((lvi ns i_ : Nat) : Int)) from iv_set (i := ((en ((lvn ns i_).list) k).node).toNat) _]
              refine Rg.fin rfl ?_
              refine at_codeS [0, 1, 2, 3, 4, 5, 6, 7, 8, 9, 10, 11, 12, 13, 14] [(1, _), (2, _), (5, _), (6, _), (7, _), (8, _), (11, _), (118, _), (119, _), (120, _), (121, _), (122, _), (123, _), (124, _), (125, _), (126, _), (127, _), (128, _), (129, _), (130, _), (131, _), (132, _), (133, _), (134, _), (135, _)] [blk b14 (.cells #[.string ((en ((lvn ns i_).list) k).name), .int .i64 ((en ((lvn ns i_).list) k).node), .int .u64 ((en ((lvn ns i_).list) k).cookie)] 50 (0, 0)), own 3 1 (some ⟨z_2, 0, none⟩) ns.length ns.length (iv (((entN ns (lvi ns i_) (lvn ns i_).list (chkN ns i_) k).named).set (((en ((lvn ns i_).list) k).node).toNat) ((((entN ns (lvi ns i_) (lvn ns i_).list (chkN ns i_) k).named).getD (((en ((lvn ns i_).list) k).node).toNat) 0) + 1))), own 3 1 (some ⟨z_4, 0, none⟩) ns.length ns.length (iv (entN ns (lvi ns i_) (lvn ns i_).list (chkN ns i_) k).subs), own 3 1 (some ⟨z_6, 0, none⟩) ns.length ns.length (iv (((entN ns (lvi ns i_) (lvn ns i_).list (chkN ns i_) k).home).set (((en ((lvn ns i_).list) k).node).toNat) ((lvi ns i_ : Nat) : Int))), mapItem (intKey .u32) r_0 (gensN ns (i_ + 1) : List (Int × Int)), blk b_7 (.cells #[.map (some r_0)] 123 (0, 0)), blk b_8 (.cells #[.slice (some ⟨z_2, 0, none⟩) ns.length ns.length] 124 (0, 0)), blk b_9 (.cells #[.slice (some ⟨z_4, 0, none⟩) ns.length ns.length] 124 (0, 0)), blk b_10 (.cells #[.slice (some ⟨z_6, 0, none⟩) ns.length ns.length] 124 (0, 0)), blk b1 (.cells #[.slice p ns.length cap, .int .u32 gen] 25 (0, 0)), blk b2 (.cells #[.bool false] 4 (0, 0)), blk l (.loop (F.rc .busy none)), blk Db0 (.deferred (some [])), fr, base w (Low w)] (.cons rfl (.cons rfl (.cons rfl (.cons rfl (.cons rfl (.cons rfl (.cons rfl (.cons rfl (.cons rfl (.cons rfl (.cons rfl (.cons rfl (.cons rfl (.cons rfl (.cons rfl (.cons rfl (.cons rfl (.cons rfl (.cons rfl (.cons rfl (.cons rfl (.cons rfl (.cons rfl (.cons rfl (.cons rfl (.nil _)))))))))))))))))))))))))) rfl (by decide) (fun _ _ h => h) ?_
              refine ev_seq (by kernel_rfl) ?_
              refine ev_region (n := 4) (by kernel_rfl) ?_
              refine Rg.pure (d := 136) (op := .load 25 (.tmp 1)) (g := none) (v := .agg #[.slice p ns.length cap, .int .u32 gen]) (by kernel_rfl) (by kernel_rfl) (pv_load_blk_whole 9 rfl rfl (by kernel_rfl) (by kernel_rfl)) ?_
              refine Rg.pure (d := 137) (op := .fieldAddr 50 (.tmp 11) 1) (g := none) (v := .pointer (some ⟨b14, 0 + 1, none⟩)) (by kernel_rfl) (by kernel_rfl) (pv_fieldAddr rfl (n := 1) (by kernel_rfl)) ?_
              refine Rg.pure (d := 138) (op := .load 3 (.tmp 137)) (g := none) (v := .int .i64 ((en ((lvn ns i_).list) k).node)) (by kernel_rfl) (by kernel_rfl) (pv_load_blk 0 rfl rfl (by kernel_rfl) rfl) ?_
              refine rg_call (d := some 139) (f := 53) (xs := #[.tmp 136, .tmp 138, .const (.int .u32 2)]) (ts := #[25, 3, 33]) (g := none) (v := .bool (isS ns ((en ((lvn ns i_).list) k).node) 2)) (by kernel_rfl) (by kernel_rfl) (by kernel_rfl) rfl (fun w hw => is_calls ((hT).keep (hw.at_ 14 rfl) (fun k hk => hw.lt 14 rfl hk))) ?_
              refine Rg.fin rfl ?_
              refine at_codeS [0, 1, 2, 3, 4, 5, 6, 7, 8, 9, 10, 11, 12, 13, 14] [(1, _), (2, _), (5, _), (6, _), (7, _), (8, _), (11, _), (118, _), (119, _), (120, _), (121, _), (122, _), (123, _), (124, _), (125, _), (126, _), (127, _), (128, _), (129, _), (130, _), (131, _), (132, _), (133, _), (134, _), (135, _), (136, _), (137, _), (138, _), (139, _)] [blk b14 (.cells #[.string ((en ((lvn ns i_).list) k).name), .int .i64 ((en ((lvn ns i_).list) k).node), .int .u64 ((en ((lvn ns i_).list) k).cookie)] 50 (0, 0)), own 3 1 (some ⟨z_2, 0, none⟩) ns.length ns.length (iv (((entN ns (lvi ns i_) (lvn ns i_).list (chkN ns i_) k).named).set (((en ((lvn ns i_).list) k).node).toNat) ((((entN ns (lvi ns i_) (lvn ns i_).list (chkN ns i_) k).named).getD (((en ((lvn ns i_).list) k).node).toNat) 0) + 1))), own 3 1 (some ⟨z_4, 0, none⟩) ns.length ns.length (iv (entN ns (lvi ns i_) (lvn ns i_).list (chkN ns i_) k).subs), own 3 1 (some ⟨z_6, 0, none⟩) ns.length ns.length (iv (((entN ns (lvi ns i_) (lvn ns i_).list (chkN ns i_) k).home).set (((en ((lvn ns i_).list) k).node).toNat) ((lvi ns i_ : Nat) : Int))), mapItem (intKey .u32) r_0 (gensN ns (i_ + 1) : List (Int × Int)), blk b_7 (.cells #[.map (some r_0)] 123 (0, 0)), blk b_8 (.cells #[.slice (some ⟨z_2, 0, none⟩) ns.length ns.length] 124 (0, 0)), blk b_9 (.cells #[.slice (some ⟨z_4, 0, none⟩) ns.length ns.length] 124 (0, 0)), blk b_10 (.cells #[.slice (some ⟨z_6, 0, none⟩) ns.length ns.length] 124 (0, 0)), blk b1 (.cells #[.slice p ns.length cap, .int .u32 gen] 25 (0, 0)), blk b2 (.cells #[.bool false] 4 (0, 0)), blk l (.loop (F.rc .busy none)), blk Db0 (.deferred (some [])), fr, base w (Low w)] (.cons rfl (.cons rfl (.cons rfl (.cons rfl (.cons rfl (.cons rfl (.cons rfl (.cons rfl (.cons rfl (.cons rfl (.cons rfl (.cons rfl (.cons rfl (.cons rfl (.cons rfl (.cons rfl (.cons rfl (.cons rfl (.cons rfl (.cons rfl (.cons rfl (.cons rfl (.cons rfl (.cons rfl (.cons rfl (.cons rfl (.cons rfl (.cons rfl (.cons rfl (.nil _)))))))))))))))))))))))))))))) rfl (by decide) (fun _ _ h => h) ?_
              refine ev_cond (t := 139) (by kernel_rfl) rfl (fun h169 => ?_) (fun h169 => ?_)
              ·
                have ⟨h170, h171, h172, h173⟩ := isS_t h169
                refine ev_region (n := 7) (by kernel_rfl) ?_
                refine Rg.pure (d := 140) (op := .load 124 (.tmp 6)) (g := none) (v := .slice (some ⟨z_4, 0, none⟩) ns.length ns.length) (by kernel_rfl) (by kernel_rfl) (pv_load_blk 7 rfl rfl (by kernel_rfl) rfl) ?_
                refine Rg.pure (d := 141) (op := .move (.tmp 8)) (g := none) (v := .int .i64 ((lvi ns i_ : Nat) : Int)) (by kernel_rfl) (by kernel_rfl) (pv_move rfl) ?_
                refine Rg.pure (d := 142) (op := .indexAddr 124 (.tmp 140) (.tmp 141)) (g := none) (v := .pointer (some ⟨z_4, 0 + (((lvi ns i_ : Nat) : Int)).toNat * 1, none⟩)) (by kernel_rfl) (by kernel_rfl) (pv_indexAddr rfl rfl (e := 3) (sz := 1) (by kernel_rfl) (by omega) (by omega)) ?_
                refine Rg.pure (d := 143) (op := .load 3 (.tmp 142)) (g := none) (v := .int .i64 (((entN ns (lvi ns i_) (lvn ns i_).list (chkN ns i_) k).subs).getD (lvi ns i_) 0)) (by kernel_rfl) (by kernel_rfl) (pv_load_own 2 rfl rfl (by kernel_rfl) (iv_get (i := (lvi ns i_)) (by rw [hok_.subs]; omega))) ?_
                refine Rg.pure (d := 144) (op := .binOp .add 3 (.tmp 143) (.const (.int .i64 1)) 3) (g := none) (v := .int .i64 ((((entN ns (lvi ns i_) (lvn ns i_).list (chkN ns i_) k).subs).getD (lvi ns i_) 0) + 1)) (by kernel_rfl) (by kernel_rfl) (pv_addb rfl rfl (in_i64 (by omega) (by omega))) ?_
                refine Rg.pure (d := 145) (op := .indexAddr 124 (.tmp 140) (.tmp 141)) (g := none) (v := .pointer (some ⟨z_4, 0 + (((lvi ns i_ : Nat) : Int)).toNat * 1, none⟩)) (by kernel_rfl) (by kernel_rfl) (pv_indexAddr rfl rfl (e := 3) (sz := 1) (by kernel_rfl) (by omega) (by omega)) ?_
                refine rg_store_own (t := 3) (x := .tmp 145) (y := .tmp 144) (g := none) 2 (by kernel_rfl) (by kernel_rfl) rfl rfl rfl (by kernel_rfl) rfl rfl (by rw [iv_length]; exact iv_lt (by rw [hok_.subs]; omega)) ?_
                rw [show (iv ((entN ns (lvi ns i_) (lvn ns i_).list (chkN ns i_) k).subs)).set (0 + (((lvi ns i_ : Nat) : Int)).toNat * 1) (.int .i64 ((((entN ns (lvi ns i_) (lvn ns i_).list (chkN ns i_) k).subs).getD (lvi ns i_) 0) + 1)) = iv (((entN ns (lvi ns i_) (lvn ns i_).list (chkN ns i_) k).subs).set (lvi ns i_) ((((entN ns (lvi ns i_) (lvn ns i_).list (chkN ns i_) k).subs).getD (lvi ns i_) 0) + 1)) from iv_set (i := (lvi ns i_)) _]
                refine Rg.fin rfl ?_
                refine at_codeS [0, 1, 2, 3, 4, 5, 6, 7, 8, 9, 10, 11, 12, 13, 14] [(1, _), (2, _), (5, _), (6, _), (7, _), (8, _), (11, _), (118, _), (119, _), (120, _), (121, _), (122, _), (123, _), (124, _), (125, _), (126, _), (127, _), (128, _), (129, _), (130, _), (131, _), (132, _), (133, _), (134, _), (135, _), (136, _), (137, _), (138, _), (139, _), (140, _), (141, _), (142, _), (143, _), (144, _), (145, _)] [blk b14 (.cells #[.string ((en ((lvn ns i_).list) k).name), .int .i64 ((en ((lvn ns i_).list) k).node), .int .u64 ((en ((lvn ns i_).list) k).cookie)] 50 (0, 0)), own 3 1 (some ⟨z_2, 0, none⟩) ns.length ns.length (iv (((entN ns (lvi ns i_) (lvn ns i_).list (chkN ns i_) k).named).set (((en ((lvn ns i_).list) k).node).toNat) ((((entN ns (lvi ns i_) (lvn ns i_).list (chkN ns i_) k).named).getD (((en ((lvn ns i_).list) k).node).toNat) 0) + 1))), own 3 1 (some ⟨z_4, 0, none⟩) ns.length ns.length (iv (((entN ns (lvi ns i_) (lvn ns i_).list (chkN ns i_) k).subs).set (lvi ns i_) ((((entN ns (lvi ns i_) (lvn ns i_).list (chkN ns i_) k).subs).getD (lvi ns i_) 0) + 1))), own 3 1 (some ⟨z_6, 0, none⟩) ns.length ns.length (iv (((entN ns (lvi ns i_) (lvn ns i_).list (chkN ns i_) k).home).set (((en ((lvn ns i_).list) k).node).toNat) ((lvi ns i_ : Nat) : Int))), mapItem (intKey .u32) r_0 (gensN ns (i_ + 1) : List (Int × Int)), blk b_7 (.cells #[.map (some r_0)] 123 (0, 0)), blk b_8 (.cells #[.slice (some ⟨z_2, 0, none⟩) ns.length ns.length] 124 (0, 0)), blk b_9 (.cells #[.slice (some ⟨z_4, 0, none⟩) ns.length ns.length] 124 (0, 0)), blk b_10 (.cells #[.slice (some ⟨z_6, 0, none⟩) ns.length ns.length] 124 (0, 0)), blk b1 (.cells #[.slice p ns.length cap, .int .u32 gen] 25 (0, 0)), blk b2 (.cells #[.bool false] 4 (0, 0)), blk l (.loop (F.rc .busy none)), blk Db0 (.deferred (some [])), fr, base w (Low w)] (.cons rfl (.cons rfl (.cons rfl (.cons rfl (.cons rfl (.cons rfl (.cons rfl (.cons rfl (.cons rfl (.cons rfl (.cons rfl (.cons rfl (.cons rfl (.cons rfl (.cons rfl (.cons rfl (.cons rfl (.cons rfl (.cons rfl (.cons rfl (.cons rfl (.cons rfl (.cons rfl (.cons rfl (.cons rfl (.cons rfl (.cons rfl (.cons rfl (.cons rfl (.cons rfl (.cons rfl (.cons rfl (.cons rfl (.cons rfl (.cons rfl (.nil _)))))))))))))))))))))))))))))))))))) rfl (by decide) (fun _ _ h => h) ?_
                refine ev_region (n := 2) (by kernel_rfl) ?_
                refine Rg.pure (d := 146) (op := .binOp .add 3 (.tmp 120) (.const (.int .i64 1)) 3) (g := none) (v := .int .i64 ((k : Int) + 1)) (by kernel_rfl) (by kernel_rfl) (pv_addb rfl rfl (in_i64 (by omega) (by omega))) ?_
                refine Rg.pure (d := 120) (op := .move (.tmp 146)) (g := none) (v := .int .i64 ((k : Int) + 1)) (by kernel_rfl) (by kernel_rfl) (pv_move rfl) ?_
                refine Rg.fin rfl ?_
                refine At.round (fun _ _ h => h) (k + 1) [1, 2, 3, 4, 5, 6, 7, 8, 9, 10, 11, 12, 13, 14] (by omega) (by show (lvn ns i_).list.length - (k + 1) < (lvn ns i_).list.length - k; omega) (.cons (rfl) (.cons (rfl) (.cons (rfl) (.cons (rfl) (.cons (rfl) (.cons (rfl) (.cons (rfl) (.cons (rfl) (.cons (rfl) (.nil _)))))))))) (by show _ = [own 3 1 (some ⟨z_2, 0, none⟩) ns.length ns.length (iv (entN ns (lvi ns i_) (lvn ns i_).list (chkN ns i_) (k + 1)).named), own 3 1 (some ⟨z_4, 0, none⟩) ns.length ns.length (iv (entN ns (lvi ns i_) (lvn ns i_).list (chkN ns i_) (k + 1)).subs), own 3 1 (some ⟨z_6, 0, none⟩) ns.length ns.length (iv (entN ns (lvi ns i_) (lvn ns i_).list (chkN ns i_) (k + 1)).home), mapItem (intKey .u32) r_0 (gensN ns (i_ + 1) : List (Int × Int)), blk b_7 (.cells #[.map (some r_0)] 123 (0, 0)), blk b_8 (.cells #[.slice (some ⟨z_2, 0, none⟩) ns.length ns.length] 124 (0, 0)), blk b_9 (.cells #[.slice (some ⟨z_4, 0, none⟩) ns.length ns.length] 124 (0, 0)), blk b_10 (.cells #[.slice (some ⟨z_6, 0, none⟩) ns.length ns.length] 124 (0, 0)), blk b1 (.cells #[.slice p ns.length cap, .int .u32 gen] 25 (0, 0)), blk b2 (.cells #[.bool false] 4 (0, 0)), blk l (.loop (F.rc .busy none)), blk Db0 (.deferred (some [])), fr, base w (Low w)]; rw [entN_subs_t h169]; rfl) (by decide)
              ·
                refine ev_skip (by kernel_rfl) ?_
                refine at_codeS [0, 1, 2, 3, 4, 5, 6, 7, 8, 9, 10, 11, 12, 13, 14] [(1, _), (2, _), (5, _), (6, _), (7, _), (8, _), (11, _), (118, _), (119, _), (120, _), (121, _), (122, _), (123, _), (124, _), (125, _), (126, _), (127, _), (128, _), (129, _), (130, _), (131, _), (132, _), (133, _), (134, _), (135, _), (136, _), (137, _), (138, _), (139, _)] [blk b14 (.cells #[.string ((en ((lvn ns i_).list) k).name), .int .i64 ((en ((lvn ns i_).list) k).node), .int .u64 ((en ((lvn ns i_).list) k).cookie)] 50 (0, 0)), own 3 1 (some ⟨z_2, 0, none⟩) ns.length ns.length (iv (((entN ns (lvi ns i_) (lvn ns i_).list (chkN ns i_) k).named).set (((en ((lvn ns i_).list) k).node).toNat) ((((entN ns (lvi ns i_) (lvn ns i_).list (chkN ns i_) k).named).getD (((en ((lvn ns i_).list) k).node).toNat) 0) + 1))), own 3 1 (some ⟨z_4, 0, none⟩) ns.length ns.length (iv (entN ns (lvi ns i_) (lvn ns i_).list (chkN ns i_) k).subs), own 3 1 (some ⟨z_6, 0, none⟩) ns.length ns.length (iv (((entN ns (lvi ns i_) (lvn ns i_).list (chkN ns i_) k).home).set (((en ((lvn ns i_).list) k).node).toNat) ((lvi ns i_ : Nat) : Int))), mapItem (intKey .u32) r_0 (gensN ns (i_ + 1) : List (Int × Int)), blk b_7 (.cells #[.map (some r_0)] 123 (0, 0)), blk b_8 (.cells #[.slice (some ⟨z_2, 0, none⟩) ns.length ns.length] 124 (0, 0)), blk b_9 (.cells #[.slice (some ⟨z_4, 0, none⟩) ns.length ns.length] 124 (0, 0)), blk b_10 (.cells #[.slice (some ⟨z_6, 0, none⟩) ns.length ns.length] 124 (0, 0)), blk b1 (.cells #[.slice p ns.length cap, .int .u32 gen] 25 (0, 0)), blk b2 (.cells #[.bool false] 4 (0, 0)), blk l (.loop (F.rc .busy none)), blk Db0 (.deferred (some [])), fr, base w (Low w)] (.cons rfl (.cons rfl (.cons rfl (.cons rfl (.cons rfl (.cons rfl (.cons rfl (.cons rfl (.cons rfl (.cons rfl (.cons rfl (.cons rfl (.cons rfl (.cons rfl (.cons rfl (.cons rfl (.cons rfl (.cons rfl (.cons rfl (.cons rfl (.cons rfl (.cons rfl (.cons rfl (.cons rfl (.cons rfl (.cons rfl (.cons rfl (.cons rfl (.cons rfl (.nil _)))))))))))))))))))))))))))))) rfl (by decide) (fun _ _ h => h) ?_
                refine ev_region (n := 2) (by kernel_rfl) ?_
                refine Rg.pure (d := 146) (op := .binOp .add 3 (.tmp 120) (.const (.int .i64 1)) 3) (g := none) (v := .int .i64 ((k : Int) + 1)) (by kernel_rfl) (by kernel_rfl) (pv_addb rfl rfl (in_i64 (by omega) (by omega))) ?_
                refine Rg.pure (d := 120) (op := .move (.tmp 146)) (g := none) (v := .int .i64 ((k : Int) + 1)) (by kernel_rfl) (by kernel_rfl) (pv_move rfl) ?_
                refine Rg.fin rfl ?_
                refine At.round (fun _ _ h => h) (k + 1) [1, 2, 3, 4, 5, 6, 7, 8, 9, 10, 11, 12, 13, 14] (by omega) (by show (lvn ns i_).list.length - (k + 1) < (lvn ns i_).list.length - k; omega) (.cons (rfl) (.cons (rfl) (.cons (rfl) (.cons (rfl) (.cons (rfl) (.cons (rfl) (.cons (rfl) (.cons (rfl) (.cons (rfl) (.nil _)))))))))) (by show _ = [own 3 1 (some ⟨z_2, 0, none⟩) ns.length ns.length (iv (entN ns (lvi ns i_) (lvn ns i_).list (chkN ns i_) (k + 1)).named), own 3 1 (some ⟨z_4, 0, none⟩) ns.length ns.length (iv (entN ns (lvi ns i_) (lvn ns i_).list (chkN ns i_) (k + 1)).subs), own 3 1 (some ⟨z_6, 0, none⟩) ns.length ns.length (iv (entN ns (lvi ns i_) (lvn ns i_).list (chkN ns i_) (k + 1)).home), mapItem (intKey .u32) r_0 (gensN ns (i_ + 1) : List (Int × Int)), blk b_7 (.cells #[.map (some r_0)] 123 (0, 0)), blk b_8 (.cells #[.slice (some ⟨z_2, 0, none⟩) ns.length ns.length] 124 (0, 0)), blk b_9 (.cells #[.slice (some ⟨z_4, 0, none⟩) ns.length ns.length] 124 (0, 0)), blk b_10 (.cells #[.slice (some ⟨z_6, 0, none⟩) ns.length ns.length] 124 (0, 0)), blk b1 (.cells #[.slice p ns.length cap, .int .u32 gen] 25 (0, 0)), blk b2 (.cells #[.bool false] 4 (0, 0)), blk l (.loop (F.rc .busy none)), blk Db0 (.deferred (some [])), fr, base w (Low w)]; rw [entN_subs_f h169]; rfl) (by decide)
            ·
              have h174 := of_decide_eq_false h167
              refine ev_exit (id := 2) (by kernel_rfl) ?_
              refine At.via (Q := Qr) hQr ?_
              refine at_roundEnd () 10 rfl (fun w hw => by have e_ : k = (lvn ns i_).list.length := (by omega); subst e_; exact (hw.addFact (show ∀ m, m < i_ + 1 → bad1 ns gen m = false from fun m hm => by rcases Nat.lt_succ_iff_lt_or_eq.1 hm with h1_ | h1_; exact hno m h1_; subst h1_; exact hgood_)).pick [1, 2, 3, 4, 5, 6, 7, 8, 9, 10, 0, 11, 12, 13, 14] (by decide))
        ·
          intro Db0 u_
          rw [show (livRows ns).length = (liv ns).length from livRows_length ns]
          refine At.factAt 10 rfl (fun hno1 => ?_)
          refine at_codeS [0, 1, 2, 3, 4, 5, 6, 7, 8, 9, 10, 11, 12] [(1, _), (2, _), (5, _), (6, _), (7, _)] [own 3 1 (some ⟨z_2, 0, none⟩) ns.length ns.length (iv (chkN ns (liv ns).length).named), own 3 1 (some ⟨z_4, 0, none⟩) ns.length ns.length (iv (chkN ns (liv ns).length).subs), own 3 1 (some ⟨z_6, 0, none⟩) ns.length ns.length (iv (chkN ns (liv ns).length).home), mapItem (intKey .u32) r_0 (gensN ns (liv ns).length : List (Int × Int)), blk b_7 (.cells #[.map (some r_0)] 123 (0, 0)), blk b_8 (.cells #[.slice (some ⟨z_2, 0, none⟩) ns.length ns.length] 124 (0, 0)), blk b_9 (.cells #[.slice (some ⟨z_4, 0, none⟩) ns.length ns.length] 124 (0, 0)), blk b_10 (.cells #[.slice (some ⟨z_6, 0, none⟩) ns.length ns.length] 124 (0, 0)), blk b1 (.cells #[.slice p ns.length cap, .int .u32 gen] 25 (0, 0)), blk b2 (.cells #[.bool false] 4 (0, 0)), fact (∀ m, m < (liv ns).length → bad1 ns gen m = false), blk Db0 (.deferred (some [])), base w (Low w)] (.cons rfl (.cons rfl (.cons rfl (.cons rfl (.cons rfl (.nil _)))))) rfl (by decide) (fun _ _ h => h) ?_
          refine ev_seq (by kernel_rfl) ?_
          refine ev_seq (by kernel_rfl) ?_
          refine ev_region (n := 2) (by kernel_rfl) ?_
          refine Rg.pure (d := 147) (op := .load 25 (.tmp 1)) (g := none) (v := .agg #[.slice p ns.length cap, .int .u32 gen]) (by kernel_rfl) (by kernel_rfl) (pv_load_blk_whole 8 rfl rfl (by kernel_rfl) (by kernel_rfl)) ?_
          refine rg_callN (T := Nat) (d := some 148) (f := 58) (fo := .func 58) (caps := #[]) (xs := #[.tmp 147]) (ts := #[25]) (g := none) (v := fun b15 => .func (.func 112) #[] #[.pointer (some ⟨b15, 0, none⟩)]) (L := fun b15 => [blk b15 (.cells #[.slice p ns.length cap, .int .u32 gen] 25 (0, 0))]) (by kernel_rfl) (by kernel_rfl) rfl (by kernel_rfl) rfl (fun w hw => living_calls) ?_
          rintro b15 _
          dsimp only [putE, List.append, HAppend.hAppend, Append.append]
          refine Rg.fin rfl ?_
          refine at_codeS [0, 1, 2, 3, 4, 5, 6, 7, 8, 9, 10, 11, 12, 13] [(1, _), (2, _), (5, _), (6, _), (7, _), (148, _)] [blk b15 (.cells #[.slice p ns.length cap, .int .u32 gen] 25 (0, 0)), own 3 1 (some ⟨z_2, 0, none⟩) ns.length ns.length (iv (chkN ns (liv ns).length).named), own 3 1 (some ⟨z_4, 0, none⟩) ns.length ns.length (iv (chkN ns (liv ns).length).subs), own 3 1 (some ⟨z_6, 0, none⟩) ns.length ns.length (iv (chkN ns (liv ns).length).home), mapItem (intKey .u32) r_0 (gensN ns (liv ns).length : List (Int × Int)), blk b_7 (.cells #[.map (some r_0)] 123 (0, 0)), blk b_8 (.cells #[.slice (some ⟨z_2, 0, none⟩) ns.length ns.length] 124 (0, 0)), blk b_9 (.cells #[.slice (some ⟨z_4, 0, none⟩) ns.length ns.length] 124 (0, 0)), blk b_10 (.cells #[.slice (some ⟨z_6, 0, none⟩) ns.length ns.length] 124 (0, 0)), blk b1 (.cells #[.slice p ns.length cap, .int .u32 gen] 25 (0, 0)), blk b2 (.cells #[.bool false] 4 (0, 0)), fact (∀ m, m < (liv ns).length → bad1 ns gen m = false), blk Db0 (.deferred (some [])), base w (Low w)] (.cons rfl (.cons rfl (.cons rfl (.cons rfl (.cons rfl (.cons rfl (.nil _))))))) rfl (by decide) (fun _ _ h => h) ?_
          refine ev_block (id := 4) (by kernel_rfl) ?_
          refine Ev.addFact (show ∀ m, m < 0 → bad2 ns m = false from fun m hm => absurd hm (Nat.not_lt_zero _)) ?_
          refine ev_rangeFunc (T := Unit) (t := 148) (ps := #[149, 150]) (gf := 112) (caps := #[.pointer (some ⟨b15, 0, none⟩)]) (livRows ns) (fun i_ u_ => [own 3 1 (some ⟨z_2, 0, none⟩) ns.length ns.length (iv (chkN ns (liv ns).length).named), own 3 1 (some ⟨z_4, 0, none⟩) ns.length ns.length (iv (chkN ns (liv ns).length).subs), own 3 1 (some ⟨z_6, 0, none⟩) ns.length ns.length (iv (chkN ns (liv ns).length).home), blk b_8 (.cells #[.slice (some ⟨z_2, 0, none⟩) ns.length ns.length] 124 (0, 0)), blk b_9 (.cells #[.slice (some ⟨z_4, 0, none⟩) ns.length ns.length] 124 (0, 0)), blk b_10 (.cells #[.slice (some ⟨z_6, 0, none⟩) ns.length ns.length] 124 (0, 0)), blk b1 (.cells #[.slice p ns.length cap, .int .u32 gen] 25 (0, 0)), blk b2 (.cells #[.bool false] 4 (0, 0)), fact (∀ m, m < i_ → bad2 ns m = false), blk Db0 (.deferred (some []))]) (fun i_ u_ => [blk b2 (.cells #[.bool false] 4 (0, 0)), fact (∃ m, m < (liv ns).length ∧ bad2 ns m = true), blk Db0 (.deferred (some []))]) (.ret) () [blk b15 (.cells #[.slice p ns.length cap, .int .u32 gen] 25 (0, 0))] [base w (Low w)] (by kernel_rfl) rfl rfl (by kernel_rfl) (by kernel_rfl) (by intro x hx; simp only [livRows, List.mem_map] at hx; obtain ⟨i, _, rfl⟩ := hx; rfl) (fun w hw => hw.pick [2, 3, 4, 7, 8, 9, 10, 11, 0, 13, 1, 14] (by decide)) (living1_iter hT hlen) ?_ ?_ ?_
          ·
            intro F l Db1 i_ u_ fr hn
            have hn_ := hn
            rw [show (livRows ns).length = (liv ns).length from livRows_length ns] at hn_
            rw [show (livRows ns).getD i_ [] = [.int .i64 ((lvi ns i_ : Nat) : Int), .agg ((lvn ns i_).cells)] from (livRows_get (by rw [livRows_length] at hn; exact hn))]
            refine Ev.weak (E' := [(1, .pointer (some ⟨b1, 0, none⟩)), (2, .pointer (some ⟨b2, 0, none⟩)), (5, .pointer (some ⟨b_8, 0, none⟩)), (6, .pointer (some ⟨b_9, 0, none⟩)), (7, .pointer (some ⟨b_10, 0, none⟩)), (149, .int .i64 ((lvi ns i_ : Nat) : Int)), (150, .agg ((lvn ns i_).cells))]) (S' := [own 3 1 (some ⟨z_2, 0, none⟩) ns.length ns.length (iv (chkN ns (liv ns).length).named), own 3 1 (some ⟨z_4, 0, none⟩) ns.length ns.length (iv (chkN ns (liv ns).length).subs), own 3 1 (some ⟨z_6, 0, none⟩) ns.length ns.length (iv (chkN ns (liv ns).length).home), blk b_8 (.cells #[.slice (some ⟨z_2, 0, none⟩) ns.length ns.length] 124 (0, 0)), blk b_9 (.cells #[.slice (some ⟨z_4, 0, none⟩) ns.length ns.length] 124 (0, 0)), blk b_10 (.cells #[.slice (some ⟨z_6, 0, none⟩) ns.length ns.length] 124 (0, 0)), blk b1 (.cells #[.slice p ns.length cap, .int .u32 gen] 25 (0, 0)), blk b2 (.cells #[.bool false] 4 (0, 0)), fact (∀ m, m < i_ → bad2 ns m = false), blk Db0 (.deferred (some [])), blk l (.loop (F.rc .ready none)), blk Db1 (.deferred (some [])), fr, base w (Low w)]) [0, 1, 2, 3, 4, 5, 6, 7, 8, 9, 10, 11, 12, 13] (.cons (rfl) (.cons (rfl) (.cons (rfl) (.cons (rfl) (.cons (rfl) (.cons (rfl) (.cons (rfl) (.nil _)))))))) rfl (by decide) ?_
            refine Ev.factAt 8 rfl (fun hno => ?_)
            have hlt_ := liv_get hn_
            have hnd_ := hW.node (lvi ns i_)
            have hlv_ : lvi ns i_ < ns.length := hlt_.1
            have hck_ := chkN_ok hW (liv ns).length
            have hcap_ := liv_short ns
            have hs0_ := hck_.s0 (lvi ns i_)
            have hs1_ := hck_.s1 (lvi ns i_)
            refine ev_seq (by kernel_rfl) ?_
            refine ev_region (n := 1) (by kernel_rfl) ?_
            refine Rg.pure (d := 12) (op := .assign (.tmp 149)) (g := none) (v := .int .i64 ((lvi ns i_ : Nat) : Int)) (by kernel_rfl) (by kernel_rfl) (pv_assign rfl) ?_
            refine Rg.fin rfl ?_
            refine at_codeS [0, 1, 2, 3, 4, 5, 6, 7, 8, 9, 10, 11, 12, 13] [(1, _), (2, _), (5, _), (6, _), (7, _), (12, _), (150, _)] [own 3 1 (some ⟨z_2, 0, none⟩) ns.length ns.length (iv (chkN ns (liv ns).length).named), own 3 1 (some ⟨z_4, 0, none⟩) ns.length ns.length (iv (chkN ns (liv ns).length).subs), own 3 1 (some ⟨z_6, 0, none⟩) ns.length ns.length (iv (chkN ns (liv ns).length).home), blk b_8 (.cells #[.slice (some ⟨z_2, 0, none⟩) ns.length ns.length] 124 (0, 0)), blk b_9 (.cells #[.slice (some ⟨z_4, 0, none⟩) ns.length ns.length] 124 (0, 0)), blk b_10 (.cells #[.slice (some ⟨z_6, 0, none⟩) ns.length ns.length] 124 (0, 0)), blk b1 (.cells #[.slice p ns.length cap, .int .u32 gen] 25 (0, 0)), blk b2 (.cells #[.bool false] 4 (0, 0)), fact (∀ m, m < i_ → bad2 ns m = false), blk Db0 (.deferred (some [])), blk l (.loop (F.rc .ready none)), blk Db1 (.deferred (some [])), fr, base w (Low w)] (.cons rfl (.cons rfl (.cons rfl (.cons rfl (.cons rfl (.cons rfl (.cons rfl (.nil _)))))))) rfl (by decide) (fun _ _ h => h) ?_
            refine ev_region (n := 2) (by kernel_rfl) ?_
            refine rg_alloc (d := 13) (t := 44) (g := none) (v := .agg #[.int .u32 0, .int .u32 0, .int .u32 0, .int .u32 0, .int .u32 0, .int .i64 0, .int .u32 0, .int .u32 0, .int .u32 0, .int .u32 0, .int .u32 0, .int .u32 0, .slice none 0 0, .int .u8 0, .int .u8 0, .int .u8 0, .int .u8 0, .int .u8 0, .int .u8 0, .int .u8 0, .int .u8 0, .string ⟨#[]⟩, .slice none 0 0, .int .i64 0, .int .u64 0]) (by kernel_rfl) (by kernel_rfl) (by kernel_rfl) ?_
            intro b16
            refine rg_store (t := 44) (x := .tmp 13) (y := .tmp 150) (g := none) (cs' := (lvn ns i_).cells) 0 (by kernel_rfl) (by kernel_rfl) rfl rfl rfl (by kernel_rfl) (Nat.le_of_ble_eq_true (by kernel_rfl)) (by kernel_rfl) (by kernel_rfl) ?_
            refine Rg.fin rfl ?_
            refine at_beginQ (E' := [(1, .pointer (some ⟨b1, 0, none⟩)), (2, .pointer (some ⟨b2, 0, none⟩)), (5, .pointer (some ⟨b_8, 0, none⟩)), (6, .pointer (some ⟨b_9, 0, none⟩)), (7, .pointer (some ⟨b_10, 0, none⟩)), (12, .int .i64 ((lvi ns i_ : Nat) : Int)), (13, .pointer (some ⟨b16, 0, none⟩))]) 11 [0, 1, 2, 3, 4, 5, 6, 7, 8, 9, 10, 11, 12, 13, 14] rfl rfl (.cons (rfl) (.cons (rfl) (.cons (rfl) (.cons (rfl) (.cons (rfl) (.cons (rfl) (.cons (rfl) (.nil _)))))))) (by decide) ?_
            intro Qr hQr
            refine ev_block (id := 5) (by kernel_rfl) ?_
            refine ev_seq (by kernel_rfl) ?_
            refine ev_quiet (n := 22) (E' := [(1, .pointer (some ⟨b1, 0, none⟩)), (2, .pointer (some ⟨b2, 0, none⟩)), (5, .pointer (some ⟨b_8, 0, none⟩)), (6, .pointer (some ⟨b_9, 0, none⟩)), (7, .pointer (some ⟨b_10, 0, none⟩)), (12, .int .i64 ((lvi ns i_ : Nat) : Int)), (13, .pointer (some ⟨b16, 0, none⟩)), (14, .bool (((!(decide (((lvn ns i_).links) = (((chkN ns (liv ns).length).named).getD (lvi ns i_) 0)))) || (decide ((((chkN ns (liv ns).length).named).getD (lvi ns i_) 0) < 1))) || (decide (200 < (((chkN ns (liv ns).length).named).getD (lvi ns i_) 0)))))]) (by kernel_rfl) (by kernel_rfl) ?_ ?_
            ·
              refine Qg.pure (d := 151) (op := .fieldAddr 44 (.tmp 13) 5) (g := none) (v := .pointer (some ⟨b16, 0 + 5, none⟩)) (by kernel_rfl) (by kernel_rfl) (pv_fieldAddr rfl (n := 5) (by kernel_rfl)) ?_
              refine Qg.pure (d := 152) (op := .load 3 (.tmp 151)) (g := none) (v := .int .i64 ((lvn ns i_).links)) (by kernel_rfl) (by kernel_rfl) (pv_load_blk 0 rfl rfl (by kernel_rfl) rfl) ?_
              refine Qg.pure (d := 153) (op := .load 124 (.tmp 5)) (g := none) (v := .slice (some ⟨z_2, 0, none⟩) ns.length ns.length) (by kernel_rfl) (by kernel_rfl) (pv_load_blk 4 rfl rfl (by kernel_rfl) rfl) ?_
              refine Qg.pure (d := 154) (op := .move (.tmp 12)) (g := none) (v := .int .i64 ((lvi ns i_ : Nat) : Int)) (by kernel_rfl) (by kernel_rfl) (pv_move rfl) ?_
              refine Qg.pure (d := 155) (op := .indexAddr 124 (.tmp 153) (.tmp 154)) (g := none) (v := .pointer (some ⟨z_2, 0 + (((lvi ns i_ : Nat) : Int)).toNat * 1, none⟩)) (by kernel_rfl) (by kernel_rfl) (pv_indexAddr rfl rfl (e := 3) (sz := 1) (by kernel_rfl) (by omega) (by omega)) ?_
              refine Qg.pure (d := 156) (op := .load 3 (.tmp 155)) (g := none) (v := .int .i64 (((chkN ns (liv ns).length).named).getD (lvi ns i_) 0)) (by kernel_rfl) (by kernel_rfl) (pv_load_own 1 rfl rfl (by kernel_rfl) (iv_get (i := (lvi ns i_)) (by rw [hck_.named]; omega))) ?_
              refine Qg.pure (d := 157) (op := .binOp .neq 3 (.tmp 152) (.tmp 156) 3) (g := none) (v := .bool (!(decide (((lvn ns i_).links) = (((chkN ns (liv ns).length).named).getD (lvi ns i_) 0))))) (by kernel_rfl) (by kernel_rfl) (pv_neq rfl rfl) ?_
              refine Qg.pure (d := 158) (op := .move (.tmp 157)) (g := none) (v := .bool (!(decide (((lvn ns i_).links) = (((chkN ns (liv ns).length).named).getD (lvi ns i_) 0))))) (by kernel_rfl) (by kernel_rfl) (pv_move rfl) ?_
              refine Qg.split 14 [(164, .bool ((!(decide (((lvn ns i_).links) = (((chkN ns (liv ns).length).named).getD (lvi ns i_) 0)))) || (decide ((((chkN ns (liv ns).length).named).getD (lvi ns i_) 0) < 1)))), (1, .pointer (some ⟨b1, 0, none⟩)), (2, .pointer (some ⟨b2, 0, none⟩)), (5, .pointer (some ⟨b_8, 0, none⟩)), (6, .pointer (some ⟨b_9, 0, none⟩)), (7, .pointer (some ⟨b_10, 0, none⟩)), (12, .int .i64 ((lvi ns i_ : Nat) : Int)), (13, .pointer (some ⟨b16, 0, none⟩))] [blk b16 (.cells ((lvn ns i_).cells) 44 (0, 0)), own 3 1 (some ⟨z_2, 0, none⟩) ns.length ns.length (iv (chkN ns (liv ns).length).named), own 3 1 (some ⟨z_4, 0, none⟩) ns.length ns.length (iv (chkN ns (liv ns).length).subs), own 3 1 (some ⟨z_6, 0, none⟩) ns.length ns.length (iv (chkN ns (liv ns).length).home), blk b_8 (.cells #[.slice (some ⟨z_2, 0, none⟩) ns.length ns.length] 124 (0, 0)), blk b_9 (.cells #[.slice (some ⟨z_4, 0, none⟩) ns.length ns.length] 124 (0, 0)), blk b_10 (.cells #[.slice (some ⟨z_6, 0, none⟩) ns.length ns.length] 124 (0, 0)), blk b1 (.cells #[.slice p ns.length cap, .int .u32 gen] 25 (0, 0)), blk b2 (.cells #[.bool false] 4 (0, 0)), fact (∀ m, m < i_ → bad2 ns m = false), blk Db0 (.deferred (some [])), blk l (.loop (F.rc .busy none)), blk Db1 (.deferred (some [])), fr, base w (Low w)] (s := 158) (g := !(decide (((lvn ns i_).links) = (((chkN ns (liv ns).length).named).getD (lvi ns i_) 0)))) rfl (by decide) (fun h175 => ?_) (fun h175 => ?_) ?_
              ·
                refine Qg.skips 13 (by kernel_rfl) ?_
                refine Qg.pure (d := 164) (op := .pick (.tmp 158) (.const (.bool true)) (.tmp 163)) (g := none) (v := .bool true) (by kernel_rfl) (by kernel_rfl) (pv_pick_t rfl rfl) ?_
                exact Qg.mid (.cons (or_of_t h175 rfl) (.cons (rfl) (.cons (rfl) (.cons (rfl) (.cons (rfl) (.cons (rfl) (.cons (rfl) (.cons (rfl) (.nil _))))))))) rfl
              ·
                have h176 := not_f h175
                have h177 := of_decide_eq_true h176
                refine Qg.pure (d := 159) (op := .load 124 (.tmp 5)) (g := some (7, false)) (v := .slice (some ⟨z_2, 0, none⟩) ns.length ns.length) (by kernel_rfl) (by kernel_rfl) (pv_load_blk 4 rfl rfl (by kernel_rfl) rfl) ?_
                refine Qg.pure (d := 160) (op := .move (.tmp 12)) (g := some (7, false)) (v := .int .i64 ((lvi ns i_ : Nat) : Int)) (by kernel_rfl) (by kernel_rfl) (pv_move rfl) ?_
                refine Qg.pure (d := 161) (op := .indexAddr 124 (.tmp 159) (.tmp 160)) (g := some (7, false)) (v := .pointer (some ⟨z_2, 0 + (((lvi ns i_ : Nat) : Int)).toNat * 1, none⟩)) (by kernel_rfl) (by kernel_rfl) (pv_indexAddr rfl rfl (e := 3) (sz := 1) (by kernel_rfl) (by omega) (by omega)) ?_
                refine Qg.pure (d := 162) (op := .load 3 (.tmp 161)) (g := some (7, false)) (v := .int .i64 (((chkN ns (liv ns).length).named).getD (lvi ns i_) 0)) (by kernel_rfl) (by kernel_rfl) (pv_load_own 1 rfl rfl (by kernel_rfl) (iv_get (i := (lvi ns i_)) (by rw [hck_.named]; omega))) ?_
                refine Qg.pure (d := 163) (op := .binOp .lss 3 (.tmp 162) (.const (.int .i64 1)) 3) (g := some (7, false)) (v := .bool (decide ((((chkN ns (liv ns).length).named).getD (lvi ns i_) 0) < 1))) (by kernel_rfl) (by kernel_rfl) (pv_lss rfl rfl) ?_
                refine Qg.pure (d := 164) (op := .pick (.tmp 158) (.const (.bool true)) (.tmp 163)) (g := none) (v := .bool (decide ((((chkN ns (liv ns).length).named).getD (lvi ns i_) 0) < 1))) (by kernel_rfl) (by kernel_rfl) (pv_pick_f rfl rfl) ?_
                exact Qg.mid (.cons (or_of_f h175 rfl) (.cons (rfl) (.cons (rfl) (.cons (rfl) (.cons (rfl) (.cons (rfl) (.cons (rfl) (.cons (rfl) (.nil _))))))))) rfl
              refine Qg.pure (d := 165) (op := .move (.tmp 164)) (g := none) (v := .bool ((!(decide (((lvn ns i_).links) = (((chkN ns (liv ns).length).named).getD (lvi ns i_) 0)))) || (decide ((((chkN ns (liv ns).length).named).getD (lvi ns i_) 0) < 1)))) (by kernel_rfl) (by kernel_rfl) (pv_move rfl) ?_
              refine Qg.split 21 [(171, .bool (((!(decide (((lvn ns i_).links) = (((chkN ns (liv ns).length).named).getD (lvi ns i_) 0)))) || (decide ((((chkN ns (liv ns).length).named).getD (lvi ns i_) 0) < 1))) || (decide (200 < (((chkN ns (liv ns).length).named).getD (lvi ns i_) 0))))), (1, .pointer (some ⟨b1, 0, none⟩)), (2, .pointer (some ⟨b2, 0, none⟩)), (5, .pointer (some ⟨b_8, 0, none⟩)), (6, .pointer (some ⟨b_9, 0, none⟩)), (7, .pointer (some ⟨b_10, 0, none⟩)), (12, .int .i64 ((lvi ns i_ : Nat) : Int)), (13, .pointer (some ⟨b16, 0, none⟩))] [blk b16 (.cells ((lvn ns i_).cells) 44 (0, 0)), own 3 1 (some ⟨z_2, 0, none⟩) ns.length ns.length (iv (chkN ns (liv ns).length).named), own 3 1 (some ⟨z_4, 0, none⟩) ns.length ns.length (iv (chkN ns (liv ns).length).subs), own 3 1 (some ⟨z_6, 0, none⟩) ns.length ns.length (iv (chkN ns (liv ns).length).home), blk b_8 (.cells #[.slice (some ⟨z_2, 0, none⟩) ns.length ns.length] 124 (0, 0)), blk b_9 (.cells #[.slice (some ⟨z_4, 0, none⟩) ns.length ns.length] 124 (0, 0)), blk b_10 (.cells #[.slice (some ⟨z_6, 0, none⟩) ns.length ns.length] 124 (0, 0)), blk b1 (.cells #[.slice p ns.length cap, .int .u32 gen] 25 (0, 0)), blk b2 (.cells #[.bool false] 4 (0, 0)), fact (∀ m, m < i_ → bad2 ns m = false), blk Db0 (.deferred (some [])), blk l (.loop (F.rc .busy none)), blk Db1 (.deferred (some [])), fr, base w (Low w)] (s := 165) (g := (!(decide (((lvn ns i_).links) = (((chkN ns (liv ns).length).named).getD (lvi ns i_) 0)))) || (decide ((((chkN ns (liv ns).length).named).getD (lvi ns i_) 0) < 1))) rfl (by decide) (fun h178 => ?_) (fun h178 => ?_) ?_
              ·
                refine Qg.skips 20 (by kernel_rfl) ?_
                refine Qg.pure (d := 171) (op := .pick (.tmp 165) (.const (.bool true)) (.tmp 170)) (g := none) (v := .bool true) (by kernel_rfl) (by kernel_rfl) (pv_pick_t rfl rfl) ?_
                exact Qg.mid (.cons (or_of_t h178 rfl) (.cons (rfl) (.cons (rfl) (.cons (rfl) (.cons (rfl) (.cons (rfl) (.cons (rfl) (.cons (rfl) (.nil _))))))))) rfl
              ·
                have ⟨h179, h180⟩ := or_f h178
                have h181 := not_f h179
                have h182 := of_decide_eq_true h181
                have h183 := of_decide_eq_false h180
                refine Qg.pure (d := 166) (op := .load 124 (.tmp 5)) (g := some (14, false)) (v := .slice (some ⟨z_2, 0, none⟩) ns.length ns.length) (by kernel_rfl) (by kernel_rfl) (pv_load_blk 4 rfl rfl (by kernel_rfl) rfl) ?_
                refine Qg.pure (d := 167) (op := .move (.tmp 12)) (g := some (14, false)) (v := .int .i64 ((lvi ns i_ : Nat) : Int)) (by kernel_rfl) (by kernel_rfl) (pv_move rfl) ?_
                refine Qg.pure (d := 168) (op := .indexAddr 124 (.tmp 166) (.tmp 167)) (g := some (14, false)) (v := .pointer (some ⟨z_2, 0 + (((lvi ns i_ : Nat) : Int)).toNat * 1, none⟩)) (by kernel_rfl) (by kernel_rfl) (pv_indexAddr rfl rfl (e := 3) (sz := 1) (by kernel_rfl) (by omega) (by omega)) ?_
                refine Qg.pure (d := 169) (op := .load 3 (.tmp 168)) (g := some (14, false)) (v := .int .i64 (((chkN ns (liv ns).length).named).getD (lvi ns i_) 0)) (by kernel_rfl) (by kernel_rfl) (pv_load_own 1 rfl rfl (by kernel_rfl) (iv_get (i := (lvi ns i_)) (by rw [hck_.named]; omega))) ?_
                refine Qg.pure (d := 170) (op := .binOp .gtr 3 (.tmp 169) (.const (.int .i64 200)) 3) (g := some (14, false)) (v := .bool (decide (200 < (((chkN ns (liv ns).length).named).getD (lvi ns i_) 0)))) (by kernel_rfl) (by kernel_rfl) (pv_gtr rfl rfl) ?_
                refine Qg.pure (d := 171) (op := .pick (.tmp 165) (.const (.bool true)) (.tmp 170)) (g := none) (v := .bool (decide (200 < (((chkN ns (liv ns).length).named).getD (lvi ns i_) 0)))) (by kernel_rfl) (by kernel_rfl) (pv_pick_f rfl rfl) ?_
                exact Qg.mid (.cons (or_of_f h178 rfl) (.cons (rfl) (.cons (rfl) (.cons (rfl) (.cons (rfl) (.cons (rfl) (.cons (rfl) (.cons (rfl) (.nil _))))))))) rfl
              refine Qg.pure (d := 14) (op := .assign (.tmp 171)) (g := none) (v := .bool (((!(decide (((lvn ns i_).links) = (((chkN ns (liv ns).length).named).getD (lvi ns i_) 0)))) || (decide ((((chkN ns (liv ns).length).named).getD (lvi ns i_) 0) < 1))) || (decide (200 < (((chkN ns (liv ns).length).named).getD (lvi ns i_) 0))))) (by kernel_rfl) (by kernel_rfl) (pv_assign rfl) ?_
              exact Qg.mid (.cons rfl (.cons rfl (.cons rfl (.cons rfl (.cons rfl (.cons rfl (.cons rfl (.cons rfl (.nil _))))))))) rfl
            refine at_codeS [0, 1, 2, 3, 4, 5, 6, 7, 8, 9, 10, 11, 12, 13, 14] [(1, _), (2, _), (5, _), (6, _), (7, _), (12, _), (13, _), (14, _)] [blk b16 (.cells ((lvn ns i_).cells) 44 (0, 0)), own 3 1 (some ⟨z_2, 0, none⟩) ns.length ns.length (iv (chkN ns (liv ns).length).named), own 3 1 (some ⟨z_4, 0, none⟩) ns.length ns.length (iv (chkN ns (liv ns).length).subs), own 3 1 (some ⟨z_6, 0, none⟩) ns.length ns.length (iv (chkN ns (liv ns).length).home), blk b_8 (.cells #[.slice (some ⟨z_2, 0, none⟩) ns.length ns.length] 124 (0, 0)), blk b_9 (.cells #[.slice (some ⟨z_4, 0, none⟩) ns.length ns.length] 124 (0, 0)), blk b_10 (.cells #[.slice (some ⟨z_6, 0, none⟩) ns.length ns.length] 124 (0, 0)), blk b1 (.cells #[.slice p ns.length cap, .int .u32 gen] 25 (0, 0)), blk b2 (.cells #[.bool false] 4 (0, 0)), fact (∀ m, m < i_ → bad2 ns m = false), blk Db0 (.deferred (some [])), blk l (.loop (F.rc .busy none)), blk Db1 (.deferred (some [])), fr, base w (Low w)] (.cons rfl (.cons rfl (.cons rfl (.cons rfl (.cons rfl (.cons rfl (.cons rfl (.cons rfl (.nil _))))))))) rfl (by decide) (fun _ _ h => h) ?_
            refine ev_seq (by kernel_rfl) ?_
            refine ev_seq (by kernel_rfl) ?_
            refine ev_region (n := 3) (by kernel_rfl) ?_
            refine Rg.pure (d := 172) (op := .fieldAddr 44 (.tmp 13) 0) (g := none) (v := .pointer (some ⟨b16, 0 + 0, none⟩)) (by kernel_rfl) (by kernel_rfl) (pv_fieldAddr rfl (n := 0) (by kernel_rfl)) ?_
            refine Rg.pure (d := 173) (op := .load 33 (.tmp 172)) (g := none) (v := .int .u32 ((lvn ns i_).kind)) (by kernel_rfl) (by kernel_rfl) (pv_load_blk 0 rfl rfl (by kernel_rfl) rfl) ?_
            refine Rg.pure (d := 174) (op := .binOp .eql 33 (.tmp 173) (.const (.int .u32 2)) 33) (g := none) (v := .bool (decide (((lvn ns i_).kind) = 2))) (by kernel_rfl) (by kernel_rfl) (pv_eql rfl rfl) ?_
            refine Rg.fin rfl ?_
            refine at_codeS [0, 1, 2, 3, 4, 5, 6, 7, 8, 9, 10, 11, 12, 13, 14] [(1, _), (2, _), (5, _), (6, _), (7, _), (12, _), (13, _), (14, _), (174, _)] [blk b16 (.cells ((lvn ns i_).cells) 44 (0, 0)), own 3 1 (some ⟨z_2, 0, none⟩) ns.length ns.length (iv (chkN ns (liv ns).length).named), own 3 1 (some ⟨z_4, 0, none⟩) ns.length ns.length (iv (chkN ns (liv ns).length).subs), own 3 1 (some ⟨z_6, 0, none⟩) ns.length ns.length (iv (chkN ns (liv ns).length).home), blk b_8 (.cells #[.slice (some ⟨z_2, 0, none⟩) ns.length ns.length] 124 (0, 0)), blk b_9 (.cells #[.slice (some ⟨z_4, 0, none⟩) ns.length ns.length] 124 (0, 0)), blk b_10 (.cells #[.slice (some ⟨z_6, 0, none⟩) ns.length ns.length] 124 (0, 0)), blk b1 (.cells #[.slice p ns.length cap, .int .u32 gen] 25 (0, 0)), blk b2 (.cells #[.bool false] 4 (0, 0)), fact (∀ m, m < i_ → bad2 ns m = false), blk Db0 (.deferred (some [])), blk l (.loop (F.rc .busy none)), blk Db1 (.deferred (some [])), fr, base w (Low w)] (.cons rfl (.cons rfl (.cons rfl (.cons rfl (.cons rfl (.cons rfl (.cons rfl (.cons rfl (.cons rfl (.nil _)))))))))) rfl (by decide) (fun _ _ h => h) ?_
            refine ev_cond (t := 174) (by kernel_rfl) rfl (fun h184 => ?_) (fun h184 => ?_)
            ·
              have h185 := of_decide_eq_true h184
              refine ev_quiet (n := 35) (E' := [(2, .pointer (some ⟨b2, 0, none⟩)), (14, .bool ((!(decide (((lvn ns i_).links) = (2 + (((chkN ns (liv ns).length).subs).getD (lvi ns i_) 0))))) || ((decide (1 < ((lvi ns i_ : Nat) : Int))) && (((!(decide ((((chkN ns (liv ns).length).named).getD (lvi ns i_) 0) = 1))) || (!(decide ((((chkN ns (liv ns).length).home).getD (lvi ns i_) 0) = ((lvn ns i_).parent))))) || (!(withinS ns ((lvi ns i_ : Nat) : Int) 1))))))]) (by kernel_rfl) (by kernel_rfl) ?_ ?_
              ·
                refine Qg.pure (d := 175) (op := .fieldAddr 44 (.tmp 13) 5) (g := none) (v := .pointer (some ⟨b16, 0 + 5, none⟩)) (by kernel_rfl) (by kernel_rfl) (pv_fieldAddr rfl (n := 5) (by kernel_rfl)) ?_
                refine Qg.pure (d := 176) (op := .load 3 (.tmp 175)) (g := none) (v := .int .i64 ((lvn ns i_).links)) (by kernel_rfl) (by kernel_rfl) (pv_load_blk 0 rfl rfl (by kernel_rfl) rfl) ?_
                refine Qg.pure (d := 177) (op := .load 124 (.tmp 6)) (g := none) (v := .slice (some ⟨z_4, 0, none⟩) ns.length ns.length) (by kernel_rfl) (by kernel_rfl) (pv_load_blk 5 rfl rfl (by kernel_rfl) rfl) ?_
                refine Qg.pure (d := 178) (op := .move (.tmp 12)) (g := none) (v := .int .i64 ((lvi ns i_ : Nat) : Int)) (by kernel_rfl) (by kernel_rfl) (pv_move rfl) ?_
                refine Qg.pure (d := 179) (op := .indexAddr 124 (.tmp 177) (.tmp 178)) (g := none) (v := .pointer (some ⟨z_4, 0 + (((lvi ns i_ : Nat) : Int)).toNat * 1, none⟩)) (by kernel_rfl) (by kernel_rfl) (pv_indexAddr rfl rfl (e := 3) (sz := 1) (by kernel_rfl) (by omega) (by omega)) ?_
                refine Qg.pure (d := 180) (op := .load 3 (.tmp 179)) (g := none) (v := .int .i64 (((chkN ns (liv ns).length).subs).getD (lvi ns i_) 0)) (by kernel_rfl) (by kernel_rfl) (pv_load_own 2 rfl rfl (by kernel_rfl) (iv_get (i := (lvi ns i_)) (by rw [hck_.subs]; omega))) ?_
                refine Qg.pure (d := 181) (op := .binOp .add 3 (.const (.int .i64 2)) (.tmp 180) 3) (g := none) (v := .int .i64 (2 + (((chkN ns (liv ns).length).subs).getD (lvi ns i_) 0))) (by kernel_rfl) (by kernel_rfl) (pv_addb rfl rfl (in_i64 (by omega) (by omega))) ?_
                refine Qg.pure (d := 182) (op := .binOp .neq 3 (.tmp 176) (.tmp 181) 3) (g := none) (v := .bool (!(decide (((lvn ns i_).links) = (2 + (((chkN ns (liv ns).length).subs).getD (lvi ns i_) 0)))))) (by kernel_rfl) (by kernel_rfl) (pv_neq rfl rfl) ?_
                refine Qg.pure (d := 183) (op := .move (.tmp 182)) (g := none) (v := .bool (!(decide (((lvn ns i_).links) = (2 + (((chkN ns (liv ns).length).subs).getD (lvi ns i_) 0)))))) (by kernel_rfl) (by kernel_rfl) (pv_move rfl) ?_
                refine Qg.split 34 [(208, .bool ((!(decide (((lvn ns i_).links) = (2 + (((chkN ns (liv ns).length).subs).getD (lvi ns i_) 0))))) || ((decide (1 < ((lvi ns i_ : Nat) : Int))) && (((!(decide ((((chkN ns (liv ns).length).named).getD (lvi ns i_) 0) = 1))) || (!(decide ((((chkN ns (liv ns).length).home).getD (lvi ns i_) 0) = ((lvn ns i_).parent))))) || (!(withinS ns ((lvi ns i_ : Nat) : Int) 1)))))), (2, .pointer (some ⟨b2, 0, none⟩)), (14, .bool (((!(decide (((lvn ns i_).links) = (((chkN ns (liv ns).length).named).getD (lvi ns i_) 0)))) || (decide ((((chkN ns (liv ns).length).named).getD (lvi ns i_) 0) < 1))) || (decide (200 < (((chkN ns (liv ns).length).named).getD (lvi ns i_) 0)))))] [blk b16 (.cells ((lvn ns i_).cells) 44 (0, 0)), own 3 1 (some ⟨z_2, 0, none⟩) ns.length ns.length (iv (chkN ns (liv ns).length).named), own 3 1 (some ⟨z_4, 0, none⟩) ns.length ns.length (iv (chkN ns (liv ns).length).subs), own 3 1 (some ⟨z_6, 0, none⟩) ns.length ns.length (iv (chkN ns (liv ns).length).home), blk b_8 (.cells #[.slice (some ⟨z_2, 0, none⟩) ns.length ns.length] 124 (0, 0)), blk b_9 (.cells #[.slice (some ⟨z_4, 0, none⟩) ns.length ns.length] 124 (0, 0)), blk b_10 (.cells #[.slice (some ⟨z_6, 0, none⟩) ns.length ns.length] 124 (0, 0)), blk b1 (.cells #[.slice p ns.length cap, .int .u32 gen] 25 (0, 0)), blk b2 (.cells #[.bool false] 4 (0, 0)), fact (∀ m, m < i_ → bad2 ns m = false), blk Db0 (.deferred (some [])), blk l (.loop (F.rc .busy none)), blk Db1 (.deferred (some [])), fr, base w (Low w)] (s := 183) (g := !(decide (((lvn ns i_).links) = (2 + (((chkN ns (liv ns).length).subs).getD (lvi ns i_) 0))))) rfl (by decide) (fun h186 => ?_) (fun h186 => ?_) ?_
                ·
                  refine Qg.skips 33 (by kernel_rfl) ?_
                  refine Qg.pure (d := 208) (op := .pick (.tmp 183) (.const (.bool true)) (.tmp 207)) (g := none) (v := .bool true) (by kernel_rfl) (by kernel_rfl) (pv_pick_t rfl rfl) ?_
                  exact Qg.mid (.cons (or_of_t h186 rfl) (.cons (rfl) (.cons (rfl) (.nil _)))) rfl
                ·
                  have h187 := not_f h186
                  have h188 := of_decide_eq_true h187
                  refine Qg.pure (d := 184) (op := .move (.tmp 12)) (g := some (8, false)) (v := .int .i64 ((lvi ns i_ : Nat) : Int)) (by kernel_rfl) (by kernel_rfl) (pv_move rfl) ?_
                  refine Qg.pure (d := 185) (op := .binOp .gtr 3 (.tmp 184) (.const (.int .i64 1)) 3) (g := some (8, false)) (v := .bool (decide (1 < ((lvi ns i_ : Nat) : Int)))) (by kernel_rfl) (by kernel_rfl) (pv_gtr rfl rfl) ?_
                  refine Qg.pure (d := 186) (op := .move (.tmp 185)) (g := some (8, false)) (v := .bool (decide (1 < ((lvi ns i_ : Nat) : Int)))) (by kernel_rfl) (by kernel_rfl) (pv_move rfl) ?_
                  refine Qg.split 33 [(207, .bool ((decide (1 < ((lvi ns i_ : Nat) : Int))) && (((!(decide ((((chkN ns (liv ns).length).named).getD (lvi ns i_) 0) = 1))) || (!(decide ((((chkN ns (liv ns).length).home).getD (lvi ns i_) 0) = ((lvn ns i_).parent))))) || (!(withinS ns ((lvi ns i_ : Nat) : Int) 1))))), (2, .pointer (some ⟨b2, 0, none⟩)), (14, .bool (((!(decide (((lvn ns i_).links) = (((chkN ns (liv ns).length).named).getD (lvi ns i_) 0)))) || (decide ((((chkN ns (liv ns).length).named).getD (lvi ns i_) 0) < 1))) || (decide (200 < (((chkN ns (liv ns).length).named).getD (lvi ns i_) 0))))), (183, .bool false)] [blk b16 (.cells ((lvn ns i_).cells) 44 (0, 0)), own 3 1 (some ⟨z_2, 0, none⟩) ns.length ns.length (iv (chkN ns (liv ns).length).named), own 3 1 (some ⟨z_4, 0, none⟩) ns.length ns.length (iv (chkN ns (liv ns).length).subs), own 3 1 (some ⟨z_6, 0, none⟩) ns.length ns.length (iv (chkN ns (liv ns).length).home), blk b_8 (.cells #[.slice (some ⟨z_2, 0, none⟩) ns.length ns.length] 124 (0, 0)), blk b_9 (.cells #[.slice (some ⟨z_4, 0, none⟩) ns.length ns.length] 124 (0, 0)), blk b_10 (.cells #[.slice (some ⟨z_6, 0, none⟩) ns.length ns.length] 124 (0, 0)), blk b1 (.cells #[.slice p ns.length cap, .int .u32 gen] 25 (0, 0)), blk b2 (.cells #[.bool false] 4 (0, 0)), fact (∀ m, m < i_ → bad2 ns m = false), blk Db0 (.deferred (some [])), blk l (.loop (F.rc .busy none)), blk Db1 (.deferred (some [])), fr, base w (Low w)] (s := 186) (g := decide (1 < ((lvi ns i_ : Nat) : Int))) rfl (by decide) (fun h189 => ?_) (fun h189 => ?_) ?_
                  ·
                    have h190 := of_decide_eq_true h189
                    refine Qg.pure (d := 187) (op := .load 124 (.tmp 5)) (g := some (11, true)) (v := .slice (some ⟨z_2, 0, none⟩) ns.length ns.length) (by kernel_rfl) (by kernel_rfl) (pv_load_blk 4 rfl rfl (by kernel_rfl) rfl) ?_
                    refine Qg.pure (d := 188) (op := .move (.tmp 12)) (g := some (11, true)) (v := .int .i64 ((lvi ns i_ : Nat) : Int)) (by kernel_rfl) (by kernel_rfl) (pv_move rfl) ?_
                    refine Qg.pure (d := 189) (op := .indexAddr 124 (.tmp 187) (.tmp 188)) (g := some (11, true)) (v := .pointer (some ⟨z_2, 0 + (((lvi ns i_ : Nat) : Int)).toNat * 1, none⟩)) (by kernel_rfl) (by kernel_rfl) (pv_indexAddr rfl rfl (e := 3) (sz := 1) (by kernel_rfl) (by omega) (by omega)) ?_
                    refine Qg.pure (d := 190) (op := .load 3 (.tmp 189)) (g := some (11, true)) (v := .int .i64 (((chkN ns (liv ns).length).named).getD (lvi ns i_) 0)) (by kernel_rfl) (by kernel_rfl) (pv_load_own 1 rfl rfl (by kernel_rfl) (iv_get (i := (lvi ns i_)) (by rw [hck_.named]; omega))) ?_
                    refine Qg.pure (d := 191) (op := .binOp .neq 3 (.tmp 190) (.const (.int .i64 1)) 3) (g := some (11, true)) (v := .bool (!(decide ((((chkN ns (liv ns).length).named).getD (lvi ns i_) 0) = 1)))) (by kernel_rfl) (by kernel_rfl) (pv_neq rfl rfl) ?_
                    refine Qg.pure (d := 192) (op := .move (.tmp 191)) (g := some (11, true)) (v := .bool (!(decide ((((chkN ns (liv ns).length).named).getD (lvi ns i_) 0) = 1)))) (by kernel_rfl) (by kernel_rfl) (pv_move rfl) ?_
                    refine Qg.split 26 [(200, .bool ((!(decide ((((chkN ns (liv ns).length).named).getD (lvi ns i_) 0) = 1))) || (!(decide ((((chkN ns (liv ns).length).home).getD (lvi ns i_) 0) = ((lvn ns i_).parent)))))), (1, .pointer (some ⟨b1, 0, none⟩)), (2, .pointer (some ⟨b2, 0, none⟩)), (12, .int .i64 ((lvi ns i_ : Nat) : Int)), (14, .bool (((!(decide (((lvn ns i_).links) = (((chkN ns (liv ns).length).named).getD (lvi ns i_) 0)))) || (decide ((((chkN ns (liv ns).length).named).getD (lvi ns i_) 0) < 1))) || (decide (200 < (((chkN ns (liv ns).length).named).getD (lvi ns i_) 0))))), (183, .bool false), (186, .bool true)] [blk b16 (.cells ((lvn ns i_).cells) 44 (0, 0)), own 3 1 (some ⟨z_2, 0, none⟩) ns.length ns.length (iv (chkN ns (liv ns).length).named), own 3 1 (some ⟨z_4, 0, none⟩) ns.length ns.length (iv (chkN ns (liv ns).length).subs), own 3 1 (some ⟨z_6, 0, none⟩) ns.length ns.length (iv (chkN ns (liv ns).length).home), blk b_8 (.cells #[.slice (some ⟨z_2, 0, none⟩) ns.length ns.length] 124 (0, 0)), blk b_9 (.cells #[.slice (some ⟨z_4, 0, none⟩) ns.length ns.length] 124 (0, 0)), blk b_10 (.cells #[.slice (some ⟨z_6, 0, none⟩) ns.length ns.length] 124 (0, 0)), blk b1 (.cells #[.slice p ns.length cap, .int .u32 gen] 25 (0, 0)), blk b2 (.cells #[.bool false] 4 (0, 0)), fact (∀ m, m < i_ → bad2 ns m = false), blk Db0 (.deferred (some [])), blk l (.loop (F.rc .busy none)), blk Db1 (.deferred (some [])), fr, base w (Low w)] (s := 192) (g := !(decide ((((chkN ns (liv ns).length).named).getD (lvi ns i_) 0) = 1))) rfl (by decide) (fun h191 => ?_) (fun h191 => ?_) ?_
                    ·
                      refine Qg.skips 25 (by kernel_rfl) ?_
                      refine Qg.pure (d := 200) (op := .pick (.tmp 192) (.const (.bool true)) (.tmp 199)) (g := some (11, true)) (v := .bool true) (by kernel_rfl) (by kernel_rfl) (pv_pick_t rfl rfl) ?_
                      exact Qg.mid (.cons (or_of_t h191 rfl) (.cons (rfl) (.cons (rfl) (.cons (rfl) (.cons (rfl) (.cons (rfl) (.cons (rfl) (.nil _)))))))) rfl
                    ·
                      have h192 := not_f h191
                      have h193 := of_decide_eq_true h192
                      refine Qg.pure (d := 193) (op := .load 124 (.tmp 7)) (g := some (17, false)) (v := .slice (some ⟨z_6, 0, none⟩) ns.length ns.length) (by kernel_rfl) (by kernel_rfl) (pv_load_blk 6 rfl rfl (by kernel_rfl) rfl) ?_
                      refine Qg.pure (d := 194) (op := .move (.tmp 12)) (g := some (17, false)) (v := .int .i64 ((lvi ns i_ : Nat) : Int)) (by kernel_rfl) (by kernel_rfl) (pv_move rfl) ?_
                      refine Qg.pure (d := 195) (op := .indexAddr 124 (.tmp 193) (.tmp 194)) (g := some (17, false)) (v := .pointer (some ⟨z_6, 0 + (((lvi ns i_ : Nat) : Int)).toNat * 1, none⟩)) (by kernel_rfl) (by kernel_rfl) (pv_indexAddr rfl rfl (e := 3) (sz := 1) (by kernel_rfl) (by omega) (by omega)) ?_
                      refine Qg.pure (d := 196) (op := .load 3 (.tmp 195)) (g := some (17, false)) (v := .int .i64 (((chkN ns (liv ns).length).home).getD (lvi ns i_) 0)) (by kernel_rfl) (by kernel_rfl) (pv_load_own 3 rfl rfl (by kernel_rfl) (iv_get (i := (lvi ns i_)) (by rw [hck_.home]; omega))) ?_
                      refine Qg.pure (d := 197) (op := .fieldAddr 44 (.tmp 13) 13) (g := some (17, false)) (v := .pointer (some ⟨b16, 0 + 23, none⟩)) (by kernel_rfl) (by kernel_rfl) (pv_fieldAddr rfl (n := 23) (by kernel_rfl)) ?_
                      refine Qg.pure (d := 198) (op := .load 3 (.tmp 197)) (g := some (17, false)) (v := .int .i64 ((lvn ns i_).parent)) (by kernel_rfl) (by kernel_rfl) (pv_load_blk 0 rfl rfl (by kernel_rfl) rfl) ?_
                      refine Qg.pure (d := 199) (op := .binOp .neq 3 (.tmp 196) (.tmp 198) 3) (g := some (17, false)) (v := .bool (!(decide ((((chkN ns (liv ns).length).home).getD (lvi ns i_) 0) = ((lvn ns i_).parent))))) (by kernel_rfl) (by kernel_rfl) (pv_neq rfl rfl) ?_
                      refine Qg.pure (d := 200) (op := .pick (.tmp 192) (.const (.bool true)) (.tmp 199)) (g := some (11, true)) (v := .bool (!(decide ((((chkN ns (liv ns).length).home).getD (lvi ns i_) 0) = ((lvn ns i_).parent))))) (by kernel_rfl) (by kernel_rfl) (pv_pick_f rfl rfl) ?_
                      exact Qg.mid (.cons (or_of_f h191 rfl) (.cons (rfl) (.cons (rfl) (.cons (rfl) (.cons (rfl) (.cons (rfl) (.cons (rfl) (.nil _)))))))) rfl
                    refine Qg.pure (d := 201) (op := .move (.tmp 200)) (g := some (11, true)) (v := .bool ((!(decide ((((chkN ns (liv ns).length).named).getD (lvi ns i_) 0) = 1))) || (!(decide ((((chkN ns (liv ns).length).home).getD (lvi ns i_) 0) = ((lvn ns i_).parent)))))) (by kernel_rfl) (by kernel_rfl) (pv_move rfl) ?_
                    refine Qg.split 32 [(206, .bool (((!(decide ((((chkN ns (liv ns).length).named).getD (lvi ns i_) 0) = 1))) || (!(decide ((((chkN ns (liv ns).length).home).getD (lvi ns i_) 0) = ((lvn ns i_).parent))))) || (!(withinS ns ((lvi ns i_ : Nat) : Int) 1)))), (2, .pointer (some ⟨b2, 0, none⟩)), (14, .bool (((!(decide (((lvn ns i_).links) = (((chkN ns (liv ns).length).named).getD (lvi ns i_) 0)))) || (decide ((((chkN ns (liv ns).length).named).getD (lvi ns i_) 0) < 1))) || (decide (200 < (((chkN ns (liv ns).length).named).getD (lvi ns i_) 0))))), (183, .bool false), (186, .bool true)] [blk b16 (.cells ((lvn ns i_).cells) 44 (0, 0)), own 3 1 (some ⟨z_2, 0, none⟩) ns.length ns.length (iv (chkN ns (liv ns).length).named), own 3 1 (some ⟨z_4, 0, none⟩) ns.length ns.length (iv (chkN ns (liv ns).length).subs), own 3 1 (some ⟨z_6, 0, none⟩) ns.length ns.length (iv (chkN ns (liv ns).length).home), blk b_8 (.cells #[.slice (some ⟨z_2, 0, none⟩) ns.length ns.length] 124 (0, 0)), blk b_9 (.cells #[.slice (some ⟨z_4, 0, none⟩) ns.length ns.length] 124 (0, 0)), blk b_10 (.cells #[.slice (some ⟨z_6, 0, none⟩) ns.length ns.length] 124 (0, 0)), blk b1 (.cells #[.slice p ns.length cap, .int .u32 gen] 25 (0, 0)), blk b2 (.cells #[.bool false] 4 (0, 0)), fact (∀ m, m < i_ → bad2 ns m = false), blk Db0 (.deferred (some [])), blk l (.loop (F.rc .busy none)), blk Db1 (.deferred (some [])), fr, base w (Low w)] (s := 201) (g := (!(decide ((((chkN ns (liv ns).length).named).getD (lvi ns i_) 0) = 1))) || (!(decide ((((chkN ns (liv ns).length).home).getD (lvi ns i_) 0) = ((lvn ns i_).parent))))) rfl (by decide) (fun h194 => ?_) (fun h194 => ?_) ?_
                    ·
                      refine Qg.skips 31 (by kernel_rfl) ?_
                      refine Qg.pure (d := 206) (op := .pick (.tmp 201) (.const (.bool true)) (.tmp 205)) (g := some (11, true)) (v := .bool true) (by kernel_rfl) (by kernel_rfl) (pv_pick_t rfl rfl) ?_
                      exact Qg.mid (.cons (or_of_t h194 rfl) (.cons (rfl) (.cons (rfl) (.cons (rfl) (.cons (rfl) (.nil _)))))) rfl
                    ·
                      have ⟨h195, h196⟩ := or_f h194
                      have h197 := not_f h195
                      have h198 := of_decide_eq_true h197
                      have h199 := not_f h196
                      have h200 := of_decide_eq_true h199
                      refine Qg.pure (d := 202) (op := .load 25 (.tmp 1)) (g := some (26, false)) (v := .agg #[.slice p ns.length cap, .int .u32 gen]) (by kernel_rfl) (by kernel_rfl) (pv_load_blk_whole 7 rfl rfl (by kernel_rfl) (by kernel_rfl)) ?_
                      refine Qg.pure (d := 203) (op := .move (.tmp 12)) (g := some (26, false)) (v := .int .i64 ((lvi ns i_ : Nat) : Int)) (by kernel_rfl) (by kernel_rfl) (pv_move rfl) ?_
                      refine qg_call (d := some 204) (f := 20) (xs := #[.tmp 202, .tmp 203, .const (.int .i64 1)]) (ts := #[25, 3, 3]) (g := some (26, false)) (v := .bool (withinS ns ((lvi ns i_ : Nat) : Int) 1)) (by kernel_rfl) (by kernel_rfl) (by kernel_rfl) rfl (fun w hw => Within_calls ((hT).keep (hw.at_ 14 rfl) (fun k hk => hw.lt 14 rfl hk)) hW) ?_
                      refine Qg.pure (d := 205) (op := .unOp .not 4 (.tmp 204)) (g := some (26, false)) (v := .bool (!(withinS ns ((lvi ns i_ : Nat) : Int) 1))) (by kernel_rfl) (by kernel_rfl) (pv_not (b := withinS ns ((lvi ns i_ : Nat) : Int) 1) rfl) ?_
                      refine Qg.pure (d := 206) (op := .pick (.tmp 201) (.const (.bool true)) (.tmp 205)) (g := some (11, true)) (v := .bool (!(withinS ns ((lvi ns i_ : Nat) : Int) 1))) (by kernel_rfl) (by kernel_rfl) (pv_pick_f rfl rfl) ?_
                      exact Qg.mid (.cons (or_of_f h194 rfl) (.cons (rfl) (.cons (rfl) (.cons (rfl) (.cons (rfl) (.nil _)))))) rfl
                    refine Qg.pure (d := 207) (op := .pick (.tmp 186) (.tmp 206) (.const (.bool false))) (g := some (8, false)) (v := .bool (((!(decide ((((chkN ns (liv ns).length).named).getD (lvi ns i_) 0) = 1))) || (!(decide ((((chkN ns (liv ns).length).home).getD (lvi ns i_) 0) = ((lvn ns i_).parent))))) || (!(withinS ns ((lvi ns i_ : Nat) : Int) 1)))) (by kernel_rfl) (by kernel_rfl) (pv_pick_t rfl rfl) ?_
                    exact Qg.mid (.cons (and_of_t h189 rfl) (.cons (rfl) (.cons (rfl) (.cons (rfl) (.nil _))))) rfl
                  ·
                    refine Qg.skips 32 (by kernel_rfl) ?_
                    refine Qg.pure (d := 207) (op := .pick (.tmp 186) (.tmp 206) (.const (.bool false))) (g := some (8, false)) (v := .bool false) (by kernel_rfl) (by kernel_rfl) (pv_pick_f rfl rfl) ?_
                    exact Qg.mid (.cons (and_of_f h189 rfl) (.cons (rfl) (.cons (rfl) (.cons (rfl) (.nil _))))) rfl
                  refine Qg.pure (d := 208) (op := .pick (.tmp 183) (.const (.bool true)) (.tmp 207)) (g := none) (v := .bool ((decide (1 < ((lvi ns i_ : Nat) : Int))) && (((!(decide ((((chkN ns (liv ns).length).named).getD (lvi ns i_) 0) = 1))) || (!(decide ((((chkN ns (liv ns).length).home).getD (lvi ns i_) 0) = ((lvn ns i_).parent))))) || (!(withinS ns ((lvi ns i_ : Nat) : Int) 1))))) (by kernel_rfl) (by kernel_rfl) (pv_pick_f rfl rfl) ?_
                  exact Qg.mid (.cons (or_of_f h186 rfl) (.cons (rfl) (.cons (rfl) (.nil _)))) rfl
                refine Qg.pure (d := 14) (op := .assign (.tmp 208)) (g := none) (v := .bool ((!(decide (((lvn ns i_).links) = (2 + (((chkN ns (liv ns).length).subs).getD (lvi ns i_) 0))))) || ((decide (1 < ((lvi ns i_ : Nat) : Int))) && (((!(decide ((((chkN ns (liv ns).length).named).getD (lvi ns i_) 0) = 1))) || (!(decide ((((chkN ns (liv ns).length).home).getD (lvi ns i_) 0) = ((lvn ns i_).parent))))) || (!(withinS ns ((lvi ns i_ : Nat) : Int) 1)))))) (by kernel_rfl) (by kernel_rfl) (pv_assign rfl) ?_
                exact Qg.mid (.cons rfl (.cons rfl (.nil _))) rfl
              refine at_codeS [0, 1, 2, 3, 4, 5, 6, 7, 8, 9, 10, 11, 12, 13, 14] [(2, _), (14, _)] [blk b16 (.cells ((lvn ns i_).cells) 44 (0, 0)), own 3 1 (some ⟨z_2, 0, none⟩) ns.length ns.length (iv (chkN ns (liv ns).length).named), own 3 1 (some ⟨z_4, 0, none⟩) ns.length ns.length (iv (chkN ns (liv ns).length).subs), own 3 1 (some ⟨z_6, 0, none⟩) ns.length ns.length (iv (chkN ns (liv ns).length).home), blk b_8 (.cells #[.slice (some ⟨z_2, 0, none⟩) ns.length ns.length] 124 (0, 0)), blk b_9 (.cells #[.slice (some ⟨z_4, 0, none⟩) ns.length ns.length] 124 (0, 0)), blk b_10 (.cells #[.slice (some ⟨z_6, 0, none⟩) ns.length ns.length] 124 (0, 0)), blk b1 (.cells #[.slice p ns.length cap, .int .u32 gen] 25 (0, 0)), blk b2 (.cells #[.bool false] 4 (0, 0)), fact (∀ m, m < i_ → bad2 ns m = false), blk Db0 (.deferred (some [])), blk l (.loop (F.rc .busy none)), blk Db1 (.deferred (some [])), fr, base w (Low w)] (.cons rfl (.cons rfl (.nil _))) rfl (by decide) (fun _ _ h => h) ?_
              refine ev_seq (by kernel_rfl) ?_
              refine ev_region (n := 1) (by kernel_rfl) ?_
              refine Rg.pure (d := 209) (op := .move (.tmp 14)) (g := none) (v := .bool ((!(decide (((lvn ns i_).links) = (2 + (((chkN ns (liv ns).length).subs).getD (lvi ns i_) 0))))) || ((decide (1 < ((lvi ns i_ : Nat) : Int))) && (((!(decide ((((chkN ns (liv ns).length).named).getD (lvi ns i_) 0) = 1))) || (!(decide ((((chkN ns (liv ns).length).home).getD (lvi ns i_) 0) = ((lvn ns i_).parent))))) || (!(withinS ns ((lvi ns i_ : Nat) : Int) 1)))))) (by kernel_rfl) (by kernel_rfl) (pv_move rfl) ?_
              refine Rg.fin rfl ?_
              refine at_codeS [0, 1, 2, 3, 4, 5, 6, 7, 8, 9, 10, 11, 12, 13, 14] [(2, _), (209, _)] [blk b16 (.cells ((lvn ns i_).cells) 44 (0, 0)), own 3 1 (some ⟨z_2, 0, none⟩) ns.length ns.length (iv (chkN ns (liv ns).length).named), own 3 1 (some ⟨z_4, 0, none⟩) ns.length ns.length (iv (chkN ns (liv ns).length).subs), own 3 1 (some ⟨z_6, 0, none⟩) ns.length ns.length (iv (chkN ns (liv ns).length).home), blk b_8 (.cells #[.slice (some ⟨z_2, 0, none⟩) ns.length ns.length] 124 (0, 0)), blk b_9 (.cells #[.slice (some ⟨z_4, 0, none⟩) ns.length ns.length] 124 (0, 0)), blk b_10 (.cells #[.slice (some ⟨z_6, 0, none⟩) ns.length ns.length] 124 (0, 0)), blk b1 (.cells #[.slice p ns.length cap, .int .u32 gen] 25 (0, 0)), blk b2 (.cells #[.bool false] 4 (0, 0)), fact (∀ m, m < i_ → bad2 ns m = false), blk Db0 (.deferred (some [])), blk l (.loop (F.rc .busy none)), blk Db1 (.deferred (some [])), fr, base w (Low w)] (.cons rfl (.cons rfl (.nil _))) rfl (by decide) (fun _ _ h => h) ?_
              refine ev_cond (t := 209) (by kernel_rfl) rfl (fun h201 => ?_) (fun h201 => ?_)
              ·
                refine ev_seq (by kernel_rfl) ?_
                refine ev_region (n := 1) (by kernel_rfl) ?_
                refine rg_store (t := 4) (x := .tmp 2) (y := .const (.bool false)) (g := none) (cs' := #[.bool false]) 8 (by kernel_rfl) (by kernel_rfl) rfl rfl rfl (by kernel_rfl) (Nat.le_of_ble_eq_true (by kernel_rfl)) (by kernel_rfl) (by kernel_rfl) ?_
                refine Rg.fin rfl ?_
                refine at_codeS [0, 1, 2, 3, 4, 5, 6, 7, 8, 9, 10, 11, 12, 13, 14] [(2, _)] [blk b16 (.cells ((lvn ns i_).cells) 44 (0, 0)), own 3 1 (some ⟨z_2, 0, none⟩) ns.length ns.length (iv (chkN ns (liv ns).length).named), own 3 1 (some ⟨z_4, 0, none⟩) ns.length ns.length (iv (chkN ns (liv ns).length).subs), own 3 1 (some ⟨z_6, 0, none⟩) ns.length ns.length (iv (chkN ns (liv ns).length).home), blk b_8 (.cells #[.slice (some ⟨z_2, 0, none⟩) ns.length ns.length] 124 (0, 0)), blk b_9 (.cells #[.slice (some ⟨z_4, 0, none⟩) ns.length ns.length] 124 (0, 0)), blk b_10 (.cells #[.slice (some ⟨z_6, 0, none⟩) ns.length ns.length] 124 (0, 0)), blk b1 (.cells #[.slice p ns.length cap, .int .u32 gen] 25 (0, 0)), blk b2 (.cells #[.bool false] 4 (0, 0)), fact (∀ m, m < i_ → bad2 ns m = false), blk Db0 (.deferred (some [])), blk l (.loop (F.rc .busy none)), blk Db1 (.deferred (some [])), fr, base w (Low w)] (.cons rfl (.nil _)) rfl (by decide) (fun _ _ h => h) ?_
                refine ev_ret (by kernel_rfl) ?_
                refine At.via (Q := Qr) hQr ?_
                refine at_roundRet () 11 rfl (fun w hw => (hw.addFact (show ∃ m, m < (liv ns).length ∧ bad2 ns m = true from ⟨i_, hn_, (by unfold bad2 nameN subsN homeN; rw [h184]; exact h201)⟩)).pick [9, 0, 11, 12, 13, 14, 15] (by decide))
              ·
                have ⟨h202, h203⟩ := or_f h201
                have h204 := not_f h202
                have h205 := of_decide_eq_true h204
                refine ev_skip (by kernel_rfl) ?_
                refine At.via (Q := Qr) hQr ?_
                refine at_roundEnd () 11 rfl (fun w hw => (hw.addFact (show ∀ m, m < i_ + 1 → bad2 ns m = false from fun m hm => by rcases Nat.lt_succ_iff_lt_or_eq.1 hm with h1_ | h1_; exact hno m h1_; subst h1_; exact (by unfold bad2 nameN subsN homeN; rw [h184]; exact h201))).pick [2, 3, 4, 5, 6, 7, 8, 9, 0, 11, 12, 13, 14, 15] (by decide))
            ·
              have h206 := of_decide_eq_false h184
              refine ev_skip (by kernel_rfl) ?_
              refine at_codeS [0, 1, 2, 3, 4, 5, 6, 7, 8, 9, 10, 11, 12, 13, 14] [(2, _), (14, _)] [blk b16 (.cells ((lvn ns i_).cells) 44 (0, 0)), own 3 1 (some ⟨z_2, 0, none⟩) ns.length ns.length (iv (chkN ns (liv ns).length).named), own 3 1 (some ⟨z_4, 0, none⟩) ns.length ns.length (iv (chkN ns (liv ns).length).subs), own 3 1 (some ⟨z_6, 0, none⟩) ns.length ns.length (iv (chkN ns (liv ns).length).home), blk b_8 (.cells #[.slice (some ⟨z_2, 0, none⟩) ns.length ns.length] 124 (0, 0)), blk b_9 (.cells #[.slice (some ⟨z_4, 0, none⟩) ns.length ns.length] 124 (0, 0)), blk b_10 (.cells #[.slice (some ⟨z_6, 0, none⟩) ns.length ns.length] 124 (0, 0)), blk b1 (.cells #[.slice p ns.length cap, .int .u32 gen] 25 (0, 0)), blk b2 (.cells #[.bool false] 4 (0, 0)), fact (∀ m, m < i_ → bad2 ns m = false), blk Db0 (.deferred (some [])), blk l (.loop (F.rc .busy none)), blk Db1 (.deferred (some [])), fr, base w (Low w)] (.cons rfl (.cons rfl (.nil _))) rfl (by decide) (fun _ _ h => h) ?_
              refine ev_seq (by kernel_rfl) ?_
              refine ev_region (n := 1) (by kernel_rfl) ?_
              refine Rg.pure (d := 209) (op := .move (.tmp 14)) (g := none) (v := .bool (((!(decide (((lvn ns i_).links) = (((chkN ns (liv ns).length).named).getD (lvi ns i_) 0)))) || (decide ((((chkN ns (liv ns).length).named).getD (lvi ns i_) 0) < 1))) || (decide (200 < (((chkN ns (liv ns).length).named).getD (lvi ns i_) 0))))) (by kernel_rfl) (by kernel_rfl) (pv_move rfl) ?_
              refine Rg.fin rfl ?_
              refine at_codeS [0, 1, 2, 3, 4, 5, 6, 7, 8, 9, 10, 11, 12, 13, 14] [(2, _), (209, _)] [blk b16 (.cells ((lvn ns i_).cells) 44 (0, 0)), own 3 1 (some ⟨z_2, 0, none⟩) ns.length ns.length (iv (chkN ns (liv ns).length).named), own 3 1 (some ⟨z_4, 0, none⟩) ns.length ns.length (iv (chkN ns (liv ns).length).subs), own 3 1 (some ⟨z_6, 0, none⟩) ns.length ns.length (iv (chkN ns (liv ns).length).home), blk b_8 (.cells #[.slice (some ⟨z_2, 0, none⟩) ns.length ns.length] 124 (0, 0)), blk b_9 (.cells #[.slice (some ⟨z_4, 0, none⟩) ns.length ns.length] 124 (0, 0)), blk b_10 (.cells #[.slice (some ⟨z_6, 0, none⟩) ns.length ns.length] 124 (0, 0)), blk b1 (.cells #[.slice p ns.length cap, .int .u32 gen] 25 (0, 0)), blk b2 (.cells #[.bool false] 4 (0, 0)), fact (∀ m, m < i_ → bad2 ns m = false), blk Db0 (.deferred (some [])), blk l (.loop (F.rc .busy none)), blk Db1 (.deferred (some [])), fr, base w (Low w)] (.cons rfl (.cons rfl (.nil _))) rfl (by decide) (fun _ _ h => h) ?_
              refine ev_cond (t := 209) (by kernel_rfl) rfl (fun h207 => ?_) (fun h207 => ?_)
              ·
                refine ev_seq (by kernel_rfl) ?_
                refine ev_region (n := 1) (by kernel_rfl) ?_
                refine rg_store (t := 4) (x := .tmp 2) (y := .const (.bool false)) (g := none) (cs' := #[.bool false]) 8 (by kernel_rfl) (by kernel_rfl) rfl rfl rfl (by kernel_rfl) (Nat.le_of_ble_eq_true (by kernel_rfl)) (by kernel_rfl) (by kernel_rfl) ?_
                refine Rg.fin rfl ?_
                refine at_codeS [0, 1, 2, 3, 4, 5, 6, 7, 8, 9, 10, 11, 12, 13, 14] [(2, _)] [blk b16 (.cells ((lvn ns i_).cells) 44 (0, 0)), own 3 1 (some ⟨z_2, 0, none⟩) ns.length ns.length (iv (chkN ns (liv ns).length).named), own 3 1 (some ⟨z_4, 0, none⟩) ns.length ns.length (iv (chkN ns (liv ns).length).subs), own 3 1 (some ⟨z_6, 0, none⟩) ns.length ns.length (iv (chkN ns (liv ns).length).home), blk b_8 (.cells #[.slice (some ⟨z_2, 0, none⟩) ns.length ns.length] 124 (0, 0)), blk b_9 (.cells #[.slice (some ⟨z_4, 0, none⟩) ns.length ns.length] 124 (0, 0)), blk b_10 (.cells #[.slice (some ⟨z_6, 0, none⟩) ns.length ns.length] 124 (0, 0)), blk b1 (.cells #[.slice p ns.length cap, .int .u32 gen] 25 (0, 0)), blk b2 (.cells #[.bool false] 4 (0, 0)), fact (∀ m, m < i_ → bad2 ns m = false), blk Db0 (.deferred (some [])), blk l (.loop (F.rc .busy none)), blk Db1 (.deferred (some [])), fr, base w (Low w)] (.cons rfl (.nil _)) rfl (by decide) (fun _ _ h => h) ?_
                refine ev_ret (by kernel_rfl) ?_
                refine At.via (Q := Qr) hQr ?_
                refine at_roundRet () 11 rfl (fun w hw => (hw.addFact (show ∃ m, m < (liv ns).length ∧ bad2 ns m = true from ⟨i_, hn_, (by unfold bad2 nameN subsN homeN; rw [h184]; exact h207)⟩)).pick [9, 0, 11, 12, 13, 14, 15] (by decide))
              ·
                have ⟨h208, h209⟩ := or_f h207
                have ⟨h210, h211⟩ := or_f h208
                have h212 := not_f h210
                have h213 := of_decide_eq_true h212
                have h214 := of_decide_eq_false h211
                have h215 := of_decide_eq_false h209
                refine ev_skip (by kernel_rfl) ?_
                refine At.via (Q := Qr) hQr ?_
                refine at_roundEnd () 11 rfl (fun w hw => (hw.addFact (show ∀ m, m < i_ + 1 → bad2 ns m = false from fun m hm => by rcases Nat.lt_succ_iff_lt_or_eq.1 hm with h1_ | h1_; exact hno m h1_; subst h1_; exact (by unfold bad2 nameN subsN homeN; rw [h184]; exact h207))).pick [2, 3, 4, 5, 6, 7, 8, 9, 0, 11, 12, 13, 14, 15] (by decide))
          ·
            intro Db1 u_
            rw [show (livRows ns).length = (liv ns).length from livRows_length ns]
            refine At.factAt 8 rfl (fun hno2 => ?_)
            refine at_codeS [0, 1, 2, 3, 4, 5, 6, 7, 8, 9, 10, 11] [(2, _)] [own 3 1 (some ⟨z_2, 0, none⟩) ns.length ns.length (iv (chkN ns (liv ns).length).named), own 3 1 (some ⟨z_4, 0, none⟩) ns.length ns.length (iv (chkN ns (liv ns).length).subs), own 3 1 (some ⟨z_6, 0, none⟩) ns.length ns.length (iv (chkN ns (liv ns).length).home), blk b_8 (.cells #[.slice (some ⟨z_2, 0, none⟩) ns.length ns.length] 124 (0, 0)), blk b_9 (.cells #[.slice (some ⟨z_4, 0, none⟩) ns.length ns.length] 124 (0, 0)), blk b_10 (.cells #[.slice (some ⟨z_6, 0, none⟩) ns.length ns.length] 124 (0, 0)), blk b1 (.cells #[.slice p ns.length cap, .int .u32 gen] 25 (0, 0)), blk b2 (.cells #[.bool false] 4 (0, 0)), fact (∀ m, m < (liv ns).length → bad2 ns m = false), blk Db0 (.deferred (some [])), blk Db1 (.deferred (some [])), base w (Low w)] (.cons rfl (.nil _)) rfl (by decide) (fun _ _ h => h) ?_
            refine ev_seq (by kernel_rfl) ?_
            refine ev_region (n := 1) (by kernel_rfl) ?_
            refine rg_store (t := 4) (x := .tmp 2) (y := .const (.bool true)) (g := none) (cs' := #[.bool true]) 7 (by kernel_rfl) (by kernel_rfl) rfl rfl rfl (by kernel_rfl) (Nat.le_of_ble_eq_true (by kernel_rfl)) (by kernel_rfl) (by kernel_rfl) ?_
            refine Rg.fin rfl ?_
            refine at_codeS [0, 1, 2, 3, 4, 5, 6, 7, 8, 9, 10, 11] [(2, _)] [own 3 1 (some ⟨z_2, 0, none⟩) ns.length ns.length (iv (chkN ns (liv ns).length).named), own 3 1 (some ⟨z_4, 0, none⟩) ns.length ns.length (iv (chkN ns (liv ns).length).subs), own 3 1 (some ⟨z_6, 0, none⟩) ns.length ns.length (iv (chkN ns (liv ns).length).home), blk b_8 (.cells #[.slice (some ⟨z_2, 0, none⟩) ns.length ns.length] 124 (0, 0)), blk b_9 (.cells #[.slice (some ⟨z_4, 0, none⟩) ns.length ns.length] 124 (0, 0)), blk b_10 (.cells #[.slice (some ⟨z_6, 0, none⟩) ns.length ns.length] 124 (0, 0)), blk b1 (.cells #[.slice p ns.length cap, .int .u32 gen] 25 (0, 0)), blk b2 (.cells #[.bool true] 4 (0, 0)), fact (∀ m, m < (liv ns).length → bad2 ns m = false), blk Db0 (.deferred (some [])), blk Db1 (.deferred (some [])), base w (Low w)] (.cons rfl (.nil _)) rfl (by decide) (fun _ _ h => h) ?_
            refine ev_ret (by kernel_rfl) ?_
            refine At.via (Q := Q) hQ ?_
            refine At.leave ?_
            refine LeaveAt.mark 10 rfl ?_
            refine LeaveAt.mark 9 rfl ?_
            refine LeaveAt.one rfl (reads_cell 7 rfl rfl (by kernel_rfl) rfl) ?_
            exact fun w hw => ⟨(by rw [checkS_t hpre_ hbad_ hno1 hno2]; rfl), hw.base_below 11 rfl⟩
          ·
            intro Db1 i_ u_ hn
            refine Ev.factAt 1 rfl (fun hyes => ?_)
            refine ev_ret (by kernel_rfl) ?_
            refine At.via (Q := Q) hQ ?_
            refine At.leave ?_
            refine LeaveAt.mark 3 rfl ?_
            refine LeaveAt.mark 2 rfl ?_
            refine LeaveAt.one rfl (reads_cell 0 rfl rfl (by kernel_rfl) rfl) ?_
            exact fun w hw => ⟨(by rw [checkS_2 hyes]; rfl), hw.base_below 4 rfl⟩
        ·
          intro Db0 i_ u_ hn
          refine Ev.factAt 1 rfl (fun hyes => ?_)
          refine ev_ret (by kernel_rfl) ?_
          refine At.via (Q := Q) hQ ?_
          refine At.leave ?_
          refine LeaveAt.mark 2 rfl ?_
          refine LeaveAt.one rfl (reads_cell 0 rfl rfl (by kernel_rfl) rfl) ?_
          exact fun w hw => ⟨(by rw [checkS_1 hyes]; rfl), hw.base_below 3 rfl⟩

end Go.Proofs.Ytfhhggcdmgjbcaa.Sx
