/-
  A part of the walk of the seat: laws of a small proof system, and contracts of functions, each proved. Conditions: as each theorem says.
-/
import Derived.Test.YtfhhggcdmgjbcaaProg
import Derived.Test.YtfhhggcdmgjbcaaWalkB
namespace Go.Proofs.Ytfhhggcdmgjbcaa.Sx
open Go Go.RowKit Go.Proofs

def iv (l : List Int) : List Value := l.map (.int .i64 ·)
theorem iv_length (l : List Int) : (iv l).length = l.length := by simp [iv]
theorem iv_lt {l : List Int} {i : Nat} (h : i < l.length) : 0 + i * 1 < l.length := by omega
theorem iv_get {l : List Int} {i : Nat} (h : i < l.length) : (iv l)[0 + i * 1]? = some (.int .i64 (l.getD i 0)) := by
  rw [show 0 + i * 1 = i by omega]
  simp [iv, List.getD_eq_getElem?_getD, List.getElem?_eq_getElem h]
theorem iv_set {l : List Int} {i : Nat} (v : Int) : (iv l).set (0 + i * 1) (.int .i64 v) = iv (l.set i v) := by
  rw [show 0 + i * 1 = i by omega]
  simp [iv, List.map_set]
theorem iv_replicate (n : Nat) : iv (List.replicate n 0) = List.replicate n (Value.int .i64 0) := by simp [iv]
theorem livTo_short (ns : List Node) (k : Nat) : (livTo ns k).length ≤ k := by
  induction k with
  | zero => exact Nat.le_refl _
  | succ k ih =>
    simp only [livTo]
    cases (!decide ((nd ns k).kind = 0)) <;> simp <;> omega
theorem liv_short (ns : List Node) : (liv ns).length ≤ ns.length := livTo_short ns _
def lvi (ns : List Node) (m : Nat) : Nat := (liv ns).getD m 0
def lvn (ns : List Node) (m : Nat) : Node := nd ns (lvi ns m)
structure St where
  named : List Int
  subs : List Int
  home : List Int
def entStep (ns : List Node) (i : Nat) (st : St) (e : Entry) : St :=
  ⟨st.named.set e.node.toNat (st.named.getD e.node.toNat 0 + 1), cond (isS ns e.node 2) (st.subs.set i (st.subs.getD i 0 + 1)) st.subs, st.home.set e.node.toNat (i : Int)⟩
def entN (ns : List Node) (i : Nat) (es : List Entry) (st : St) : Nat → St
  | 0 => st
  | k + 1 => entStep ns i (entN ns i es st k) (en es k)
def chkN (ns : List Node) : Nat → St
  | 0 => ⟨List.replicate ns.length 0, List.replicate ns.length 0, List.replicate ns.length 0⟩
  | m + 1 => entN ns (lvi ns m) (lvn ns m).list (chkN ns m) (lvn ns m).list.length
def gensN (ns : List Node) : Nat → List (Int × Int)
  | 0 => []
  | m + 1 => upd (gensN ns m) (lvn ns m).gen ((look (gensN ns m) (lvn ns m).gen).getD 0 + 1)
theorem gensN_range (ns : List Node) (m : Nat) (a : Int) : 0 ≤ (look (gensN ns m) a).getD 0 ∧ (look (gensN ns m) a).getD 0 ≤ (m : Int) := by
  induction m generalizing a with
  | zero => simp [gensN, look]
  | succ m ih =>
    simp only [gensN, look_upd]
    by_cases h : a = (lvn ns m).gen
    · rw [if_pos h]
      have := ih (lvn ns m).gen
      simp only [Option.getD_some]; omega
    · rw [if_neg h]
      have := ih a
      omega
theorem getD_set (l : List Int) (i j : Nat) (v : Int) : (l.set i v).getD j 0 = if i = j ∧ j < l.length then v else l.getD j 0 := by
  simp only [List.getD_eq_getElem?_getD, List.getElem?_set]
  by_cases h : i = j
  · subst h
    by_cases h2 : i < l.length
    · simp [h2]
    · simp [h2, List.getElem?_eq_none (Nat.le_of_not_lt h2)]
  · simp [h]
structure StOk (n : Nat) (B : Int) (st : St) : Prop where
  named : st.named.length = n
  subs : st.subs.length = n
  home : st.home.length = n
  n0 : ∀ j, 0 ≤ st.named.getD j 0
  n1 : ∀ j, st.named.getD j 0 ≤ B
  s0 : ∀ j, 0 ≤ st.subs.getD j 0
  s1 : ∀ j, st.subs.getD j 0 ≤ B
theorem entN_ok {ns : List Node} {i n : Nat} {es : List Entry} {st : St} {B : Int} (h : StOk n B st) (k : Nat) : StOk n (B + k) (entN ns i es st k) := by
  induction k with
  | zero => simpa [entN] using h
  | succ k ih =>
    have hB : (B + (k + 1 : Nat) : Int) = B + k + 1 := by omega
    refine ⟨by simp [entN, entStep, ih.named], ?_, by simp [entN, entStep, ih.home], fun j => ?_, fun j => ?_, fun j => ?_, fun j => ?_⟩
    · simp only [entN, entStep]; cases isS ns (en es k).node 2 <;> simp [ih.subs]
    · simp only [entN, entStep, getD_set]; have := ih.n0 j; have := ih.n0 (en es k).node.toNat; split <;> omega
    · simp only [entN, entStep, getD_set]; have := ih.n1 j; have := ih.n1 (en es k).node.toNat; rw [hB]; split <;> omega
    · simp only [entN, entStep]; have h1 := ih.s0 j; have h2 := ih.s0 i
      cases isS ns (en es k).node 2 with
      | false => exact h1
      | true => simp only [cond_true, getD_set]; split <;> omega
    · simp only [entN, entStep]; have h1 := ih.s1 j; have h2 := ih.s1 i; rw [hB]
      cases isS ns (en es k).node 2 with
      | false => simp only [cond_false]; omega
      | true => simp only [cond_true, getD_set]; split <;> omega
theorem chkN_ok {ns : List Node} (hW : NodesWf ns) (m : Nat) : StOk ns.length (16777216 * m) (chkN ns m) := by
  induction m with
  | zero =>
    have : ∀ j, (List.replicate ns.length (0 : Int)).getD j 0 = 0 := by
      intro j; rw [List.getD_eq_getElem?_getD, List.getElem?_replicate]; split <;> rfl
    exact ⟨by simp [chkN], by simp [chkN], by simp [chkN], fun j => by simp only [chkN, this]; omega, fun j => by simp only [chkN, this]; omega, fun j => by simp only [chkN, this]; omega, fun j => by simp only [chkN, this]; omega⟩
  | succ m ih =>
    have h := entN_ok (ns := ns) (i := lvi ns m) (es := (lvn ns m).list) ih (lvn ns m).list.length
    have hl := (hW.node (lvi ns m)).list
    have hB : (16777216 * m + ((lvn ns m).list.length : Nat) : Int) ≤ 16777216 * (m + 1 : Nat) := by
      have : (lvn ns m).list.length ≤ 16777216 := hl
      omega
    exact ⟨h.named, h.subs, h.home, h.n0, fun j => Int.le_trans (h.n1 j) hB, h.s0, fun j => Int.le_trans (h.s1 j) hB⟩
theorem entN_subs_t {ns : List Node} {i : Nat} {es : List Entry} {st : St} {k : Nat} (h : isS ns (en es k).node 2 = true) : (entN ns i es st (k + 1)).subs = (entN ns i es st k).subs.set i ((entN ns i es st k).subs.getD i 0 + 1) := by simp only [entN, entStep, h, cond_true]
theorem entN_subs_f {ns : List Node} {i : Nat} {es : List Entry} {st : St} {k : Nat} (h : isS ns (en es k).node 2 = false) : (entN ns i es st (k + 1)).subs = (entN ns i es st k).subs := by simp only [entN, entStep, h, cond_false]
noncomputable def bad1 (ns : List Node) (tgen : Int) (m : Nat) : Bool :=
  (((((decide (tgen ≤ (lvn ns m).gen) || decide (1 < (look (gensN ns (m + 1)) (lvn ns m).gen).getD 0)) || decide (4095 < (lvn ns m).mode)) || !decide ((lvn ns m).rn < 1000000000)) || !decide ((lvn ns m).wn < 1000000000)) || !decide ((lvn ns m).tn < 1000000000)) ||
    (decide ((lvn ns m).kind = 2) && !entriesS ns (lvn ns m))
def nameN (ns : List Node) (m : Nat) : Int := (chkN ns (liv ns).length).named.getD (lvi ns m) 0
def subsN (ns : List Node) (m : Nat) : Int := (chkN ns (liv ns).length).subs.getD (lvi ns m) 0
def homeN (ns : List Node) (m : Nat) : Int := (chkN ns (liv ns).length).home.getD (lvi ns m) 0
def bad2 (ns : List Node) (m : Nat) : Bool :=
  cond (decide ((lvn ns m).kind = 2))
    (!decide ((lvn ns m).links = 2 + subsN ns m) || (decide (1 < ((lvi ns m : Nat) : Int)) && ((!decide (nameN ns m = 1) || !decide (homeN ns m = (lvn ns m).parent)) || !withinS ns ((lvi ns m : Nat) : Int) 1)))
    ((!decide ((lvn ns m).links = nameN ns m) || decide (nameN ns m < 1)) || decide (200 < nameN ns m))
def preBad (ns : List Node) : Bool :=
  ((((decide ((ns.length : Int) < 2) || decide (1025 < (ns.length : Int))) || !decide ((nd ns 0).kind = 0)) || !isS ns 1 2) || !decide ((nd ns 1).parent = 1)) || !thereS ns ((ns.length : Int) - 1)
noncomputable def checkS (ns : List Node) (tgen : Int) : Bool :=
  cond (preBad ns) false (cond (anyBad ns) false (((List.range (liv ns).length).all fun m => !bad1 ns tgen m) && ((List.range (liv ns).length).all fun m => !bad2 ns m)))
theorem checkS_1 {ns : List Node} {tgen : Int} (h : ∃ m, m < (liv ns).length ∧ bad1 ns tgen m = true) : checkS ns tgen = false := by
  obtain ⟨m, h1, h2⟩ := h
  have : (List.range (liv ns).length).all (fun m => !bad1 ns tgen m) = false := List.all_eq_false.2 ⟨m, List.mem_range.2 h1, by simp [h2]⟩
  unfold checkS; rw [this]; cases preBad ns <;> cases anyBad ns <;> rfl
theorem checkS_2 {ns : List Node} {tgen : Int} (h : ∃ m, m < (liv ns).length ∧ bad2 ns m = true) : checkS ns tgen = false := by
  obtain ⟨m, h1, h2⟩ := h
  have : (List.range (liv ns).length).all (fun m => !bad2 ns m) = false := List.all_eq_false.2 ⟨m, List.mem_range.2 h1, by simp [h2]⟩
  unfold checkS; rw [this]; cases preBad ns <;> cases anyBad ns <;> simp
theorem checkS_t {ns : List Node} {tgen : Int} (h1 : preBad ns = false) (h2 : anyBad ns = false) (h3 : ∀ m, m < (liv ns).length → bad1 ns tgen m = false) (h4 : ∀ m, m < (liv ns).length → bad2 ns m = false) : checkS ns tgen = true := by
  have e1 : (List.range (liv ns).length).all (fun m => !bad1 ns tgen m) = true := List.all_eq_true.2 fun m hm => by simp [h3 m (List.mem_range.1 hm)]
  have e2 : (List.range (liv ns).length).all (fun m => !bad2 ns m) = true := List.all_eq_true.2 fun m hm => by simp [h4 m (List.mem_range.1 hm)]
  unfold checkS; rw [h1, h2, e1, e2]; rfl
/-- entries lead to nodes -/
theorem ent_there {ns : List Node} {tgen : Int} {m k : Nat} (h1 : anyBad ns = false) (hm : m < (liv ns).length) (h2 : bad1 ns tgen m = false) (hk : k < (lvn ns m).list.length) : thereS ns (en (lvn ns m).list k).node = true := by
  have ho : onlyS (lvn ns m) = true := by
    have := List.any_eq_false.1 h1 (lvi ns m) (List.mem_range.2 (liv_get hm).1)
    simpa [lvn] using this
  have hk0 : ¬ ((lvn ns m).list.length : Int) = 0 := by omega
  have hl : listS (lvn ns m) = false := by unfold listS; rw [decide_eq_false hk0]; rfl
  have hkind : (lvn ns m).kind = 2 := by
    unfold onlyS at ho
    rw [hl] at ho
    by_cases e0 : (lvn ns m).kind = 0
    · simp [e0] at ho
    · by_cases e1 : (lvn ns m).kind = 1
      · simp [e1] at ho
      · by_cases e5 : (lvn ns m).kind = 5
        · simp [e5] at ho
        · simp [e0, e1, e5] at ho; exact ho.1.1
  have he : entriesS ns (lvn ns m) = true := by
    unfold bad1 at h2
    have := (or_f h2).2
    simpa [hkind] using this
  have hb : badE ns (lvn ns m) k = false := by
    cases hb : badE ns (lvn ns m) k with
    | false => rfl
    | true => rw [entriesS_bad hk hb] at he; cases he
  have := (or_f hb).2
  simpa using this

def val_f15 (ns : List Node) (id : Nat → Nat) : Nat → Value
  | 0 => .map (some (id 0))
  | 1 => .int .i64 (ns.length : Int)
  | 2 => .slice (some ⟨id 2, 0, none⟩) ns.length ns.length
  | 3 => .int .i64 (ns.length : Int)
  | 4 => .slice (some ⟨id 4, 0, none⟩) ns.length ns.length
  | 5 => .int .i64 (ns.length : Int)
  | 6 => .slice (some ⟨id 6, 0, none⟩) ns.length ns.length
  | 7 => .pointer (some ⟨id 7, 0, none⟩)
  | 8 => .pointer (some ⟨id 8, 0, none⟩)
  | 9 => .pointer (some ⟨id 9, 0, none⟩)
  | 10 => .pointer (some ⟨id 10, 0, none⟩)
  | 11 => undef
  | 12 => undef
  | 13 => undef
  | 14 => undef
  | _ => undef
def sig_f15 (ns : List Node) (done : Nat → Bool) (id : Nat → Nat) : Nat → Item
  | 0 => cond (done 0) (mapItem (intKey .u32) (id 0) []) noItem
  | 1 => noItem
  | 2 => cond (done 2) (own 3 1 (some ⟨id 2, 0, none⟩) ns.length ns.length (List.replicate ns.length (.int .i64 0))) noItem
  | 3 => noItem
  | 4 => cond (done 4) (own 3 1 (some ⟨id 4, 0, none⟩) ns.length ns.length (List.replicate ns.length (.int .i64 0))) noItem
  | 5 => noItem
  | 6 => cond (done 6) (own 3 1 (some ⟨id 6, 0, none⟩) ns.length ns.length (List.replicate ns.length (.int .i64 0))) noItem
  | 7 => cond (done 7) (blk (id 7) (.cells #[cond (done 11) (.map (some (id 0))) (.map none)] 123 (0, 0))) noItem
  | 8 => cond (done 8) (blk (id 8) (.cells #[cond (done 12) (.slice (some ⟨id 2, 0, none⟩) ns.length ns.length) (.slice none 0 0)] 124 (0, 0))) noItem
  | 9 => cond (done 9) (blk (id 9) (.cells #[cond (done 13) (.slice (some ⟨id 4, 0, none⟩) ns.length ns.length) (.slice none 0 0)] 124 (0, 0))) noItem
  | 10 => cond (done 10) (blk (id 10) (.cells #[cond (done 14) (.slice (some ⟨id 6, 0, none⟩) ns.length ns.length) (.slice none 0 0)] 124 (0, 0))) noItem
  | 11 => noItem
  | 12 => noItem
  | 13 => noItem
  | 14 => noItem
  | _ => noItem

set_option maxHeartbeats 8000000 in
theorem Check_calls {p : Option Addr} {ns : List Node} {al : List Loc} {cap : Nat} {gen : Int} {w : World} (hT : NodesAt (Low w) w p ns al) (hW : NodesWf ns) :
  Calls Try.prog 15 #[.agg #[.slice p ns.length cap, .int .u32 gen]] w (Ret w (.bool (checkS ns gen))) := by
 refine calls_ofM (args := [_]) [base w (Low w)] Try.func15 (by kernel_rfl) (by kernel_rfl) (Heap.start w) ?_
 intro Q hQ
 have hlen := hW.len
 refine Ev.sr 2 ?_
 refine Rg.bx 1 25 (.tmp 0) rfl fun b1 => ?_
 refine Rg.al 2 4 (.bool false) fun b2 => ?_
 refine Rg.nx (fun _ _ h => h) [2,1] rfl ?_
 refine Ev.sr 4 ?_
 refine Rg.fa 15 25 1 0 0 rfl ?_
 refine Rg.ld 16 22 15 1 rfl rfl rfl ?_
 refine Rg.p 17 (.call { callee := .builtin .len, args := #[.tmp 16], argTypes := #[22] }) (pv_len_slice rfl (by kernel_rfl)) ?_
 refine Rg.as 3 17 rfl ?_
 refine Rg.nx (fun _ _ h => h) [3,2,1] rfl ?_
 refine Ev.sq ?_
 refine Ev.sr 34 ?_
 refine Rg.mv 18 3 rfl ?_
 refine Rg.p 19 (.binOp .lss 3 (.tmp 18) (.const (.int .i64 2)) 3) (pv_lss rfl rfl) ?_
 refine Rg.mv 20 19 rfl ?_
 refine Rg.go 6 23 20 (decide (1025 < (ns.length : Int))) rfl (fun h1 => ?_) (fun h1 => ?_) ?_
 ·
  refine Rg.skips 5 (by kernel_rfl) ?_
  refine Rg.p 23 (.pick (.tmp 20) (.const (.bool true)) (.tmp 22)) (pv_pick_t rfl rfl) ?_
  exact Rg.em 20 h1 (ot_t h1) rfl rfl
 ·
  have h2 := of_decide_eq_false h1
  refine Rg.pg 2 false 21 (.move (.tmp 3)) (pv_move rfl) ?_
  refine Rg.pg 2 false 22 (.binOp .gtr 3 (.tmp 21) (.const (.int .i64 1025)) 3) (pv_gtr rfl rfl) ?_
  refine Rg.p 23 (.pick (.tmp 20) (.const (.bool true)) (.tmp 22)) (pv_pick_f rfl rfl) ?_
  exact Rg.em 20 h1 (ot_f h1) rfl rfl
 refine Rg.mv 24 23 rfl ?_
 refine Rg.go 14 31 24 (!(decide (((nd ns 0).kind) = 0))) rfl (fun h3 => ?_) (fun h3 => ?_) ?_
 ·
  refine Rg.skips 13 (by kernel_rfl) ?_
  refine Rg.p 31 (.pick (.tmp 24) (.const (.bool true)) (.tmp 30)) (pv_pick_t rfl rfl) ?_
  exact Rg.em 24 h3 (ot_t h3) rfl rfl
 ·
  have ⟨h4, h5⟩ := or_f h3
  have h6 := of_decide_eq_false h4
  have h7 := of_decide_eq_false h5
  refine Rg.pg 6 false 25 (.fieldAddr 25 (.tmp 1) 0) (pv_fieldAddr rfl (n := 0) (by kernel_rfl)) ?_
  refine Rg.pg 6 false 26 (.load 22 (.tmp 25)) (v := .slice p ns.length cap) (pv_load_blk 1 rfl rfl (by kernel_rfl) rfl) ?_
  have ⟨q3, o4, hp5⟩ := hT.rows.adr (by omega)
  refine Rg.pg 6 false 27 (.indexAddr 22 (.tmp 26) (.const (.int .i64 0))) (v := .pointer (some ⟨q3, o4 + ((0 : Int)).toNat * 25, none⟩)) (pv_indexAddr' rfl hp5 rfl (e := 44) (sz := 25) (by kernel_rfl) (by omega) (by omega)) ?_
  refine Rg.pg 6 false 28 (.fieldAddr 44 (.tmp 27) 0) (pv_fieldAddr rfl (n := 0) (by kernel_rfl)) ?_
  refine Rg.pg 6 false 29 (.load 33 (.tmp 28)) (v := .int .u32 ((nd ns 0).kind)) (pv_load rfl (by kernel_rfl) (fun w hw => ((hT).keep (hw.at_ 2 rfl) (fun _ h => h)).rows.cell _ _ hp5 _ (by omega) 0 (by decide))) ?_
  refine Rg.pg 6 false 30 (.binOp .neq 33 (.tmp 29) (.const (.int .u32 0)) 33) (pv_neq rfl rfl) ?_
  refine Rg.p 31 (.pick (.tmp 24) (.const (.bool true)) (.tmp 30)) (pv_pick_f rfl rfl) ?_
  exact Rg.em 24 h3 (ot_f h3) rfl rfl
 refine Rg.mv 32 31 rfl ?_
 refine Rg.go 19 36 32 (!(isS ns 1 2)) rfl (fun h8 => ?_) (fun h8 => ?_) ?_
 ·
  refine Rg.skips 18 (by kernel_rfl) ?_
  refine Rg.p 36 (.pick (.tmp 32) (.const (.bool true)) (.tmp 35)) (pv_pick_t rfl rfl) ?_
  exact Rg.em 32 h8 (ot_t h8) rfl rfl
 ·
  have ⟨h9, h10⟩ := or_f h8
  have ⟨h11, h12⟩ := or_f h9
  have h13 := of_decide_eq_false h11
  have h14 := of_decide_eq_false h12
  have h15 := of_decide_eq_true (not_f h10)
  refine Rg.pg 14 false 33 (.load 25 (.tmp 1)) (v := .agg #[.slice p ns.length cap, .int .u32 gen]) (pv_load_blk_whole 1 rfl rfl (by kernel_rfl) (by kernel_rfl)) ?_
  refine rg_call (d := some 34) (f := 53) (xs := #[.tmp 33, .const (.int .i64 1), .const (.int .u32 2)]) (ts := #[25, 3, 33]) (g := some (14, false)) (v := .bool (isS ns 1 2)) (by kernel_rfl) (by kernel_rfl) (by kernel_rfl) rfl (fun w hw => is_calls ((hT).keep (hw.at_ 2 rfl) (fun k hk => hw.lt 2 rfl hk))) ?_
  refine Rg.pg 14 false 35 (.unOp .not 4 (.tmp 34)) (pv_not (b := isS ns 1 2) rfl) ?_
  refine Rg.p 36 (.pick (.tmp 32) (.const (.bool true)) (.tmp 35)) (pv_pick_f rfl rfl) ?_
  exact Rg.em 32 h8 (ot_f h8) rfl rfl
 refine Rg.mv 37 36 rfl ?_
 refine Rg.go 27 44 37 (!(decide (((nd ns 1).parent) = 1))) rfl (fun h16 => ?_) (fun h16 => ?_) ?_
 ·
  refine Rg.skips 26 (by kernel_rfl) ?_
  refine Rg.p 44 (.pick (.tmp 37) (.const (.bool true)) (.tmp 43)) (pv_pick_t rfl rfl) ?_
  exact Rg.em 37 h16 (ot_t h16) rfl rfl
 ·
  have ⟨h17, h18⟩ := or_f h16
  have ⟨h19, h20⟩ := or_f h17
  have ⟨h21, h22⟩ := or_f h19
  have h23 := of_decide_eq_false h21
  have h24 := of_decide_eq_false h22
  have h25 := of_decide_eq_true (not_f h20)
  have h26 := not_f h18
  have ⟨h27, h28, h29, h30⟩ := isS_t h26
  refine Rg.pg 19 false 38 (.fieldAddr 25 (.tmp 1) 0) (pv_fieldAddr rfl (n := 0) (by kernel_rfl)) ?_
  refine Rg.pg 19 false 39 (.load 22 (.tmp 38)) (v := .slice p ns.length cap) (pv_load_blk 1 rfl rfl (by kernel_rfl) rfl) ?_
  have ⟨q6, o7, hp8⟩ := hT.rows.adr (by omega)
  refine Rg.pg 19 false 40 (.indexAddr 22 (.tmp 39) (.const (.int .i64 1))) (v := .pointer (some ⟨q6, o7 + ((1 : Int)).toNat * 25, none⟩)) (pv_indexAddr' rfl hp8 rfl (e := 44) (sz := 25) (by kernel_rfl) (by omega) (by omega)) ?_
  refine Rg.pg 19 false 41 (.fieldAddr 44 (.tmp 40) 13) (pv_fieldAddr rfl (n := 23) (by kernel_rfl)) ?_
  refine Rg.pg 19 false 42 (.load 3 (.tmp 41)) (v := .int .i64 ((nd ns 1).parent)) (pv_load rfl (by kernel_rfl) (fun w hw => ((hT).keep (hw.at_ 2 rfl) (fun _ h => h)).rows.cell _ _ hp8 _ (by omega) 23 (by decide))) ?_
  refine Rg.pg 19 false 43 (.binOp .neq 3 (.tmp 42) (.const (.int .i64 1)) 3) (pv_neq rfl rfl) ?_
  refine Rg.p 44 (.pick (.tmp 37) (.const (.bool true)) (.tmp 43)) (pv_pick_f rfl rfl) ?_
  exact Rg.em 37 h16 (ot_f h16) rfl rfl
 refine Rg.mv 45 44 rfl ?_
 refine Rg.go 34 51 45 (!(thereS ns ((ns.length : Int) - 1))) rfl (fun h31 => ?_) (fun h31 => ?_) ?_
 ·
  refine Rg.skips 33 (by kernel_rfl) ?_
  refine Rg.p 51 (.pick (.tmp 45) (.const (.bool true)) (.tmp 50)) (pv_pick_t rfl rfl) ?_
  exact Rg.em 45 h31 (ot_t h31) rfl rfl
 ·
  have ⟨h32, h33⟩ := or_f h31
  have ⟨h34, h35⟩ := or_f h32
  have ⟨h36, h37⟩ := or_f h34
  have ⟨h38, h39⟩ := or_f h36
  have h40 := of_decide_eq_false h38
  have h41 := of_decide_eq_false h39
  have h42 := of_decide_eq_true (not_f h37)
  have h43 := not_f h35
  have ⟨h44, h45, h46, h47⟩ := isS_t h43
  have h48 := of_decide_eq_true (not_f h33)
  refine Rg.pg 27 false 46 (.load 25 (.tmp 1)) (v := .agg #[.slice p ns.length cap, .int .u32 gen]) (pv_load_blk_whole 1 rfl rfl (by kernel_rfl) (by kernel_rfl)) ?_
  refine Rg.pg 27 false 47 (.move (.tmp 3)) (pv_move rfl) ?_
  refine Rg.pg 27 false 48 (.binOp .sub 3 (.tmp 47) (.const (.int .i64 1)) 3) (pv_subb rfl rfl (in_i64 (by omega) (by omega))) ?_
  refine rg_call (d := some 49) (f := 54) (xs := #[.tmp 46, .tmp 48]) (ts := #[25, 3]) (g := some (27, false)) (v := .bool (thereS ns ((ns.length : Int) - 1))) (by kernel_rfl) (by kernel_rfl) (by kernel_rfl) rfl (fun w hw => there_calls ((hT).keep (hw.at_ 2 rfl) (fun k hk => hw.lt 2 rfl hk))) ?_
  refine Rg.pg 27 false 50 (.unOp .not 4 (.tmp 49)) (pv_not (b := thereS ns ((ns.length : Int) - 1)) rfl) ?_
  refine Rg.p 51 (.pick (.tmp 45) (.const (.bool true)) (.tmp 50)) (pv_pick_f rfl rfl) ?_
  exact Rg.em 45 h31 (ot_f h31) rfl rfl
 refine Rg.nx (fun _ _ h => h) [51,3,2,1] rfl ?_
 refine Ev.cd 51 rfl (fun h49 => ?_) (fun h49 => ?_)
 ·
  refine Ev.sr 1 ?_
  refine Rg.st 4 2 (.const (.bool false)) 0 #[.bool false] rfl rfl rfl ?_
  refine Rg.nx (fun _ _ h => h) [3,2,1] rfl ?_
  refine Ev.rt ?_
  refine At.via (Q := Q) hQ ?_
  refine At.leave ?_
  refine LeaveAt.one rfl (reads_cell 0 rfl rfl (by kernel_rfl) rfl) ?_
  exact fun w hw => ⟨(by unfold checkS; rw [show preBad ns = true from h49]; rfl), hw.base_below 2 rfl⟩
 ·
  have ⟨h50, h51⟩ := or_f h49
  have ⟨h52, h53⟩ := or_f h50
  have ⟨h54, h55⟩ := or_f h52
  have ⟨h56, h57⟩ := or_f h54
  have ⟨h58, h59⟩ := or_f h56
  have h60 := of_decide_eq_false h58
  have h61 := of_decide_eq_false h59
  have h62 := of_decide_eq_true (not_f h57)
  have h63 := not_f h55
  have ⟨h64, h65, h66, h67⟩ := isS_t h63
  have h68 := of_decide_eq_true (not_f h53)
  have h69 := not_f h51
  have ⟨h70, h71, h72⟩ := thereS_t h69
  have hpre_ : preBad ns = false := h49
  refine Ev.sk ?_
  refine At.nx (fun _ _ h => h) [3,2,1] rfl ?_
  refine Ev.sq ?_
  refine Ev.sr 3 ?_
  refine Rg.fa 52 25 1 0 0 rfl ?_
  refine Rg.ld 53 22 52 1 rfl rfl rfl ?_
  refine Rg.cl (some 54) 55 #[.tmp 53, .func 56] #[22, 122] (v := .bool (anyBad ns)) rfl (fun w hw => containsFunc_calls ((hT).keep (hw.at_ 2 rfl) (fun k hk => hw.lt 2 rfl hk)) hW) ?_
  refine Rg.nx (fun _ _ h => h) [54,3,2,1] rfl ?_
  refine Ev.cd 54 rfl (fun h73 => ?_) (fun h73 => ?_)
  ·
   refine Ev.sr 1 ?_
   refine Rg.st 4 2 (.const (.bool false)) 0 #[.bool false] rfl rfl rfl ?_
   refine Rg.nx (fun _ _ h => h) [3,2,1] rfl ?_
   refine Ev.rt ?_
   refine At.via (Q := Q) hQ ?_
   refine At.leave ?_
   refine LeaveAt.one rfl (reads_cell 0 rfl rfl (by kernel_rfl) rfl) ?_
   exact fun w hw => ⟨(by unfold checkS; rw [hpre_, show anyBad ns = true from h73]; rfl), hw.base_below 2 rfl⟩
  ·
   have hbad_ : anyBad ns = false := h73
   refine Ev.sk ?_
   refine At.nx (fun _ _ h => h) [3,2,1] rfl ?_
   refine Ev.sq ?_
   refine ev_drawD (n := 15) (val_f15 ns) (sig_f15 ns) (by kernel_rfl) (by kernel_rfl) (fun id j hj => by obtain rfl | rfl | rfl | rfl | rfl | rfl | rfl | rfl | rfl | rfl | rfl | rfl | rfl | rfl | rfl : j = 0 ∨ j = 1 ∨ j = 2 ∨ j = 3 ∨ j = 4 ∨ j = 5 ∨ j = 6 ∨ j = 7 ∨ j = 8 ∨ j = 9 ∨ j = 10 ∨ j = 11 ∨ j = 12 ∨ j = 13 ∨ j = 14 := (by omega) <;> rfl) ?_ ?_
   ·
    intro i hi done hnd hdeps hdown
    obtain rfl | rfl | rfl | rfl | rfl | rfl | rfl | rfl | rfl | rfl | rfl | rfl | rfl | rfl | rfl : i = 0 ∨ i = 1 ∨ i = 2 ∨ i = 3 ∨ i = 4 ∨ i = 5 ∨ i = 6 ∨ i = 7 ∨ i = 8 ∨ i = 9 ∨ i = 10 ∨ i = 11 ∨ i = 12 ∨ i = 13 ∨ i = 14 := (by omega)
    ·
     have hs11 : done 11 = false := dep_of hdown hnd (by kernel_rfl); exact dstep_make (d := 55) (op := .makeMap 123 none) (.map #[] 0) (by kernel_rfl) hi (by kernel_rfl) rfl (low_of (by kernel_rfl)) hdeps (fun id b a w o ha ho hb => by subst hb; exact exec_makeMap ho) (fun id => by simp [sig_f15, hnd]) (fun id b k h => by simpa [sig_f15, updB, updN, mapItem] using h) (fun id w => ⟨#[], 0, by simp [sig_f15, updB, updN], rfl⟩) (fun id b j hj hne => by obtain rfl | rfl | rfl | rfl | rfl | rfl | rfl | rfl | rfl | rfl | rfl | rfl | rfl | rfl | rfl : j = 0 ∨ j = 1 ∨ j = 2 ∨ j = 3 ∨ j = 4 ∨ j = 5 ∨ j = 6 ∨ j = 7 ∨ j = 8 ∨ j = 9 ∨ j = 10 ∨ j = 11 ∨ j = 12 ∨ j = 13 ∨ j = 14 := (by omega) <;> first | exact absurd rfl hne | rfl | simp [sig_f15, updB, updN, hs11]) (fun id b j hj hd => by obtain rfl | rfl | rfl | rfl | rfl | rfl | rfl | rfl | rfl | rfl | rfl | rfl | rfl | rfl | rfl : j = 0 ∨ j = 1 ∨ j = 2 ∨ j = 3 ∨ j = 4 ∨ j = 5 ∨ j = 6 ∨ j = 7 ∨ j = 8 ∨ j = 9 ∨ j = 10 ∨ j = 11 ∨ j = 12 ∨ j = 13 ∨ j = 14 := (by omega) <;> first | rfl | (rw [hnd] at hd; cases hd))
    ·
     exact dstep_pure (d := 56) (op := .move (.tmp 3)) (by kernel_rfl) hi (by kernel_rfl) rfl (low_of (by kernel_rfl)) hdeps (fun id => (pv_move (by kernel_rfl))) (fun id j hj => by obtain rfl | rfl | rfl | rfl | rfl | rfl | rfl | rfl | rfl | rfl | rfl | rfl | rfl | rfl | rfl : j = 0 ∨ j = 1 ∨ j = 2 ∨ j = 3 ∨ j = 4 ∨ j = 5 ∨ j = 6 ∨ j = 7 ∨ j = 8 ∨ j = 9 ∨ j = 10 ∨ j = 11 ∨ j = 12 ∨ j = 13 ∨ j = 14 := (by omega) <;> rfl)
    ·
     have hs12 : done 12 = false := dep_of hdown hnd (by kernel_rfl); exact dstep_make (d := 57) (op := .makeSlice 124 (.tmp 56) (.tmp 56)) (.cells (List.replicate ns.length (.int .i64 0)).toArray 3 (0, 0)) (by kernel_rfl) hi (by kernel_rfl) rfl (low_of (by kernel_rfl)) hdeps (fun id b a w o ha ho hb => by subst hb; exact exec_makeSlice (L := (ns.length : Int)) ho (ha.eval (by kernel_rfl)) (ha.eval (by kernel_rfl)) (e := 3) (sz := 1) (by kernel_rfl) (zv := .int .i64 0) (by kernel_rfl) rfl rfl (by omega) (by omega) (by show bytesT Try.prog 3 ≤ 65536; rw [show bytesT Try.prog 3 = 8 from by kernel_rfl]; omega)) (fun id => by simp [sig_f15, hnd]) (fun id b k h => by have h2 : (some (⟨b, 0, none⟩ : Addr)) = some ⟨k, 0, none⟩ := h; simp only [Option.some.injEq, Addr.mk.injEq, and_true] at h2; exact h2.symm) (fun id w => .inr ⟨w.heap.size, [], rfl, by simp, by simp, by simp⟩) (fun id b j hj hne => by obtain rfl | rfl | rfl | rfl | rfl | rfl | rfl | rfl | rfl | rfl | rfl | rfl | rfl | rfl | rfl : j = 0 ∨ j = 1 ∨ j = 2 ∨ j = 3 ∨ j = 4 ∨ j = 5 ∨ j = 6 ∨ j = 7 ∨ j = 8 ∨ j = 9 ∨ j = 10 ∨ j = 11 ∨ j = 12 ∨ j = 13 ∨ j = 14 := (by omega) <;> first | exact absurd rfl hne | rfl | simp [sig_f15, updB, updN, hs12]) (fun id b j hj hd => by obtain rfl | rfl | rfl | rfl | rfl | rfl | rfl | rfl | rfl | rfl | rfl | rfl | rfl | rfl | rfl : j = 0 ∨ j = 1 ∨ j = 2 ∨ j = 3 ∨ j = 4 ∨ j = 5 ∨ j = 6 ∨ j = 7 ∨ j = 8 ∨ j = 9 ∨ j = 10 ∨ j = 11 ∨ j = 12 ∨ j = 13 ∨ j = 14 := (by omega) <;> first | rfl | (rw [hnd] at hd; cases hd))
    ·
     exact dstep_pure (d := 58) (op := .move (.tmp 3)) (by kernel_rfl) hi (by kernel_rfl) rfl (low_of (by kernel_rfl)) hdeps (fun id => (pv_move (by kernel_rfl))) (fun id j hj => by obtain rfl | rfl | rfl | rfl | rfl | rfl | rfl | rfl | rfl | rfl | rfl | rfl | rfl | rfl | rfl : j = 0 ∨ j = 1 ∨ j = 2 ∨ j = 3 ∨ j = 4 ∨ j = 5 ∨ j = 6 ∨ j = 7 ∨ j = 8 ∨ j = 9 ∨ j = 10 ∨ j = 11 ∨ j = 12 ∨ j = 13 ∨ j = 14 := (by omega) <;> rfl)
    ·
     have hs13 : done 13 = false := dep_of hdown hnd (by kernel_rfl); exact dstep_make (d := 59) (op := .makeSlice 124 (.tmp 58) (.tmp 58)) (.cells (List.replicate ns.length (.int .i64 0)).toArray 3 (0, 0)) (by kernel_rfl) hi (by kernel_rfl) rfl (low_of (by kernel_rfl)) hdeps (fun id b a w o ha ho hb => by subst hb; exact exec_makeSlice (L := (ns.length : Int)) ho (ha.eval (by kernel_rfl)) (ha.eval (by kernel_rfl)) (e := 3) (sz := 1) (by kernel_rfl) (zv := .int .i64 0) (by kernel_rfl) rfl rfl (by omega) (by omega) (by show bytesT Try.prog 3 ≤ 65536; rw [show bytesT Try.prog 3 = 8 from by kernel_rfl]; omega)) (fun id => by simp [sig_f15, hnd]) (fun id b k h => by have h2 : (some (⟨b, 0, none⟩ : Addr)) = some ⟨k, 0, none⟩ := h; simp only [Option.some.injEq, Addr.mk.injEq, and_true] at h2; exact h2.symm) (fun id w => .inr ⟨w.heap.size, [], rfl, by simp, by simp, by simp⟩) (fun id b j hj hne => by obtain rfl | rfl | rfl | rfl | rfl | rfl | rfl | rfl | rfl | rfl | rfl | rfl | rfl | rfl | rfl : j = 0 ∨ j = 1 ∨ j = 2 ∨ j = 3 ∨ j = 4 ∨ j = 5 ∨ j = 6 ∨ j = 7 ∨ j = 8 ∨ j = 9 ∨ j = 10 ∨ j = 11 ∨ j = 12 ∨ j = 13 ∨ j = 14 := (by omega) <;> first | exact absurd rfl hne | rfl | simp [sig_f15, updB, updN, hs13]) (fun id b j hj hd => by obtain rfl | rfl | rfl | rfl | rfl | rfl | rfl | rfl | rfl | rfl | rfl | rfl | rfl | rfl | rfl : j = 0 ∨ j = 1 ∨ j = 2 ∨ j = 3 ∨ j = 4 ∨ j = 5 ∨ j = 6 ∨ j = 7 ∨ j = 8 ∨ j = 9 ∨ j = 10 ∨ j = 11 ∨ j = 12 ∨ j = 13 ∨ j = 14 := (by omega) <;> first | rfl | (rw [hnd] at hd; cases hd))
    ·
     exact dstep_pure (d := 60) (op := .move (.tmp 3)) (by kernel_rfl) hi (by kernel_rfl) rfl (low_of (by kernel_rfl)) hdeps (fun id => (pv_move (by kernel_rfl))) (fun id j hj => by obtain rfl | rfl | rfl | rfl | rfl | rfl | rfl | rfl | rfl | rfl | rfl | rfl | rfl | rfl | rfl : j = 0 ∨ j = 1 ∨ j = 2 ∨ j = 3 ∨ j = 4 ∨ j = 5 ∨ j = 6 ∨ j = 7 ∨ j = 8 ∨ j = 9 ∨ j = 10 ∨ j = 11 ∨ j = 12 ∨ j = 13 ∨ j = 14 := (by omega) <;> rfl)
    ·
     have hs14 : done 14 = false := dep_of hdown hnd (by kernel_rfl); exact dstep_make (d := 61) (op := .makeSlice 124 (.tmp 60) (.tmp 60)) (.cells (List.replicate ns.length (.int .i64 0)).toArray 3 (0, 0)) (by kernel_rfl) hi (by kernel_rfl) rfl (low_of (by kernel_rfl)) hdeps (fun id b a w o ha ho hb => by subst hb; exact exec_makeSlice (L := (ns.length : Int)) ho (ha.eval (by kernel_rfl)) (ha.eval (by kernel_rfl)) (e := 3) (sz := 1) (by kernel_rfl) (zv := .int .i64 0) (by kernel_rfl) rfl rfl (by omega) (by omega) (by show bytesT Try.prog 3 ≤ 65536; rw [show bytesT Try.prog 3 = 8 from by kernel_rfl]; omega)) (fun id => by simp [sig_f15, hnd]) (fun id b k h => by have h2 : (some (⟨b, 0, none⟩ : Addr)) = some ⟨k, 0, none⟩ := h; simp only [Option.some.injEq, Addr.mk.injEq, and_true] at h2; exact h2.symm) (fun id w => .inr ⟨w.heap.size, [], rfl, by simp, by simp, by simp⟩) (fun id b j hj hne => by obtain rfl | rfl | rfl | rfl | rfl | rfl | rfl | rfl | rfl | rfl | rfl | rfl | rfl | rfl | rfl : j = 0 ∨ j = 1 ∨ j = 2 ∨ j = 3 ∨ j = 4 ∨ j = 5 ∨ j = 6 ∨ j = 7 ∨ j = 8 ∨ j = 9 ∨ j = 10 ∨ j = 11 ∨ j = 12 ∨ j = 13 ∨ j = 14 := (by omega) <;> first | exact absurd rfl hne | rfl | simp [sig_f15, updB, updN, hs14]) (fun id b j hj hd => by obtain rfl | rfl | rfl | rfl | rfl | rfl | rfl | rfl | rfl | rfl | rfl | rfl | rfl | rfl | rfl : j = 0 ∨ j = 1 ∨ j = 2 ∨ j = 3 ∨ j = 4 ∨ j = 5 ∨ j = 6 ∨ j = 7 ∨ j = 8 ∨ j = 9 ∨ j = 10 ∨ j = 11 ∨ j = 12 ∨ j = 13 ∨ j = 14 := (by omega) <;> first | rfl | (rw [hnd] at hd; cases hd))
    ·
     have hq : done 11 = false := dep_of hdown hnd (by kernel_rfl); exact dstep_make (d := 4) (op := .alloc 123) (.cells (.map none : Value).cells 123 (0, 0)) (by kernel_rfl) hi (by kernel_rfl) rfl (low_of (by kernel_rfl)) hdeps (fun id b a w o ha ho hb => by subst hb; exact exec_alloc ho (by kernel_rfl)) (fun id => by simp [sig_f15, hnd]) (fun id b k h => by simpa [sig_f15, updB, updN, blk] using h) (fun id w => by show (w.heap.push _)[w.heap.size]? = _; simp [updB, updN, hq]; try rfl) (fun id b j hj hne => by obtain rfl | rfl | rfl | rfl | rfl | rfl | rfl | rfl | rfl | rfl | rfl | rfl | rfl | rfl | rfl : j = 0 ∨ j = 1 ∨ j = 2 ∨ j = 3 ∨ j = 4 ∨ j = 5 ∨ j = 6 ∨ j = 7 ∨ j = 8 ∨ j = 9 ∨ j = 10 ∨ j = 11 ∨ j = 12 ∨ j = 13 ∨ j = 14 := (by omega) <;> first | exact absurd rfl hne | rfl | simp [sig_f15, updB, updN]) (fun id b j hj hd => by obtain rfl | rfl | rfl | rfl | rfl | rfl | rfl | rfl | rfl | rfl | rfl | rfl | rfl | rfl | rfl : j = 0 ∨ j = 1 ∨ j = 2 ∨ j = 3 ∨ j = 4 ∨ j = 5 ∨ j = 6 ∨ j = 7 ∨ j = 8 ∨ j = 9 ∨ j = 10 ∨ j = 11 ∨ j = 12 ∨ j = 13 ∨ j = 14 := (by omega) <;> first | rfl | (rw [hnd] at hd; cases hd))
    ·
     have hq : done 12 = false := dep_of hdown hnd (by kernel_rfl); exact dstep_make (d := 5) (op := .alloc 124) (.cells (.slice none 0 0 : Value).cells 124 (0, 0)) (by kernel_rfl) hi (by kernel_rfl) rfl (low_of (by kernel_rfl)) hdeps (fun id b a w o ha ho hb => by subst hb; exact exec_alloc ho (by kernel_rfl)) (fun id => by simp [sig_f15, hnd]) (fun id b k h => by simpa [sig_f15, updB, updN, blk] using h) (fun id w => by show (w.heap.push _)[w.heap.size]? = _; simp [updB, updN, hq]; try rfl) (fun id b j hj hne => by obtain rfl | rfl | rfl | rfl | rfl | rfl | rfl | rfl | rfl | rfl | rfl | rfl | rfl | rfl | rfl : j = 0 ∨ j = 1 ∨ j = 2 ∨ j = 3 ∨ j = 4 ∨ j = 5 ∨ j = 6 ∨ j = 7 ∨ j = 8 ∨ j = 9 ∨ j = 10 ∨ j = 11 ∨ j = 12 ∨ j = 13 ∨ j = 14 := (by omega) <;> first | exact absurd rfl hne | rfl | simp [sig_f15, updB, updN]) (fun id b j hj hd => by obtain rfl | rfl | rfl | rfl | rfl | rfl | rfl | rfl | rfl | rfl | rfl | rfl | rfl | rfl | rfl : j = 0 ∨ j = 1 ∨ j = 2 ∨ j = 3 ∨ j = 4 ∨ j = 5 ∨ j = 6 ∨ j = 7 ∨ j = 8 ∨ j = 9 ∨ j = 10 ∨ j = 11 ∨ j = 12 ∨ j = 13 ∨ j = 14 := (by omega) <;> first | rfl | (rw [hnd] at hd; cases hd))
    ·
     have hq : done 13 = false := dep_of hdown hnd (by kernel_rfl); exact dstep_make (d := 6) (op := .alloc 124) (.cells (.slice none 0 0 : Value).cells 124 (0, 0)) (by kernel_rfl) hi (by kernel_rfl) rfl (low_of (by kernel_rfl)) hdeps (fun id b a w o ha ho hb => by subst hb; exact exec_alloc ho (by kernel_rfl)) (fun id => by simp [sig_f15, hnd]) (fun id b k h => by simpa [sig_f15, updB, updN, blk] using h) (fun id w => by show (w.heap.push _)[w.heap.size]? = _; simp [updB, updN, hq]; try rfl) (fun id b j hj hne => by obtain rfl | rfl | rfl | rfl | rfl | rfl | rfl | rfl | rfl | rfl | rfl | rfl | rfl | rfl | rfl : j = 0 ∨ j = 1 ∨ j = 2 ∨ j = 3 ∨ j = 4 ∨ j = 5 ∨ j = 6 ∨ j = 7 ∨ j = 8 ∨ j = 9 ∨ j = 10 ∨ j = 11 ∨ j = 12 ∨ j = 13 ∨ j = 14 := (by omega) <;> first | exact absurd rfl hne | rfl | simp [sig_f15, updB, updN]) (fun id b j hj hd => by obtain rfl | rfl | rfl | rfl | rfl | rfl | rfl | rfl | rfl | rfl | rfl | rfl | rfl | rfl | rfl : j = 0 ∨ j = 1 ∨ j = 2 ∨ j = 3 ∨ j = 4 ∨ j = 5 ∨ j = 6 ∨ j = 7 ∨ j = 8 ∨ j = 9 ∨ j = 10 ∨ j = 11 ∨ j = 12 ∨ j = 13 ∨ j = 14 := (by omega) <;> first | rfl | (rw [hnd] at hd; cases hd))
    ·
     have hq : done 14 = false := dep_of hdown hnd (by kernel_rfl); exact dstep_make (d := 7) (op := .alloc 124) (.cells (.slice none 0 0 : Value).cells 124 (0, 0)) (by kernel_rfl) hi (by kernel_rfl) rfl (low_of (by kernel_rfl)) hdeps (fun id b a w o ha ho hb => by subst hb; exact exec_alloc ho (by kernel_rfl)) (fun id => by simp [sig_f15, hnd]) (fun id b k h => by simpa [sig_f15, updB, updN, blk] using h) (fun id w => by show (w.heap.push _)[w.heap.size]? = _; simp [updB, updN, hq]; try rfl) (fun id b j hj hne => by obtain rfl | rfl | rfl | rfl | rfl | rfl | rfl | rfl | rfl | rfl | rfl | rfl | rfl | rfl | rfl : j = 0 ∨ j = 1 ∨ j = 2 ∨ j = 3 ∨ j = 4 ∨ j = 5 ∨ j = 6 ∨ j = 7 ∨ j = 8 ∨ j = 9 ∨ j = 10 ∨ j = 11 ∨ j = 12 ∨ j = 13 ∨ j = 14 := (by omega) <;> first | exact absurd rfl hne | rfl | simp [sig_f15, updB, updN]) (fun id b j hj hd => by obtain rfl | rfl | rfl | rfl | rfl | rfl | rfl | rfl | rfl | rfl | rfl | rfl | rfl | rfl | rfl : j = 0 ∨ j = 1 ∨ j = 2 ∨ j = 3 ∨ j = 4 ∨ j = 5 ∨ j = 6 ∨ j = 7 ∨ j = 8 ∨ j = 9 ∨ j = 10 ∨ j = 11 ∨ j = 12 ∨ j = 13 ∨ j = 14 := (by omega) <;> first | rfl | (rw [hnd] at hd; cases hd))
    ·
     have hm : done 7 = true := dep_in hdeps (by kernel_rfl)
     exact dstep_store (m := 7) (t := 123) (u := 123) (v0 := 0) (x := .tmp 4) (y := .tmp 55) (bk := fun id => id 7) (cs := fun id => #[.map none]) (cs' := fun id => #[.map (some (id 0))]) (yv := fun id => .map (some (id 0))) (by kernel_rfl) hi (by omega) (by kernel_rfl) (low_of (by kernel_rfl)) hdeps (fun id => by kernel_rfl) (fun id => by kernel_rfl) (fun id => by simp [sig_f15, hm, hnd]) (fun id => by simp [sig_f15, updB, hm]) (fun id j hj hne => by obtain rfl | rfl | rfl | rfl | rfl | rfl | rfl | rfl | rfl | rfl | rfl | rfl | rfl | rfl | rfl : j = 0 ∨ j = 1 ∨ j = 2 ∨ j = 3 ∨ j = 4 ∨ j = 5 ∨ j = 6 ∨ j = 7 ∨ j = 8 ∨ j = 9 ∨ j = 10 ∨ j = 11 ∨ j = 12 ∨ j = 13 ∨ j = 14 := (by omega) <;> first | exact absurd rfl hne | rfl) (fun id => by kernel_rfl) (fun id => Nat.le_of_ble_eq_true (by kernel_rfl)) (fun id => by kernel_rfl) (fun id => by kernel_rfl) rfl
    ·
     have hm : done 8 = true := dep_in hdeps (by kernel_rfl)
     exact dstep_store (m := 8) (t := 124) (u := 124) (v0 := 0) (x := .tmp 5) (y := .tmp 57) (bk := fun id => id 8) (cs := fun id => #[.slice none 0 0]) (cs' := fun id => #[.slice (some ⟨id 2, 0, none⟩) ns.length ns.length]) (yv := fun id => .slice (some ⟨id 2, 0, none⟩) ns.length ns.length) (by kernel_rfl) hi (by omega) (by kernel_rfl) (low_of (by kernel_rfl)) hdeps (fun id => by kernel_rfl) (fun id => by kernel_rfl) (fun id => by simp [sig_f15, hm, hnd]) (fun id => by simp [sig_f15, updB, hm]) (fun id j hj hne => by obtain rfl | rfl | rfl | rfl | rfl | rfl | rfl | rfl | rfl | rfl | rfl | rfl | rfl | rfl | rfl : j = 0 ∨ j = 1 ∨ j = 2 ∨ j = 3 ∨ j = 4 ∨ j = 5 ∨ j = 6 ∨ j = 7 ∨ j = 8 ∨ j = 9 ∨ j = 10 ∨ j = 11 ∨ j = 12 ∨ j = 13 ∨ j = 14 := (by omega) <;> first | exact absurd rfl hne | rfl) (fun id => by kernel_rfl) (fun id => Nat.le_of_ble_eq_true (by kernel_rfl)) (fun id => by kernel_rfl) (fun id => by kernel_rfl) rfl
    ·
     have hm : done 9 = true := dep_in hdeps (by kernel_rfl)
     exact dstep_store (m := 9) (t := 124) (u := 124) (v0 := 0) (x := .tmp 6) (y := .tmp 59) (bk := fun id => id 9) (cs := fun id => #[.slice none 0 0]) (cs' := fun id => #[.slice (some ⟨id 4, 0, none⟩) ns.length ns.length]) (yv := fun id => .slice (some ⟨id 4, 0, none⟩) ns.length ns.length) (by kernel_rfl) hi (by omega) (by kernel_rfl) (low_of (by kernel_rfl)) hdeps (fun id => by kernel_rfl) (fun id => by kernel_rfl) (fun id => by simp [sig_f15, hm, hnd]) (fun id => by simp [sig_f15, updB, hm]) (fun id j hj hne => by obtain rfl | rfl | rfl | rfl | rfl | rfl | rfl | rfl | rfl | rfl | rfl | rfl | rfl | rfl | rfl : j = 0 ∨ j = 1 ∨ j = 2 ∨ j = 3 ∨ j = 4 ∨ j = 5 ∨ j = 6 ∨ j = 7 ∨ j = 8 ∨ j = 9 ∨ j = 10 ∨ j = 11 ∨ j = 12 ∨ j = 13 ∨ j = 14 := (by omega) <;> first | exact absurd rfl hne | rfl) (fun id => by kernel_rfl) (fun id => Nat.le_of_ble_eq_true (by kernel_rfl)) (fun id => by kernel_rfl) (fun id => by kernel_rfl) rfl
    ·
     have hm : done 10 = true := dep_in hdeps (by kernel_rfl)
     exact dstep_store (m := 10) (t := 124) (u := 124) (v0 := 0) (x := .tmp 7) (y := .tmp 61) (bk := fun id => id 10) (cs := fun id => #[.slice none 0 0]) (cs' := fun id => #[.slice (some ⟨id 6, 0, none⟩) ns.length ns.length]) (yv := fun id => .slice (some ⟨id 6, 0, none⟩) ns.length ns.length) (by kernel_rfl) hi (by omega) (by kernel_rfl) (low_of (by kernel_rfl)) hdeps (fun id => by kernel_rfl) (fun id => by kernel_rfl) (fun id => by simp [sig_f15, hm, hnd]) (fun id => by simp [sig_f15, updB, hm]) (fun id j hj hne => by obtain rfl | rfl | rfl | rfl | rfl | rfl | rfl | rfl | rfl | rfl | rfl | rfl | rfl | rfl | rfl : j = 0 ∨ j = 1 ∨ j = 2 ∨ j = 3 ∨ j = 4 ∨ j = 5 ∨ j = 6 ∨ j = 7 ∨ j = 8 ∨ j = 9 ∨ j = 10 ∨ j = 11 ∨ j = 12 ∨ j = 13 ∨ j = 14 := (by omega) <;> first | exact absurd rfl hne | rfl) (fun id => by kernel_rfl) (fun id => Nat.le_of_ble_eq_true (by kernel_rfl)) (fun id => by kernel_rfl) (fun id => by kernel_rfl) rfl
   ·
    intro done id hall
    have e0 := hall 0 (by omega)
    have e1 := hall 1 (by omega)
    have e2 := hall 2 (by omega)
    have e3 := hall 3 (by omega)
    have e4 := hall 4 (by omega)
    have e5 := hall 5 (by omega)
    have e6 := hall 6 (by omega)
    have e7 := hall 7 (by omega)
    have e8 := hall 8 (by omega)
    have e9 := hall 9 (by omega)
    have e10 := hall 10 (by omega)
    have e11 := hall 11 (by omega)
    have e12 := hall 12 (by omega)
    have e13 := hall 13 (by omega)
    have e14 := hall 14 (by omega)
    obtain ⟨r_0, q0⟩ : ∃ b, id 0 = b := ⟨_, rfl⟩
    obtain ⟨z_2, q2⟩ : ∃ b, id 2 = b := ⟨_, rfl⟩
    obtain ⟨z_4, q4⟩ : ∃ b, id 4 = b := ⟨_, rfl⟩
    obtain ⟨z_6, q6⟩ : ∃ b, id 6 = b := ⟨_, rfl⟩
    obtain ⟨b_7, q7⟩ : ∃ b, id 7 = b := ⟨_, rfl⟩
    obtain ⟨b_8, q8⟩ : ∃ b, id 8 = b := ⟨_, rfl⟩
    obtain ⟨b_9, q9⟩ : ∃ b, id 9 = b := ⟨_, rfl⟩
    obtain ⟨b_10, q10⟩ : ∃ b, id 10 = b := ⟨_, rfl⟩
    rw [show (List.range 15).map ((sig_f15 ns) done id) = [mapItem (intKey .u32) r_0 ([] : List (Int × Int)), noItem, own 3 1 (some ⟨z_2, 0, none⟩) ns.length ns.length (List.replicate ns.length (.int .i64 0)), noItem, own 3 1 (some ⟨z_4, 0, none⟩) ns.length ns.length (List.replicate ns.length (.int .i64 0)), noItem, own 3 1 (some ⟨z_6, 0, none⟩) ns.length ns.length (List.replicate ns.length (.int .i64 0)), blk b_7 (.cells #[.map (some r_0)] 123 (0, 0)), blk b_8 (.cells #[.slice (some ⟨z_2, 0, none⟩) ns.length ns.length] 124 (0, 0)), blk b_9 (.cells #[.slice (some ⟨z_4, 0, none⟩) ns.length ns.length] 124 (0, 0)), blk b_10 (.cells #[.slice (some ⟨z_6, 0, none⟩) ns.length ns.length] 124 (0, 0)), noItem, noItem, noItem, noItem] from by (simp only [List.range, List.range.loop, List.map, sig_f15, e0, e1, e2, e3, e4, e5, e6, e7, e8, e9, e10, e11, e12, e13, e14, cond_true, q0, q2, q4, q6, q7, q8, q9, q10]) <;> rfl]
    refine at_codeS [0, 2, 4, 6, 7, 8, 9, 10, 15, 16, 17] [(1, .pointer (some ⟨b1, 0, none⟩)), (2, .pointer (some ⟨b2, 0, none⟩)), (4, .pointer (some ⟨b_7, 0, none⟩)), (5, .pointer (some ⟨b_8, 0, none⟩)), (6, .pointer (some ⟨b_9, 0, none⟩)), (7, .pointer (some ⟨b_10, 0, none⟩))] [mapItem (intKey .u32) r_0 ([] : List (Int × Int)), own 3 1 (some ⟨z_2, 0, none⟩) ns.length ns.length (List.replicate ns.length (.int .i64 0)), own 3 1 (some ⟨z_4, 0, none⟩) ns.length ns.length (List.replicate ns.length (.int .i64 0)), own 3 1 (some ⟨z_6, 0, none⟩) ns.length ns.length (List.replicate ns.length (.int .i64 0)), blk b_7 (.cells #[.map (some r_0)] 123 (0, 0)), blk b_8 (.cells #[.slice (some ⟨z_2, 0, none⟩) ns.length ns.length] 124 (0, 0)), blk b_9 (.cells #[.slice (some ⟨z_4, 0, none⟩) ns.length ns.length] 124 (0, 0)), blk b_10 (.cells #[.slice (some ⟨z_6, 0, none⟩) ns.length ns.length] 124 (0, 0)), blk b2 (.cells #[.bool false] 4 (0, 0)), blk b1 (.cells #[.slice p ns.length cap, .int .u32 gen] 25 (0, 0)), base w (Low w)] (.cons (rfl) (.cons (rfl) (.cons ((by rw [← q7]; kernel_rfl)) (.cons ((by rw [← q8]; kernel_rfl)) (.cons ((by rw [← q9]; kernel_rfl)) (.cons ((by rw [← q10]; kernel_rfl)) (.nil _))))))) rfl (by decide) (fun _ _ h => h) ?_
    refine Ev.sq ?_
    refine Ev.sr 2 ?_
    refine Rg.p 62 (.load 25 (.tmp 1)) (v := .agg #[.slice p ns.length cap, .int .u32 gen]) (pv_load_blk_whole 9 rfl rfl (by kernel_rfl) (by kernel_rfl)) ?_
    refine Rg.cn (T := Nat) (some 63) 58 #[.tmp 62] #[25] (v := fun b9 => .func (.func 112) #[] #[.pointer (some ⟨b9, 0, none⟩)]) (L := fun b9 => [blk b9 (.cells #[.slice p ns.length cap, .int .u32 gen] 25 (0, 0))]) rfl (fun w hw => living_calls) ?_
    rintro b9 _
    dsimp only [putE, List.append, HAppend.hAppend, Append.append]
    refine Rg.nx (fun _ _ h => h) [63,7,6,5,4,2,1] rfl ?_
    refine Ev.bk 0 ?_
    refine Ev.addFact (show ∀ m, m < 0 → bad1 ns gen m = false from fun m hm => absurd hm (Nat.not_lt_zero _)) ?_
    refine ev_rangeFunc (T := Unit) (t := 63) (ps := #[64, 65]) (gf := 112) (caps := #[.pointer (some ⟨b9, 0, none⟩)]) (livRows ns al) (fun i_ u_ => [own 3 1 (some ⟨z_2, 0, none⟩) ns.length ns.length (iv (chkN ns i_).named), own 3 1 (some ⟨z_4, 0, none⟩) ns.length ns.length (iv (chkN ns i_).subs), own 3 1 (some ⟨z_6, 0, none⟩) ns.length ns.length (iv (chkN ns i_).home), mapItem (intKey .u32) r_0 (gensN ns i_ : List (Int × Int)), blk b_7 (.cells #[.map (some r_0)] 123 (0, 0)), blk b_8 (.cells #[.slice (some ⟨z_2, 0, none⟩) ns.length ns.length] 124 (0, 0)), blk b_9 (.cells #[.slice (some ⟨z_4, 0, none⟩) ns.length ns.length] 124 (0, 0)), blk b_10 (.cells #[.slice (some ⟨z_6, 0, none⟩) ns.length ns.length] 124 (0, 0)), blk b1 (.cells #[.slice p ns.length cap, .int .u32 gen] 25 (0, 0)), blk b2 (.cells #[.bool false] 4 (0, 0)), fact (∀ m, m < i_ → bad1 ns gen m = false)]) (fun i_ u_ => [blk b2 (.cells #[.bool false] 4 (0, 0)), fact (∃ m, m < (liv ns).length ∧ bad1 ns gen m = true)]) (.ret) () [blk b9 (.cells #[.slice p ns.length cap, .int .u32 gen] 25 (0, 0))] [base w (Low w)] (by kernel_rfl) rfl rfl (by kernel_rfl) (by kernel_rfl) (by intro x hx; simp only [livRows, List.mem_map] at hx; obtain ⟨i, _, rfl⟩ := hx; rfl) (fun w hw => (by have h := hw.pick [3, 4, 5, 2, 6, 7, 8, 9, 11, 10, 0, 1, 12] (by decide); rw [← iv_replicate] at h; exact h)) (living1_iter hT hlen) ?_ ?_ ?_
    ·
     intro F l Db0 i_ u_ fr hn
     have hn_ := hn
     rw [show (livRows ns al).length = (liv ns).length from livRows_length ns al] at hn_
     rw [show (livRows ns al).getD i_ [] = [.int .i64 ((lvi ns i_ : Nat) : Int), .agg ((lvn ns i_).cells (lc al (lvi ns i_)))] from (livRows_get (by rw [livRows_length] at hn; exact hn))]
     refine Ev.weak (E' := [(1, .pointer (some ⟨b1, 0, none⟩)), (2, .pointer (some ⟨b2, 0, none⟩)), (4, .pointer (some ⟨b_7, 0, none⟩)), (5, .pointer (some ⟨b_8, 0, none⟩)), (6, .pointer (some ⟨b_9, 0, none⟩)), (7, .pointer (some ⟨b_10, 0, none⟩)), (64, .int .i64 ((lvi ns i_ : Nat) : Int)), (65, .agg ((lvn ns i_).cells (lc al (lvi ns i_))))]) (S' := [own 3 1 (some ⟨z_2, 0, none⟩) ns.length ns.length (iv (chkN ns i_).named), own 3 1 (some ⟨z_4, 0, none⟩) ns.length ns.length (iv (chkN ns i_).subs), own 3 1 (some ⟨z_6, 0, none⟩) ns.length ns.length (iv (chkN ns i_).home), mapItem (intKey .u32) r_0 (gensN ns i_ : List (Int × Int)), blk b_7 (.cells #[.map (some r_0)] 123 (0, 0)), blk b_8 (.cells #[.slice (some ⟨z_2, 0, none⟩) ns.length ns.length] 124 (0, 0)), blk b_9 (.cells #[.slice (some ⟨z_4, 0, none⟩) ns.length ns.length] 124 (0, 0)), blk b_10 (.cells #[.slice (some ⟨z_6, 0, none⟩) ns.length ns.length] 124 (0, 0)), blk b1 (.cells #[.slice p ns.length cap, .int .u32 gen] 25 (0, 0)), blk b2 (.cells #[.bool false] 4 (0, 0)), fact (∀ m, m < i_ → bad1 ns gen m = false), blk l (.loop (F.rc .ready none)), blk Db0 (.deferred (some [])), fr, base w (Low w)]) [0, 1, 2, 3, 4, 5, 6, 7, 8, 9, 10, 11, 12, 13, 14] (.cons (rfl) (.cons (rfl) (.cons (rfl) (.cons (rfl) (.cons (rfl) (.cons (rfl) (.cons (rfl) (.cons (rfl) (.nil _))))))))) rfl (by decide) ?_
     refine Ev.factAt 10 rfl (fun hno => ?_)
     have hlt_ := liv_get hn_
     have hnd_ := hW.node (lvi ns i_)
     have hck_ := chkN_ok hW i_
     have hlv_ : lvi ns i_ < ns.length := hlt_.1
     have hcap_ := liv_short ns
     have hle_ : (lvn ns i_).list.length ≤ 16777216 := hnd_.list
     have hgr_ := gensN_range ns i_ (lvn ns i_).gen
     refine Ev.sr 1 ?_
     refine Rg.as 8 64 rfl ?_
     refine Rg.nx (fun _ _ h => h) [65,8,7,6,5,4,2,1] rfl ?_
     refine Ev.rg 2 ?_
     refine Rg.al 9 44 (.agg #[.int .u32 0, .int .u32 0, .int .u32 0, .int .u32 0, .int .u32 0, .int .i64 0, .int .u32 0, .int .u32 0, .int .u32 0, .int .u32 0, .int .u32 0, .int .u32 0, .slice none 0 0, .int .u8 0, .int .u8 0, .int .u8 0, .int .u8 0, .int .u8 0, .int .u8 0, .int .u8 0, .int .u8 0, .string ⟨#[]⟩, .slice none 0 0, .int .i64 0, .int .u64 0]) fun b10 => ?_
     refine Rg.st 44 9 (.tmp 65) 0 ((lvn ns i_).cells (lc al (lvi ns i_))) rfl rfl rfl ?_
     refine Rg.fin rfl ?_
     refine at_beginQ (E' := [(1, .pointer (some ⟨b1, 0, none⟩)), (2, .pointer (some ⟨b2, 0, none⟩)), (4, .pointer (some ⟨b_7, 0, none⟩)), (5, .pointer (some ⟨b_8, 0, none⟩)), (6, .pointer (some ⟨b_9, 0, none⟩)), (7, .pointer (some ⟨b_10, 0, none⟩)), (8, .int .i64 ((lvi ns i_ : Nat) : Int)), (9, .pointer (some ⟨b10, 0, none⟩))]) 12 [0, 1, 2, 3, 4, 5, 6, 7, 8, 9, 10, 11, 12, 13, 14, 15] rfl rfl (.cons (rfl) (.cons (rfl) (.cons (rfl) (.cons (rfl) (.cons (rfl) (.cons (rfl) (.cons (rfl) (.cons (rfl) (.nil _))))))))) (by decide) ?_
     intro Qr hQr
     refine Ev.bk 1 ?_
     refine Ev.sr 6 ?_
     refine Rg.ld 66 123 4 5 rfl rfl rfl ?_
     refine Rg.fa 67 44 9 1 1 rfl ?_
     refine Rg.ld 68 23 67 0 rfl rfl rfl ?_
     refine Rg.p 69 (.lookup 123 (.tmp 66) (.tmp 68) false) (v := .int .i64 ((look (gensN ns i_ : List (Int × Int)) ((lvn ns i_).gen)).getD 0)) (pv_lookup (kt := 23) (et := 3) (intKey .u32) 4 rfl rfl (by kernel_rfl) (by kernel_rfl) (by kernel_rfl) rfl) ?_
     refine Rg.p 70 (.binOp .add 3 (.tmp 69) (.const (.int .i64 1)) 3) (pv_addb rfl rfl (in_i64 (by omega) (by omega))) ?_
     refine rg_mapUpdate (t := 123) (x := .tmp 66) (y := .tmp 68) (z := .tmp 70) (kt := 23) (et := 3) (g := none) (intKey .u32) 4 (by kernel_rfl) (by kernel_rfl) rfl rfl rfl (by kernel_rfl) (by kernel_rfl) rfl ?_
     refine Rg.nx (fun _ _ h => h) [9,8,7,6,5,4,2,1] rfl ?_
     refine Ev.sq ?_
     refine Ev.sr 46 ?_
     refine Rg.fa 71 44 9 1 1 rfl ?_
     refine Rg.ld 72 23 71 0 rfl rfl rfl ?_
     refine Rg.fa 73 25 1 1 1 rfl ?_
     refine Rg.ld 74 23 73 9 rfl rfl rfl ?_
     refine Rg.p 75 (.binOp .geq 23 (.tmp 72) (.tmp 74) 23) (pv_geq rfl rfl) ?_
     refine Rg.mv 76 75 rfl ?_
     refine Rg.go 12 82 76 (decide (1 < ((look (upd (gensN ns i_) ((lvn ns i_).gen) (((look (gensN ns i_ : List (Int × Int)) ((lvn ns i_).gen)).getD 0) + 1) : List (Int × Int)) ((lvn ns i_).gen)).getD 0))) rfl (fun h74 => ?_) (fun h74 => ?_) ?_
     ·
      refine Rg.skips 11 (by kernel_rfl) ?_
      refine Rg.p 82 (.pick (.tmp 76) (.const (.bool true)) (.tmp 81)) (pv_pick_t rfl rfl) ?_
      exact Rg.em 76 h74 (ot_t h74) rfl rfl
     ·
      have h75 := of_decide_eq_false h74
      refine Rg.pg 5 false 77 (.load 123 (.tmp 4)) (v := .map (some r_0)) (pv_load_blk 5 rfl rfl (by kernel_rfl) rfl) ?_
      refine Rg.pg 5 false 78 (.fieldAddr 44 (.tmp 9) 1) (pv_fieldAddr rfl (n := 1) (by kernel_rfl)) ?_
      refine Rg.pg 5 false 79 (.load 23 (.tmp 78)) (v := .int .u32 ((lvn ns i_).gen)) (pv_load_blk 0 rfl rfl (by kernel_rfl) rfl) ?_
      refine Rg.pg 5 false 80 (.lookup 123 (.tmp 77) (.tmp 79) false) (v := .int .i64 ((look (upd (gensN ns i_) ((lvn ns i_).gen) (((look (gensN ns i_ : List (Int × Int)) ((lvn ns i_).gen)).getD 0) + 1) : List (Int × Int)) ((lvn ns i_).gen)).getD 0)) (pv_lookup (kt := 23) (et := 3) (intKey .u32) 4 rfl rfl (by kernel_rfl) (by kernel_rfl) (by kernel_rfl) rfl) ?_
      refine Rg.pg 5 false 81 (.binOp .gtr 3 (.tmp 80) (.const (.int .i64 1)) 3) (pv_gtr rfl rfl) ?_
      refine Rg.p 82 (.pick (.tmp 76) (.const (.bool true)) (.tmp 81)) (pv_pick_f rfl rfl) ?_
      exact Rg.em 76 h74 (ot_f h74) rfl rfl
     refine Rg.mv 83 82 rfl ?_
     refine Rg.go 17 87 83 (decide (4095 < ((lvn ns i_).mode))) rfl (fun h76 => ?_) (fun h76 => ?_) ?_
     ·
      refine Rg.skips 16 (by kernel_rfl) ?_
      refine Rg.p 87 (.pick (.tmp 83) (.const (.bool true)) (.tmp 86)) (pv_pick_t rfl rfl) ?_
      exact Rg.em 83 h76 (ot_t h76) rfl rfl
     ·
      have ⟨h77, h78⟩ := or_f h76
      have h79 := of_decide_eq_false h77
      have h80 := of_decide_eq_false h78
      refine Rg.pg 12 false 84 (.fieldAddr 44 (.tmp 9) 2) (pv_fieldAddr rfl (n := 2) (by kernel_rfl)) ?_
      refine Rg.pg 12 false 85 (.load 23 (.tmp 84)) (v := .int .u32 ((lvn ns i_).mode)) (pv_load_blk 0 rfl rfl (by kernel_rfl) rfl) ?_
      refine Rg.pg 12 false 86 (.binOp .gtr 23 (.tmp 85) (.const (.int .u32 4095)) 23) (pv_gtr rfl rfl) ?_
      refine Rg.p 87 (.pick (.tmp 83) (.const (.bool true)) (.tmp 86)) (pv_pick_f rfl rfl) ?_
      exact Rg.em 83 h76 (ot_f h76) rfl rfl
     refine Rg.mv 88 87 rfl ?_
     refine Rg.go 23 93 88 (!(decide ((lvn ns i_).rn < 1000000000))) rfl (fun h81 => ?_) (fun h81 => ?_) ?_
     ·
      refine Rg.skips 22 (by kernel_rfl) ?_
      refine Rg.p 93 (.pick (.tmp 88) (.const (.bool true)) (.tmp 92)) (pv_pick_t rfl rfl) ?_
      exact Rg.em 88 h81 (ot_t h81) rfl rfl
     ·
      have ⟨h82, h83⟩ := or_f h81
      have ⟨h84, h85⟩ := or_f h82
      have h86 := of_decide_eq_false h84
      have h87 := of_decide_eq_false h85
      have h88 := of_decide_eq_false h83
      refine Rg.pg 17 false 89 (.fieldAddr 44 (.tmp 9) 6) (pv_fieldAddr rfl (n := 6) (by kernel_rfl)) ?_
      refine Rg.pg 17 false 90 (.load 36 (.tmp 89)) (v := .agg #[.int .u32 ((lvn ns i_).rs), .int .u32 ((lvn ns i_).rn)]) (pv_load_blk_agg 0 rfl rfl (vs := #[.int .u32 ((lvn ns i_).rs), .int .u32 ((lvn ns i_).rn)]) (by kernel_rfl) (by kernel_rfl) (agg_rfl (by kernel_rfl))) ?_
      refine rg_call (d := some 91) (f := 59) (xs := #[.tmp 90]) (ts := #[36]) (g := some (17, false)) (v := .bool (decide ((lvn ns i_).rn < 1000000000))) (by kernel_rfl) (by kernel_rfl) (by kernel_rfl) rfl (fun w hw => timesCheck_calls) ?_
      refine Rg.pg 17 false 92 (.unOp .not 4 (.tmp 91)) (pv_not (b := decide ((lvn ns i_).rn < 1000000000)) rfl) ?_
      refine Rg.p 93 (.pick (.tmp 88) (.const (.bool true)) (.tmp 92)) (pv_pick_f rfl rfl) ?_
      exact Rg.em 88 h81 (ot_f h81) rfl rfl
     refine Rg.mv 94 93 rfl ?_
     refine Rg.go 29 99 94 (!(decide ((lvn ns i_).wn < 1000000000))) rfl (fun h89 => ?_) (fun h89 => ?_) ?_
     ·
      refine Rg.skips 28 (by kernel_rfl) ?_
      refine Rg.p 99 (.pick (.tmp 94) (.const (.bool true)) (.tmp 98)) (pv_pick_t rfl rfl) ?_
      exact Rg.em 94 h89 (ot_t h89) rfl rfl
     ·
      have ⟨h90, h91⟩ := or_f h89
      have ⟨h92, h93⟩ := or_f h90
      have ⟨h94, h95⟩ := or_f h92
      have h96 := of_decide_eq_false h94
      have h97 := of_decide_eq_false h95
      have h98 := of_decide_eq_false h93
      have h99 := of_decide_eq_true (not_f h91)
      refine Rg.pg 23 false 95 (.fieldAddr 44 (.tmp 9) 7) (pv_fieldAddr rfl (n := 8) (by kernel_rfl)) ?_
      refine Rg.pg 23 false 96 (.load 36 (.tmp 95)) (v := .agg #[.int .u32 ((lvn ns i_).ws), .int .u32 ((lvn ns i_).wn)]) (pv_load_blk_agg 0 rfl rfl (vs := #[.int .u32 ((lvn ns i_).ws), .int .u32 ((lvn ns i_).wn)]) (by kernel_rfl) (by kernel_rfl) (agg_rfl (by kernel_rfl))) ?_
      refine rg_call (d := some 97) (f := 59) (xs := #[.tmp 96]) (ts := #[36]) (g := some (23, false)) (v := .bool (decide ((lvn ns i_).wn < 1000000000))) (by kernel_rfl) (by kernel_rfl) (by kernel_rfl) rfl (fun w hw => timesCheck_calls) ?_
      refine Rg.pg 23 false 98 (.unOp .not 4 (.tmp 97)) (pv_not (b := decide ((lvn ns i_).wn < 1000000000)) rfl) ?_
      refine Rg.p 99 (.pick (.tmp 94) (.const (.bool true)) (.tmp 98)) (pv_pick_f rfl rfl) ?_
      exact Rg.em 94 h89 (ot_f h89) rfl rfl
     refine Rg.mv 100 99 rfl ?_
     refine Rg.go 35 105 100 (!(decide ((lvn ns i_).tn < 1000000000))) rfl (fun h100 => ?_) (fun h100 => ?_) ?_
     ·
      refine Rg.skips 34 (by kernel_rfl) ?_
      refine Rg.p 105 (.pick (.tmp 100) (.const (.bool true)) (.tmp 104)) (pv_pick_t rfl rfl) ?_
      exact Rg.em 100 h100 (ot_t h100) rfl rfl
     ·
      have ⟨h101, h102⟩ := or_f h100
      have ⟨h103, h104⟩ := or_f h101
      have ⟨h105, h106⟩ := or_f h103
      have ⟨h107, h108⟩ := or_f h105
      have h109 := of_decide_eq_false h107
      have h110 := of_decide_eq_false h108
      have h111 := of_decide_eq_false h106
      have h112 := of_decide_eq_true (not_f h104)
      have h113 := of_decide_eq_true (not_f h102)
      refine Rg.pg 29 false 101 (.fieldAddr 44 (.tmp 9) 8) (pv_fieldAddr rfl (n := 10) (by kernel_rfl)) ?_
      refine Rg.pg 29 false 102 (.load 36 (.tmp 101)) (v := .agg #[.int .u32 ((lvn ns i_).ts), .int .u32 ((lvn ns i_).tn)]) (pv_load_blk_agg 0 rfl rfl (vs := #[.int .u32 ((lvn ns i_).ts), .int .u32 ((lvn ns i_).tn)]) (by kernel_rfl) (by kernel_rfl) (agg_rfl (by kernel_rfl))) ?_
      refine rg_call (d := some 103) (f := 59) (xs := #[.tmp 102]) (ts := #[36]) (g := some (29, false)) (v := .bool (decide ((lvn ns i_).tn < 1000000000))) (by kernel_rfl) (by kernel_rfl) (by kernel_rfl) rfl (fun w hw => timesCheck_calls) ?_
      refine Rg.pg 29 false 104 (.unOp .not 4 (.tmp 103)) (pv_not (b := decide ((lvn ns i_).tn < 1000000000)) rfl) ?_
      refine Rg.p 105 (.pick (.tmp 100) (.const (.bool true)) (.tmp 104)) (pv_pick_f rfl rfl) ?_
      exact Rg.em 100 h100 (ot_f h100) rfl rfl
     refine Rg.mv 106 105 rfl ?_
     refine Rg.go 46 116 106 ((decide (((lvn ns i_).kind) = 2)) && (!(entriesS ns (lvn ns i_)))) rfl (fun h114 => ?_) (fun h114 => ?_) ?_
     ·
      refine Rg.skips 45 (by kernel_rfl) ?_
      refine Rg.p 116 (.pick (.tmp 106) (.const (.bool true)) (.tmp 115)) (pv_pick_t rfl rfl) ?_
      exact Rg.em 106 h114 (ot_t h114) rfl rfl
     ·
      have ⟨h115, h116⟩ := or_f h114
      have ⟨h117, h118⟩ := or_f h115
      have ⟨h119, h120⟩ := or_f h117
      have ⟨h121, h122⟩ := or_f h119
      have ⟨h123, h124⟩ := or_f h121
      have h125 := of_decide_eq_false h123
      have h126 := of_decide_eq_false h124
      have h127 := of_decide_eq_false h122
      have h128 := of_decide_eq_true (not_f h120)
      have h129 := of_decide_eq_true (not_f h118)
      have h130 := of_decide_eq_true (not_f h116)
      refine Rg.pg 35 false 107 (.fieldAddr 44 (.tmp 9) 0) (pv_fieldAddr rfl (n := 0) (by kernel_rfl)) ?_
      refine Rg.pg 35 false 108 (.load 33 (.tmp 107)) (v := .int .u32 ((lvn ns i_).kind)) (pv_load_blk 0 rfl rfl (by kernel_rfl) rfl) ?_
      refine Rg.pg 35 false 109 (.binOp .eql 33 (.tmp 108) (.const (.int .u32 2)) 33) (pv_eql rfl rfl) ?_
      refine Rg.pg 35 false 110 (.move (.tmp 109)) (pv_move rfl) ?_
      refine Rg.ga 45 115 110 (!(entriesS ns (lvn ns i_))) rfl (fun h131 => ?_) (fun h131 => ?_) ?_
      ·
       have h132 := of_decide_eq_true h131
       refine Rg.pg 39 true 111 (.load 25 (.tmp 1)) (v := .agg #[.slice p ns.length cap, .int .u32 gen]) (pv_load_blk_whole 9 rfl rfl (by kernel_rfl) (by kernel_rfl)) ?_
       refine Rg.pg 39 true 112 (.load 44 (.tmp 9)) (v := .agg ((lvn ns i_).cells (lc al (lvi ns i_)))) (pv_load_blk_whole 0 rfl rfl (by kernel_rfl) (by kernel_rfl)) ?_
       refine rg_call (d := some 113) (f := 60) (xs := #[.tmp 111, .tmp 112]) (ts := #[25, 44]) (g := some (39, true)) (v := .bool (entriesS ns (lvn ns i_))) (by kernel_rfl) (by kernel_rfl) (by kernel_rfl) rfl (fun w hw => entries_calls ((hT).keep (hw.at_ 15 rfl) (fun k hk => hw.lt 15 rfl hk)) hW (((show NodeAt (Low _) _ (lvn ns i_) (lc al (lvi ns i_)) from hT.node (lvi ns i_) (liv_get hn_).1)).keep (hw.at_ 15 rfl) (fun k hk => hw.lt 15 rfl hk)) ((hW.node _))) ?_
       refine Rg.pg 39 true 114 (.unOp .not 4 (.tmp 113)) (pv_not (b := entriesS ns (lvn ns i_)) rfl) ?_
       refine Rg.pg 35 false 115 (.pick (.tmp 110) (.tmp 114) (.const (.bool false))) (pv_pick_t rfl rfl) ?_
       exact Rg.em 110 h131 (at_t h131) rfl rfl
      ·
       refine Rg.skips 44 (by kernel_rfl) ?_
       refine Rg.pg 35 false 115 (.pick (.tmp 110) (.tmp 114) (.const (.bool false))) (pv_pick_f rfl rfl) ?_
       exact Rg.em 110 h131 (at_f h131) rfl rfl
      refine Rg.p 116 (.pick (.tmp 106) (.const (.bool true)) (.tmp 115)) (pv_pick_f rfl rfl) ?_
      exact Rg.em 106 h114 (ot_f h114) rfl rfl
     refine Rg.nx (fun _ _ h => h) [116,9,8,7,6,5,2,1] rfl ?_
     refine Ev.cd 116 rfl (fun h133 => ?_) (fun h133 => ?_)
     ·
      refine Ev.sr 1 ?_
      refine Rg.st 4 2 (.const (.bool false)) 10 #[.bool false] rfl rfl rfl ?_
      refine Rg.nx (fun _ _ h => h) [9,8,7,6,5,2,1] rfl ?_
      refine Ev.rt ?_
      refine At.via (Q := Qr) hQr ?_
      refine at_roundRet () 12 rfl (fun w hw => (hw.addFact (show ∃ m, m < (liv ns).length ∧ bad1 ns gen m = true from ⟨i_, hn_, h133⟩)).pick [11, 0, 13, 14, 15, 16] (by decide))
     ·
      have ⟨h134, h135⟩ := or_f h133
      have ⟨h136, h137⟩ := or_f h134
      have ⟨h138, h139⟩ := or_f h136
      have ⟨h140, h141⟩ := or_f h138
      have ⟨h142, h143⟩ := or_f h140
      have ⟨h144, h145⟩ := or_f h142
      have h146 := of_decide_eq_false h144
      have h147 := of_decide_eq_false h145
      have h148 := of_decide_eq_false h143
      have h149 := of_decide_eq_true (not_f h141)
      have h150 := of_decide_eq_true (not_f h139)
      have h151 := of_decide_eq_true (not_f h137)
      have hgood_ : bad1 ns gen i_ = false := h133
      refine Ev.sk ?_
      refine At.nx (fun _ _ h => h) [9,8,7,6,5,2,1] rfl ?_
      refine Ev.sr 4 ?_
      refine Rg.fa 117 44 9 12 22 rfl ?_
      refine Rg.ld 118 42 117 0 rfl rfl rfl ?_
      refine Rg.p 119 (.call { callee := .builtin .len, args := #[.tmp 118], argTypes := #[42] }) (pv_len_slice rfl (by kernel_rfl)) ?_
      refine Rg.mc 120 (.int .i64 0) ?_
      refine Rg.nx (fun _ _ h => h) [120,119,118,8,7,6,5,2,1] rfl ?_
      refine Ev.bk 2 ?_
      refine ev_loop (T := Nat) (fun k => [(1, .pointer (some ⟨b1, 0, none⟩)), (2, .pointer (some ⟨b2, 0, none⟩)), (5, .pointer (some ⟨b_8, 0, none⟩)), (6, .pointer (some ⟨b_9, 0, none⟩)), (7, .pointer (some ⟨b_10, 0, none⟩)), (8, .int .i64 ((lvi ns i_ : Nat) : Int)), (118, .slice ((lc al (lvi ns i_)).lA) ((lvn ns i_).list.length) ((lc al (lvi ns i_)).lCap)), (119, .int .i64 ((lvn ns i_).list.length : Int)), (120, .int .i64 (k : Int))]) (fun k => [own 3 1 (some ⟨z_2, 0, none⟩) ns.length ns.length (iv (entN ns (lvi ns i_) (lvn ns i_).list (chkN ns i_) k).named), own 3 1 (some ⟨z_4, 0, none⟩) ns.length ns.length (iv (entN ns (lvi ns i_) (lvn ns i_).list (chkN ns i_) k).subs), own 3 1 (some ⟨z_6, 0, none⟩) ns.length ns.length (iv (entN ns (lvi ns i_) (lvn ns i_).list (chkN ns i_) k).home), mapItem (intKey .u32) r_0 (gensN ns (i_ + 1) : List (Int × Int)), blk b_7 (.cells #[.map (some r_0)] 123 (0, 0)), blk b_8 (.cells #[.slice (some ⟨z_2, 0, none⟩) ns.length ns.length] 124 (0, 0)), blk b_9 (.cells #[.slice (some ⟨z_4, 0, none⟩) ns.length ns.length] 124 (0, 0)), blk b_10 (.cells #[.slice (some ⟨z_6, 0, none⟩) ns.length ns.length] 124 (0, 0)), blk b1 (.cells #[.slice p ns.length cap, .int .u32 gen] 25 (0, 0)), blk b2 (.cells #[.bool false] 4 (0, 0)), blk l (.loop (F.rc .busy none)), blk Db0 (.deferred (some [])), fr, base w (Low w)]) (fun k => k ≤ (lvn ns i_).list.length) (fun k => (lvn ns i_).list.length - k) 0 [1, 2, 3, 4, 5, 6, 7, 8, 9, 10, 12, 13, 14, 15] (by kernel_rfl) (by omega) (.cons (rfl) (.cons (rfl) (.cons (rfl) (.cons (rfl) (.cons (rfl) (.cons (rfl) (.cons (rfl) (.cons (rfl) (.cons (rfl) (.nil _)))))))))) rfl (by decide) ?_
      rintro k (hk : k ≤ (lvn ns i_).list.length)
      show Ev _ _ [(1, .pointer (some ⟨b1, 0, none⟩)), (2, .pointer (some ⟨b2, 0, none⟩)), (5, .pointer (some ⟨b_8, 0, none⟩)), (6, .pointer (some ⟨b_9, 0, none⟩)), (7, .pointer (some ⟨b_10, 0, none⟩)), (8, .int .i64 ((lvi ns i_ : Nat) : Int)), (118, .slice ((lc al (lvi ns i_)).lA) ((lvn ns i_).list.length) ((lc al (lvi ns i_)).lCap)), (119, .int .i64 ((lvn ns i_).list.length : Int)), (120, .int .i64 (k : Int))] [own 3 1 (some ⟨z_2, 0, none⟩) ns.length ns.length (iv (entN ns (lvi ns i_) (lvn ns i_).list (chkN ns i_) k).named), own 3 1 (some ⟨z_4, 0, none⟩) ns.length ns.length (iv (entN ns (lvi ns i_) (lvn ns i_).list (chkN ns i_) k).subs), own 3 1 (some ⟨z_6, 0, none⟩) ns.length ns.length (iv (entN ns (lvi ns i_) (lvn ns i_).list (chkN ns i_) k).home), mapItem (intKey .u32) r_0 (gensN ns (i_ + 1) : List (Int × Int)), blk b_7 (.cells #[.map (some r_0)] 123 (0, 0)), blk b_8 (.cells #[.slice (some ⟨z_2, 0, none⟩) ns.length ns.length] 124 (0, 0)), blk b_9 (.cells #[.slice (some ⟨z_4, 0, none⟩) ns.length ns.length] 124 (0, 0)), blk b_10 (.cells #[.slice (some ⟨z_6, 0, none⟩) ns.length ns.length] 124 (0, 0)), blk b1 (.cells #[.slice p ns.length cap, .int .u32 gen] 25 (0, 0)), blk b2 (.cells #[.bool false] 4 (0, 0)), blk l (.loop (F.rc .busy none)), blk Db0 (.deferred (some [])), fr, base w (Low w)] _
      have hok_ := entN_ok (ns := ns) (i := lvi ns i_) (es := (lvn ns i_).list) hck_ k
      refine Ev.sr 1 ?_
      refine Rg.p 121 (.binOp .lss 3 (.tmp 120) (.tmp 119) 3) (pv_lss rfl rfl) ?_
      refine Rg.nx (fun _ _ h => h) [121,120,119,118,8,7,6,5,2,1] rfl ?_
      refine Ev.sq ?_
      refine Ev.cd 121 rfl (fun h152 => ?_) (fun h152 => ?_)
      ·
       have h153 := of_decide_eq_true h152
       have hth_ := thereS_t (ent_there hbad_ hn_ hgood_ (show k < (lvn ns i_).list.length by omega))
       have ht1_ := hth_.1
       have ht2_ := hth_.2.1
       have hn0_ := hok_.n0 (en (lvn ns i_).list k).node.toNat
       have hn1_ := hok_.n1 (en (lvn ns i_).list k).node.toNat
       have hs0_ := hok_.s0 (lvi ns i_)
       have hs1_ := hok_.s1 (lvi ns i_)
       refine Ev.sk ?_
       refine At.nx (fun _ _ h => h) [121,120,119,118,8,7,6,5,2,1] rfl ?_
       refine Ev.sq ?_
       refine Ev.bk 3 ?_
       refine Ev.sr 4 ?_
       have ⟨q11, o12, hp13⟩ := ((show NodeAt (Low _) _ (lvn ns i_) (lc al (lvi ns i_)) from hT.node (lvi ns i_) (liv_get hn_).1)).list.adr (by omega)
       refine Rg.p 122 (.indexAddr 42 (.tmp 118) (.tmp 120)) (v := .pointer (some ⟨q11, o12 + ((k : Int)).toNat * 3, none⟩)) (pv_indexAddr' rfl hp13 rfl (e := 50) (sz := 3) (by kernel_rfl) (by omega) (by omega)) ?_
       refine Rg.p 123 (.load 50 (.tmp 122)) (v := .agg #[.string ((en ((lvn ns i_).list) k).name), .int .i64 ((en ((lvn ns i_).list) k).node), .int .u64 ((en ((lvn ns i_).list) k).cookie)]) (pv_load_entry (i := ((k : Int)).toNat) (es := (lvn ns i_).list) rfl hp13 (by omega) (by kernel_rfl) (by kernel_rfl) (fun w hw => ((((show NodeAt (Low _) _ (lvn ns i_) (lc al (lvi ns i_)) from hT.node (lvi ns i_) (liv_get hn_).1)).list).keep (hw.at_ 13 rfl) (fun k hk => hw.lt 13 rfl hk)))) ?_
       refine Rg.al 11 50 (.agg #[.string ⟨#[]⟩, .int .i64 0, .int .u64 0]) fun b14 => ?_
       refine Rg.st 50 11 (.tmp 123) 0 #[.string ((en ((lvn ns i_).list) k).name), .int .i64 ((en ((lvn ns i_).list) k).node), .int .u64 ((en ((lvn ns i_).list) k).cookie)] rfl rfl rfl ?_
       refine Rg.nx (fun _ _ h => h) [123,122,121,120,119,118,11,8,7,6,5,2,1] rfl ?_
       refine Ev.sr 8 ?_
       refine Rg.ld 124 124 5 6 rfl rfl rfl ?_
       refine Rg.fa 125 50 11 1 1 rfl ?_
       refine Rg.ld 126 3 125 0 rfl rfl rfl ?_
       refine Rg.p 127 (.indexAddr 124 (.tmp 124) (.tmp 126)) (v := .pointer (some ⟨z_2, 0 + ((en ((lvn ns i_).list) k).node).toNat * 1, none⟩)) (pv_indexAddr rfl rfl (e := 3) (sz := 1) (by kernel_rfl) (by omega) (by omega)) ?_
       refine Rg.p 128 (.load 3 (.tmp 127)) (v := .int .i64 (((entN ns (lvi ns i_) (lvn ns i_).list (chkN ns i_) k).named).getD (((en ((lvn ns i_).list) k).node).toNat) 0)) (pv_load_own 1 rfl rfl (by kernel_rfl) (iv_get (i := ((en ((lvn ns i_).list) k).node).toNat) (by rw [hok_.named]; omega))) ?_
       refine Rg.p 129 (.binOp .add 3 (.tmp 128) (.const (.int .i64 1)) 3) (pv_addb rfl rfl (in_i64 (by omega) (by omega))) ?_
       refine Rg.p 130 (.indexAddr 124 (.tmp 124) (.tmp 126)) (v := .pointer (some ⟨z_2, 0 + ((en ((lvn ns i_).list) k).node).toNat * 1, none⟩)) (pv_indexAddr rfl rfl (e := 3) (sz := 1) (by kernel_rfl) (by omega) (by omega)) ?_
       refine rg_store_own (t := 3) (x := .tmp 130) (y := .tmp 129) (g := none) 1 (by kernel_rfl) (by kernel_rfl) rfl rfl rfl (by kernel_rfl) rfl rfl (by rw [iv_length]; exact iv_lt (by rw [hok_.named]; omega)) ?_
       rw [show (iv ((entN ns (lvi ns i_) (lvn ns i_).list (chkN ns i_) k).named)).set (0 + ((en ((lvn ns i_).list) k).node).toNat * 1) (.int .i64 ((((entN ns (lvi ns i_) (lvn ns i_).list (chkN ns i_) k).named).getD (((en ((lvn ns i_).list) k).node).toNat) 0) + 1)) = iv (((entN ns (lvi ns i_) (lvn ns i_).list (chkN ns i_) k).named).set (((en ((lvn ns i_).list) k).node).toNat) ((((entN ns (lvi ns i_) (lvn ns i_).list (chkN ns i_) k).named).getD (((en ((lvn ns i_).list) k).node).toNat) 0) + 1)) from iv_set (i := ((en ((lvn ns i_).list) k).node).toNat) _]
       refine Rg.nx (fun _ _ h => h) [130,129,128,127,126,125,124,123,122,121,120,119,118,11,8,7,6,5,2,1] rfl ?_
       refine Ev.sr 6 ?_
       refine Rg.ld 131 124 7 8 rfl rfl rfl ?_
       refine Rg.fa 132 50 11 1 1 rfl ?_
       refine Rg.ld 133 3 132 0 rfl rfl rfl ?_
       refine Rg.mv 134 8 rfl ?_
       refine Rg.p 135 (.indexAddr 124 (.tmp 131) (.tmp 133)) (v := .pointer (some ⟨z_6, 0 + ((en ((lvn ns i_).list) k).node).toNat * 1, none⟩)) (pv_indexAddr rfl rfl (e := 3) (sz := 1) (by kernel_rfl) (by omega) (by omega)) ?_
       refine rg_store_own (t := 3) (x := .tmp 135) (y := .tmp 134) (g := none) 3 (by kernel_rfl) (by kernel_rfl) rfl rfl rfl (by kernel_rfl) rfl rfl (by rw [iv_length]; exact iv_lt (by rw [hok_.home]; omega)) ?_
       rw [show (iv ((entN ns (lvi ns i_) (lvn ns i_).list (chkN ns i_) k).home)).set (0 + ((en ((lvn ns i_).list) k).node).toNat * 1) (.int .i64 ((lvi ns i_ : Nat) : Int)) = iv (((entN ns (lvi ns i_) (lvn ns i_).list (chkN ns i_) k).home).set (((en ((lvn ns i_).list) k).node).toNat) ((lvi ns i_ : Nat) : Int)) from iv_set (i := ((en ((lvn ns i_).list) k).node).toNat) _]
       refine Rg.nx (fun _ _ h => h) [135,134,133,132,131,130,129,128,127,126,125,124,123,122,121,120,119,118,11,8,7,6,5,2,1] rfl ?_
       refine Ev.sr 4 ?_
       refine Rg.p 136 (.load 25 (.tmp 1)) (v := .agg #[.slice p ns.length cap, .int .u32 gen]) (pv_load_blk_whole 9 rfl rfl (by kernel_rfl) (by kernel_rfl)) ?_
       refine Rg.fa 137 50 11 1 1 rfl ?_
       refine Rg.ld 138 3 137 0 rfl rfl rfl ?_
       refine Rg.cl (some 139) 53 #[.tmp 136, .tmp 138, .const (.int .u32 2)] #[25, 3, 33] (v := .bool (isS ns ((en ((lvn ns i_).list) k).node) 2)) rfl (fun w hw => is_calls ((hT).keep (hw.at_ 14 rfl) (fun k hk => hw.lt 14 rfl hk))) ?_
       refine Rg.nx (fun _ _ h => h) [139,138,137,136,135,134,133,132,131,130,129,128,127,126,125,124,123,122,121,120,119,118,11,8,7,6,5,2,1] rfl ?_
       refine Ev.cd 139 rfl (fun h154 => ?_) (fun h154 => ?_)
       ·
        have ⟨h155, h156, h157, h158⟩ := isS_t h154
        refine Ev.rg 7 ?_
        refine Rg.ld 140 124 6 7 rfl rfl rfl ?_
        refine Rg.mv 141 8 rfl ?_
        refine Rg.p 142 (.indexAddr 124 (.tmp 140) (.tmp 141)) (v := .pointer (some ⟨z_4, 0 + (((lvi ns i_ : Nat) : Int)).toNat * 1, none⟩)) (pv_indexAddr rfl rfl (e := 3) (sz := 1) (by kernel_rfl) (by omega) (by omega)) ?_
        refine Rg.p 143 (.load 3 (.tmp 142)) (v := .int .i64 (((entN ns (lvi ns i_) (lvn ns i_).list (chkN ns i_) k).subs).getD (lvi ns i_) 0)) (pv_load_own 2 rfl rfl (by kernel_rfl) (iv_get (i := (lvi ns i_)) (by rw [hok_.subs]; omega))) ?_
        refine Rg.p 144 (.binOp .add 3 (.tmp 143) (.const (.int .i64 1)) 3) (pv_addb rfl rfl (in_i64 (by omega) (by omega))) ?_
        refine Rg.p 145 (.indexAddr 124 (.tmp 140) (.tmp 141)) (v := .pointer (some ⟨z_4, 0 + (((lvi ns i_ : Nat) : Int)).toNat * 1, none⟩)) (pv_indexAddr rfl rfl (e := 3) (sz := 1) (by kernel_rfl) (by omega) (by omega)) ?_
        refine rg_store_own (t := 3) (x := .tmp 145) (y := .tmp 144) (g := none) 2 (by kernel_rfl) (by kernel_rfl) rfl rfl rfl (by kernel_rfl) rfl rfl (by rw [iv_length]; exact iv_lt (by rw [hok_.subs]; omega)) ?_
        rw [show (iv ((entN ns (lvi ns i_) (lvn ns i_).list (chkN ns i_) k).subs)).set (0 + (((lvi ns i_ : Nat) : Int)).toNat * 1) (.int .i64 ((((entN ns (lvi ns i_) (lvn ns i_).list (chkN ns i_) k).subs).getD (lvi ns i_) 0) + 1)) = iv (((entN ns (lvi ns i_) (lvn ns i_).list (chkN ns i_) k).subs).set (lvi ns i_) ((((entN ns (lvi ns i_) (lvn ns i_).list (chkN ns i_) k).subs).getD (lvi ns i_) 0) + 1)) from iv_set (i := (lvi ns i_)) _]
        refine Rg.nx (fun _ _ h => h) [145,144,143,142,141,140,139,138,137,136,135,134,133,132,131,130,129,128,127,126,125,124,123,122,121,120,119,118,11,8,7,6,5,2,1] rfl ?_
        refine Ev.rg 2 ?_
        refine Rg.p 146 (.binOp .add 3 (.tmp 120) (.const (.int .i64 1)) 3) (pv_addb rfl rfl (in_i64 (by omega) (by omega))) ?_
        refine Rg.mv 120 146 rfl ?_
        refine Rg.fin rfl ?_
        refine At.round (fun _ _ h => h) (k + 1) [1, 2, 3, 4, 5, 6, 7, 8, 9, 10, 11, 12, 13, 14] (by omega) (by show (lvn ns i_).list.length - (k + 1) < (lvn ns i_).list.length - k; omega) (.cons (rfl) (.cons (rfl) (.cons (rfl) (.cons (rfl) (.cons (rfl) (.cons (rfl) (.cons (rfl) (.cons (rfl) (.cons (rfl) (.nil _)))))))))) (by show _ = [own 3 1 (some ⟨z_2, 0, none⟩) ns.length ns.length (iv (entN ns (lvi ns i_) (lvn ns i_).list (chkN ns i_) (k + 1)).named), own 3 1 (some ⟨z_4, 0, none⟩) ns.length ns.length (iv (entN ns (lvi ns i_) (lvn ns i_).list (chkN ns i_) (k + 1)).subs), own 3 1 (some ⟨z_6, 0, none⟩) ns.length ns.length (iv (entN ns (lvi ns i_) (lvn ns i_).list (chkN ns i_) (k + 1)).home), mapItem (intKey .u32) r_0 (gensN ns (i_ + 1) : List (Int × Int)), blk b_7 (.cells #[.map (some r_0)] 123 (0, 0)), blk b_8 (.cells #[.slice (some ⟨z_2, 0, none⟩) ns.length ns.length] 124 (0, 0)), blk b_9 (.cells #[.slice (some ⟨z_4, 0, none⟩) ns.length ns.length] 124 (0, 0)), blk b_10 (.cells #[.slice (some ⟨z_6, 0, none⟩) ns.length ns.length] 124 (0, 0)), blk b1 (.cells #[.slice p ns.length cap, .int .u32 gen] 25 (0, 0)), blk b2 (.cells #[.bool false] 4 (0, 0)), blk l (.loop (F.rc .busy none)), blk Db0 (.deferred (some [])), fr, base w (Low w)]; rw [entN_subs_t h154]; rfl) (by decide)
       ·
        refine Ev.sk ?_
        refine At.nx (fun _ _ h => h) [139,138,137,136,135,134,133,132,131,130,129,128,127,126,125,124,123,122,121,120,119,118,11,8,7,6,5,2,1] rfl ?_
        refine Ev.rg 2 ?_
        refine Rg.p 146 (.binOp .add 3 (.tmp 120) (.const (.int .i64 1)) 3) (pv_addb rfl rfl (in_i64 (by omega) (by omega))) ?_
        refine Rg.mv 120 146 rfl ?_
        refine Rg.fin rfl ?_
        refine At.round (fun _ _ h => h) (k + 1) [1, 2, 3, 4, 5, 6, 7, 8, 9, 10, 11, 12, 13, 14] (by omega) (by show (lvn ns i_).list.length - (k + 1) < (lvn ns i_).list.length - k; omega) (.cons (rfl) (.cons (rfl) (.cons (rfl) (.cons (rfl) (.cons (rfl) (.cons (rfl) (.cons (rfl) (.cons (rfl) (.cons (rfl) (.nil _)))))))))) (by show _ = [own 3 1 (some ⟨z_2, 0, none⟩) ns.length ns.length (iv (entN ns (lvi ns i_) (lvn ns i_).list (chkN ns i_) (k + 1)).named), own 3 1 (some ⟨z_4, 0, none⟩) ns.length ns.length (iv (entN ns (lvi ns i_) (lvn ns i_).list (chkN ns i_) (k + 1)).subs), own 3 1 (some ⟨z_6, 0, none⟩) ns.length ns.length (iv (entN ns (lvi ns i_) (lvn ns i_).list (chkN ns i_) (k + 1)).home), mapItem (intKey .u32) r_0 (gensN ns (i_ + 1) : List (Int × Int)), blk b_7 (.cells #[.map (some r_0)] 123 (0, 0)), blk b_8 (.cells #[.slice (some ⟨z_2, 0, none⟩) ns.length ns.length] 124 (0, 0)), blk b_9 (.cells #[.slice (some ⟨z_4, 0, none⟩) ns.length ns.length] 124 (0, 0)), blk b_10 (.cells #[.slice (some ⟨z_6, 0, none⟩) ns.length ns.length] 124 (0, 0)), blk b1 (.cells #[.slice p ns.length cap, .int .u32 gen] 25 (0, 0)), blk b2 (.cells #[.bool false] 4 (0, 0)), blk l (.loop (F.rc .busy none)), blk Db0 (.deferred (some [])), fr, base w (Low w)]; rw [entN_subs_f h154]; rfl) (by decide)
      ·
       have h159 := of_decide_eq_false h152
       refine Ev.xt 2 ?_
       refine At.via (Q := Qr) hQr ?_
       refine at_roundEnd () 10 rfl (fun w hw => by have e_ : k = (lvn ns i_).list.length := (by omega); subst e_; exact (hw.addFact (show ∀ m, m < i_ + 1 → bad1 ns gen m = false from fun m hm => by rcases Nat.lt_succ_iff_lt_or_eq.1 hm with h1_ | h1_; exact hno m h1_; subst h1_; exact hgood_)).pick [1, 2, 3, 4, 5, 6, 7, 8, 9, 10, 0, 11, 12, 13, 14] (by decide))
    ·
     intro Db0 u_
     rw [show (livRows ns al).length = (liv ns).length from livRows_length ns al]
     refine At.factAt 10 rfl (fun hno1 => ?_)
     refine At.nx (fun _ _ h => h) [7,6,5,2,1] rfl ?_
     refine Ev.sq ?_
     refine Ev.sr 2 ?_
     refine Rg.p 147 (.load 25 (.tmp 1)) (v := .agg #[.slice p ns.length cap, .int .u32 gen]) (pv_load_blk_whole 8 rfl rfl (by kernel_rfl) (by kernel_rfl)) ?_
     refine Rg.cn (T := Nat) (some 148) 58 #[.tmp 147] #[25] (v := fun b15 => .func (.func 112) #[] #[.pointer (some ⟨b15, 0, none⟩)]) (L := fun b15 => [blk b15 (.cells #[.slice p ns.length cap, .int .u32 gen] 25 (0, 0))]) rfl (fun w hw => living_calls) ?_
     rintro b15 _
     dsimp only [putE, List.append, HAppend.hAppend, Append.append]
     refine Rg.nx (fun _ _ h => h) [148,7,6,5,2,1] rfl ?_
     refine Ev.bk 4 ?_
     refine Ev.addFact (show ∀ m, m < 0 → bad2 ns m = false from fun m hm => absurd hm (Nat.not_lt_zero _)) ?_
     refine ev_rangeFunc (T := Unit) (t := 148) (ps := #[149, 150]) (gf := 112) (caps := #[.pointer (some ⟨b15, 0, none⟩)]) (livRows ns al) (fun i_ u_ => [own 3 1 (some ⟨z_2, 0, none⟩) ns.length ns.length (iv (chkN ns (liv ns).length).named), own 3 1 (some ⟨z_4, 0, none⟩) ns.length ns.length (iv (chkN ns (liv ns).length).subs), own 3 1 (some ⟨z_6, 0, none⟩) ns.length ns.length (iv (chkN ns (liv ns).length).home), blk b_8 (.cells #[.slice (some ⟨z_2, 0, none⟩) ns.length ns.length] 124 (0, 0)), blk b_9 (.cells #[.slice (some ⟨z_4, 0, none⟩) ns.length ns.length] 124 (0, 0)), blk b_10 (.cells #[.slice (some ⟨z_6, 0, none⟩) ns.length ns.length] 124 (0, 0)), blk b1 (.cells #[.slice p ns.length cap, .int .u32 gen] 25 (0, 0)), blk b2 (.cells #[.bool false] 4 (0, 0)), fact (∀ m, m < i_ → bad2 ns m = false), blk Db0 (.deferred (some []))]) (fun i_ u_ => [blk b2 (.cells #[.bool false] 4 (0, 0)), fact (∃ m, m < (liv ns).length ∧ bad2 ns m = true), blk Db0 (.deferred (some []))]) (.ret) () [blk b15 (.cells #[.slice p ns.length cap, .int .u32 gen] 25 (0, 0))] [base w (Low w)] (by kernel_rfl) rfl rfl (by kernel_rfl) (by kernel_rfl) (by intro x hx; simp only [livRows, List.mem_map] at hx; obtain ⟨i, _, rfl⟩ := hx; rfl) (fun w hw => hw.pick [2, 3, 4, 7, 8, 9, 10, 11, 0, 13, 1, 14] (by decide)) (living1_iter hT hlen) ?_ ?_ ?_
     ·
      intro F l Db1 i_ u_ fr hn
      have hn_ := hn
      rw [show (livRows ns al).length = (liv ns).length from livRows_length ns al] at hn_
      rw [show (livRows ns al).getD i_ [] = [.int .i64 ((lvi ns i_ : Nat) : Int), .agg ((lvn ns i_).cells (lc al (lvi ns i_)))] from (livRows_get (by rw [livRows_length] at hn; exact hn))]
      refine Ev.weak (E' := [(1, .pointer (some ⟨b1, 0, none⟩)), (2, .pointer (some ⟨b2, 0, none⟩)), (5, .pointer (some ⟨b_8, 0, none⟩)), (6, .pointer (some ⟨b_9, 0, none⟩)), (7, .pointer (some ⟨b_10, 0, none⟩)), (149, .int .i64 ((lvi ns i_ : Nat) : Int)), (150, .agg ((lvn ns i_).cells (lc al (lvi ns i_))))]) (S' := [own 3 1 (some ⟨z_2, 0, none⟩) ns.length ns.length (iv (chkN ns (liv ns).length).named), own 3 1 (some ⟨z_4, 0, none⟩) ns.length ns.length (iv (chkN ns (liv ns).length).subs), own 3 1 (some ⟨z_6, 0, none⟩) ns.length ns.length (iv (chkN ns (liv ns).length).home), blk b_8 (.cells #[.slice (some ⟨z_2, 0, none⟩) ns.length ns.length] 124 (0, 0)), blk b_9 (.cells #[.slice (some ⟨z_4, 0, none⟩) ns.length ns.length] 124 (0, 0)), blk b_10 (.cells #[.slice (some ⟨z_6, 0, none⟩) ns.length ns.length] 124 (0, 0)), blk b1 (.cells #[.slice p ns.length cap, .int .u32 gen] 25 (0, 0)), blk b2 (.cells #[.bool false] 4 (0, 0)), fact (∀ m, m < i_ → bad2 ns m = false), blk Db0 (.deferred (some [])), blk l (.loop (F.rc .ready none)), blk Db1 (.deferred (some [])), fr, base w (Low w)]) [0, 1, 2, 3, 4, 5, 6, 7, 8, 9, 10, 11, 12, 13] (.cons (rfl) (.cons (rfl) (.cons (rfl) (.cons (rfl) (.cons (rfl) (.cons (rfl) (.cons (rfl) (.nil _)))))))) rfl (by decide) ?_
      refine Ev.factAt 8 rfl (fun hno => ?_)
      have hlt_ := liv_get hn_
      have hnd_ := hW.node (lvi ns i_)
      have hlv_ : lvi ns i_ < ns.length := hlt_.1
      have hck_ := chkN_ok hW (liv ns).length
      have hcap_ := liv_short ns
      have hs0_ := hck_.s0 (lvi ns i_)
      have hs1_ := hck_.s1 (lvi ns i_)
      refine Ev.sr 1 ?_
      refine Rg.as 12 149 rfl ?_
      refine Rg.nx (fun _ _ h => h) [150,12,7,6,5,2,1] rfl ?_
      refine Ev.rg 2 ?_
      refine Rg.al 13 44 (.agg #[.int .u32 0, .int .u32 0, .int .u32 0, .int .u32 0, .int .u32 0, .int .i64 0, .int .u32 0, .int .u32 0, .int .u32 0, .int .u32 0, .int .u32 0, .int .u32 0, .slice none 0 0, .int .u8 0, .int .u8 0, .int .u8 0, .int .u8 0, .int .u8 0, .int .u8 0, .int .u8 0, .int .u8 0, .string ⟨#[]⟩, .slice none 0 0, .int .i64 0, .int .u64 0]) fun b16 => ?_
      refine Rg.st 44 13 (.tmp 150) 0 ((lvn ns i_).cells (lc al (lvi ns i_))) rfl rfl rfl ?_
      refine Rg.fin rfl ?_
      refine at_beginQ (E' := [(1, .pointer (some ⟨b1, 0, none⟩)), (2, .pointer (some ⟨b2, 0, none⟩)), (5, .pointer (some ⟨b_8, 0, none⟩)), (6, .pointer (some ⟨b_9, 0, none⟩)), (7, .pointer (some ⟨b_10, 0, none⟩)), (12, .int .i64 ((lvi ns i_ : Nat) : Int)), (13, .pointer (some ⟨b16, 0, none⟩))]) 11 [0, 1, 2, 3, 4, 5, 6, 7, 8, 9, 10, 11, 12, 13, 14] rfl rfl (.cons (rfl) (.cons (rfl) (.cons (rfl) (.cons (rfl) (.cons (rfl) (.cons (rfl) (.cons (rfl) (.nil _)))))))) (by decide) ?_
      intro Qr hQr
      refine Ev.bk 5 ?_
      refine Ev.sq ?_
      refine ev_quiet (n := 22) (E' := [(1, .pointer (some ⟨b1, 0, none⟩)), (2, .pointer (some ⟨b2, 0, none⟩)), (5, .pointer (some ⟨b_8, 0, none⟩)), (6, .pointer (some ⟨b_9, 0, none⟩)), (7, .pointer (some ⟨b_10, 0, none⟩)), (12, .int .i64 ((lvi ns i_ : Nat) : Int)), (13, .pointer (some ⟨b16, 0, none⟩)), (14, .bool (((!(decide (((lvn ns i_).links) = (((chkN ns (liv ns).length).named).getD (lvi ns i_) 0)))) || (decide ((((chkN ns (liv ns).length).named).getD (lvi ns i_) 0) < 1))) || (decide (200 < (((chkN ns (liv ns).length).named).getD (lvi ns i_) 0)))))]) (by kernel_rfl) (by kernel_rfl) ?_ ?_
      ·
       refine Qg.pure (d := 151) (op := .fieldAddr 44 (.tmp 13) 5) (g := none) (v := .pointer (some ⟨b16, 0 + 5, none⟩)) (by kernel_rfl) (by kernel_rfl) (pv_fieldAddr rfl (n := 5) (by kernel_rfl)) ?_
       refine Qg.pure (d := 152) (op := .load 3 (.tmp 151)) (g := none) (v := .int .i64 ((lvn ns i_).links)) (by kernel_rfl) (by kernel_rfl) (pv_load_blk 0 rfl rfl (by kernel_rfl) rfl) ?_
       refine Qg.pure (d := 153) (op := .load 124 (.tmp 5)) (g := none) (v := .slice (some ⟨z_2, 0, none⟩) ns.length ns.length) (by kernel_rfl) (by kernel_rfl) (pv_load_blk 4 rfl rfl (by kernel_rfl) rfl) ?_
       refine Qg.pure (d := 154) (op := .move (.tmp 12)) (g := none) (v := .int .i64 ((lvi ns i_ : Nat) : Int)) (by kernel_rfl) (by kernel_rfl) (pv_move rfl) ?_
       refine Qg.pure (d := 155) (op := .indexAddr 124 (.tmp 153) (.tmp 154)) (g := none) (v := .pointer (some ⟨z_2, 0 + (((lvi ns i_ : Nat) : Int)).toNat * 1, none⟩)) (by kernel_rfl) (by kernel_rfl) (pv_indexAddr rfl rfl (e := 3) (sz := 1) (by kernel_rfl) (by omega) (by omega)) ?_
       refine Qg.pure (d := 156) (op := .load 3 (.tmp 155)) (g := none) (v := .int .i64 (((chkN ns (liv ns).length).named).getD (lvi ns i_) 0)) (by kernel_rfl) (by kernel_rfl) (pv_load_own 1 rfl rfl (by kernel_rfl) (iv_get (i := (lvi ns i_)) (by rw [hck_.named]; omega))) ?_
       refine Qg.pure (d := 157) (op := .binOp .neq 3 (.tmp 152) (.tmp 156) 3) (g := none) (v := .bool (!(decide (((lvn ns i_).links) = (((chkN ns (liv ns).length).named).getD (lvi ns i_) 0))))) (by kernel_rfl) (by kernel_rfl) (pv_neq rfl rfl) ?_
       refine Qg.pure (d := 158) (op := .move (.tmp 157)) (g := none) (v := .bool (!(decide (((lvn ns i_).links) = (((chkN ns (liv ns).length).named).getD (lvi ns i_) 0))))) (by kernel_rfl) (by kernel_rfl) (pv_move rfl) ?_
       refine Qg.split 14 [(164, .bool ((!(decide (((lvn ns i_).links) = (((chkN ns (liv ns).length).named).getD (lvi ns i_) 0)))) || (decide ((((chkN ns (liv ns).length).named).getD (lvi ns i_) 0) < 1)))), (1, .pointer (some ⟨b1, 0, none⟩)), (2, .pointer (some ⟨b2, 0, none⟩)), (5, .pointer (some ⟨b_8, 0, none⟩)), (6, .pointer (some ⟨b_9, 0, none⟩)), (7, .pointer (some ⟨b_10, 0, none⟩)), (12, .int .i64 ((lvi ns i_ : Nat) : Int)), (13, .pointer (some ⟨b16, 0, none⟩))] [blk b16 (.cells ((lvn ns i_).cells (lc al (lvi ns i_))) 44 (0, 0)), own 3 1 (some ⟨z_2, 0, none⟩) ns.length ns.length (iv (chkN ns (liv ns).length).named), own 3 1 (some ⟨z_4, 0, none⟩) ns.length ns.length (iv (chkN ns (liv ns).length).subs), own 3 1 (some ⟨z_6, 0, none⟩) ns.length ns.length (iv (chkN ns (liv ns).length).home), blk b_8 (.cells #[.slice (some ⟨z_2, 0, none⟩) ns.length ns.length] 124 (0, 0)), blk b_9 (.cells #[.slice (some ⟨z_4, 0, none⟩) ns.length ns.length] 124 (0, 0)), blk b_10 (.cells #[.slice (some ⟨z_6, 0, none⟩) ns.length ns.length] 124 (0, 0)), blk b1 (.cells #[.slice p ns.length cap, .int .u32 gen] 25 (0, 0)), blk b2 (.cells #[.bool false] 4 (0, 0)), fact (∀ m, m < i_ → bad2 ns m = false), blk Db0 (.deferred (some [])), blk l (.loop (F.rc .busy none)), blk Db1 (.deferred (some [])), fr, base w (Low w)] (s := 158) (g := !(decide (((lvn ns i_).links) = (((chkN ns (liv ns).length).named).getD (lvi ns i_) 0)))) rfl (by decide) (fun h160 => ?_) (fun h160 => ?_) ?_
       ·
        refine Qg.skips 13 (by kernel_rfl) ?_
        refine Qg.pure (d := 164) (op := .pick (.tmp 158) (.const (.bool true)) (.tmp 163)) (g := none) (v := .bool true) (by kernel_rfl) (by kernel_rfl) (pv_pick_t rfl rfl) ?_
        exact Qg.mid (.cons (or_of_t h160 rfl) (.cons (rfl) (.cons (rfl) (.cons (rfl) (.cons (rfl) (.cons (rfl) (.cons (rfl) (.cons (rfl) (.nil _))))))))) rfl
       ·
        have h161 := of_decide_eq_true (not_f h160)
        refine Qg.pure (d := 159) (op := .load 124 (.tmp 5)) (g := some (7, false)) (v := .slice (some ⟨z_2, 0, none⟩) ns.length ns.length) (by kernel_rfl) (by kernel_rfl) (pv_load_blk 4 rfl rfl (by kernel_rfl) rfl) ?_
        refine Qg.pure (d := 160) (op := .move (.tmp 12)) (g := some (7, false)) (v := .int .i64 ((lvi ns i_ : Nat) : Int)) (by kernel_rfl) (by kernel_rfl) (pv_move rfl) ?_
        refine Qg.pure (d := 161) (op := .indexAddr 124 (.tmp 159) (.tmp 160)) (g := some (7, false)) (v := .pointer (some ⟨z_2, 0 + (((lvi ns i_ : Nat) : Int)).toNat * 1, none⟩)) (by kernel_rfl) (by kernel_rfl) (pv_indexAddr rfl rfl (e := 3) (sz := 1) (by kernel_rfl) (by omega) (by omega)) ?_
        refine Qg.pure (d := 162) (op := .load 3 (.tmp 161)) (g := some (7, false)) (v := .int .i64 (((chkN ns (liv ns).length).named).getD (lvi ns i_) 0)) (by kernel_rfl) (by kernel_rfl) (pv_load_own 1 rfl rfl (by kernel_rfl) (iv_get (i := (lvi ns i_)) (by rw [hck_.named]; omega))) ?_
        refine Qg.pure (d := 163) (op := .binOp .lss 3 (.tmp 162) (.const (.int .i64 1)) 3) (g := some (7, false)) (v := .bool (decide ((((chkN ns (liv ns).length).named).getD (lvi ns i_) 0) < 1))) (by kernel_rfl) (by kernel_rfl) (pv_lss rfl rfl) ?_
        refine Qg.pure (d := 164) (op := .pick (.tmp 158) (.const (.bool true)) (.tmp 163)) (g := none) (v := .bool (decide ((((chkN ns (liv ns).length).named).getD (lvi ns i_) 0) < 1))) (by kernel_rfl) (by kernel_rfl) (pv_pick_f rfl rfl) ?_
        exact Qg.mid (.cons (or_of_f h160 rfl) (.cons (rfl) (.cons (rfl) (.cons (rfl) (.cons (rfl) (.cons (rfl) (.cons (rfl) (.cons (rfl) (.nil _))))))))) rfl
       refine Qg.pure (d := 165) (op := .move (.tmp 164)) (g := none) (v := .bool ((!(decide (((lvn ns i_).links) = (((chkN ns (liv ns).length).named).getD (lvi ns i_) 0)))) || (decide ((((chkN ns (liv ns).length).named).getD (lvi ns i_) 0) < 1)))) (by kernel_rfl) (by kernel_rfl) (pv_move rfl) ?_
       refine Qg.split 21 [(171, .bool (((!(decide (((lvn ns i_).links) = (((chkN ns (liv ns).length).named).getD (lvi ns i_) 0)))) || (decide ((((chkN ns (liv ns).length).named).getD (lvi ns i_) 0) < 1))) || (decide (200 < (((chkN ns (liv ns).length).named).getD (lvi ns i_) 0))))), (1, .pointer (some ⟨b1, 0, none⟩)), (2, .pointer (some ⟨b2, 0, none⟩)), (5, .pointer (some ⟨b_8, 0, none⟩)), (6, .pointer (some ⟨b_9, 0, none⟩)), (7, .pointer (some ⟨b_10, 0, none⟩)), (12, .int .i64 ((lvi ns i_ : Nat) : Int)), (13, .pointer (some ⟨b16, 0, none⟩))] [blk b16 (.cells ((lvn ns i_).cells (lc al (lvi ns i_))) 44 (0, 0)), own 3 1 (some ⟨z_2, 0, none⟩) ns.length ns.length (iv (chkN ns (liv ns).length).named), own 3 1 (some ⟨z_4, 0, none⟩) ns.length ns.length (iv (chkN ns (liv ns).length).subs), own 3 1 (some ⟨z_6, 0, none⟩) ns.length ns.length (iv (chkN ns (liv ns).length).home), blk b_8 (.cells #[.slice (some ⟨z_2, 0, none⟩) ns.length ns.length] 124 (0, 0)), blk b_9 (.cells #[.slice (some ⟨z_4, 0, none⟩) ns.length ns.length] 124 (0, 0)), blk b_10 (.cells #[.slice (some ⟨z_6, 0, none⟩) ns.length ns.length] 124 (0, 0)), blk b1 (.cells #[.slice p ns.length cap, .int .u32 gen] 25 (0, 0)), blk b2 (.cells #[.bool false] 4 (0, 0)), fact (∀ m, m < i_ → bad2 ns m = false), blk Db0 (.deferred (some [])), blk l (.loop (F.rc .busy none)), blk Db1 (.deferred (some [])), fr, base w (Low w)] (s := 165) (g := (!(decide (((lvn ns i_).links) = (((chkN ns (liv ns).length).named).getD (lvi ns i_) 0)))) || (decide ((((chkN ns (liv ns).length).named).getD (lvi ns i_) 0) < 1))) rfl (by decide) (fun h162 => ?_) (fun h162 => ?_) ?_
       ·
        refine Qg.skips 20 (by kernel_rfl) ?_
        refine Qg.pure (d := 171) (op := .pick (.tmp 165) (.const (.bool true)) (.tmp 170)) (g := none) (v := .bool true) (by kernel_rfl) (by kernel_rfl) (pv_pick_t rfl rfl) ?_
        exact Qg.mid (.cons (or_of_t h162 rfl) (.cons (rfl) (.cons (rfl) (.cons (rfl) (.cons (rfl) (.cons (rfl) (.cons (rfl) (.cons (rfl) (.nil _))))))))) rfl
       ·
        have ⟨h163, h164⟩ := or_f h162
        have h165 := of_decide_eq_true (not_f h163)
        have h166 := of_decide_eq_false h164
        refine Qg.pure (d := 166) (op := .load 124 (.tmp 5)) (g := some (14, false)) (v := .slice (some ⟨z_2, 0, none⟩) ns.length ns.length) (by kernel_rfl) (by kernel_rfl) (pv_load_blk 4 rfl rfl (by kernel_rfl) rfl) ?_
        refine Qg.pure (d := 167) (op := .move (.tmp 12)) (g := some (14, false)) (v := .int .i64 ((lvi ns i_ : Nat) : Int)) (by kernel_rfl) (by kernel_rfl) (pv_move rfl) ?_
        refine Qg.pure (d := 168) (op := .indexAddr 124 (.tmp 166) (.tmp 167)) (g := some (14, false)) (v := .pointer (some ⟨z_2, 0 + (((lvi ns i_ : Nat) : Int)).toNat * 1, none⟩)) (by kernel_rfl) (by kernel_rfl) (pv_indexAddr rfl rfl (e := 3) (sz := 1) (by kernel_rfl) (by omega) (by omega)) ?_
        refine Qg.pure (d := 169) (op := .load 3 (.tmp 168)) (g := some (14, false)) (v := .int .i64 (((chkN ns (liv ns).length).named).getD (lvi ns i_) 0)) (by kernel_rfl) (by kernel_rfl) (pv_load_own 1 rfl rfl (by kernel_rfl) (iv_get (i := (lvi ns i_)) (by rw [hck_.named]; omega))) ?_
        refine Qg.pure (d := 170) (op := .binOp .gtr 3 (.tmp 169) (.const (.int .i64 200)) 3) (g := some (14, false)) (v := .bool (decide (200 < (((chkN ns (liv ns).length).named).getD (lvi ns i_) 0)))) (by kernel_rfl) (by kernel_rfl) (pv_gtr rfl rfl) ?_
        refine Qg.pure (d := 171) (op := .pick (.tmp 165) (.const (.bool true)) (.tmp 170)) (g := none) (v := .bool (decide (200 < (((chkN ns (liv ns).length).named).getD (lvi ns i_) 0)))) (by kernel_rfl) (by kernel_rfl) (pv_pick_f rfl rfl) ?_
        exact Qg.mid (.cons (or_of_f h162 rfl) (.cons (rfl) (.cons (rfl) (.cons (rfl) (.cons (rfl) (.cons (rfl) (.cons (rfl) (.cons (rfl) (.nil _))))))))) rfl
       refine Qg.pure (d := 14) (op := .assign (.tmp 171)) (g := none) (v := .bool (((!(decide (((lvn ns i_).links) = (((chkN ns (liv ns).length).named).getD (lvi ns i_) 0)))) || (decide ((((chkN ns (liv ns).length).named).getD (lvi ns i_) 0) < 1))) || (decide (200 < (((chkN ns (liv ns).length).named).getD (lvi ns i_) 0))))) (by kernel_rfl) (by kernel_rfl) (pv_assign rfl) ?_
       exact Qg.mid (.cons rfl (.cons rfl (.cons rfl (.cons rfl (.cons rfl (.cons rfl (.cons rfl (.cons rfl (.nil _))))))))) rfl
      refine At.nx (fun _ _ h => h) [14,13,12,7,6,5,2,1] rfl ?_
      refine Ev.sq ?_
      refine Ev.sr 3 ?_
      refine Rg.fa 172 44 13 0 0 rfl ?_
      refine Rg.ld 173 33 172 0 rfl rfl rfl ?_
      refine Rg.p 174 (.binOp .eql 33 (.tmp 173) (.const (.int .u32 2)) 33) (pv_eql rfl rfl) ?_
      refine Rg.nx (fun _ _ h => h) [174,14,13,12,7,6,5,2,1] rfl ?_
      refine Ev.cd 174 rfl (fun h167 => ?_) (fun h167 => ?_)
      ·
       have h168 := of_decide_eq_true h167
       refine ev_quiet (n := 35) (E' := [(2, .pointer (some ⟨b2, 0, none⟩)), (14, .bool ((!(decide (((lvn ns i_).links) = (2 + (((chkN ns (liv ns).length).subs).getD (lvi ns i_) 0))))) || ((decide (1 < ((lvi ns i_ : Nat) : Int))) && (((!(decide ((((chkN ns (liv ns).length).named).getD (lvi ns i_) 0) = 1))) || (!(decide ((((chkN ns (liv ns).length).home).getD (lvi ns i_) 0) = ((lvn ns i_).parent))))) || (!(withinS ns ((lvi ns i_ : Nat) : Int) 1))))))]) (by kernel_rfl) (by kernel_rfl) ?_ ?_
       ·
        refine Qg.pure (d := 175) (op := .fieldAddr 44 (.tmp 13) 5) (g := none) (v := .pointer (some ⟨b16, 0 + 5, none⟩)) (by kernel_rfl) (by kernel_rfl) (pv_fieldAddr rfl (n := 5) (by kernel_rfl)) ?_
        refine Qg.pure (d := 176) (op := .load 3 (.tmp 175)) (g := none) (v := .int .i64 ((lvn ns i_).links)) (by kernel_rfl) (by kernel_rfl) (pv_load_blk 0 rfl rfl (by kernel_rfl) rfl) ?_
        refine Qg.pure (d := 177) (op := .load 124 (.tmp 6)) (g := none) (v := .slice (some ⟨z_4, 0, none⟩) ns.length ns.length) (by kernel_rfl) (by kernel_rfl) (pv_load_blk 5 rfl rfl (by kernel_rfl) rfl) ?_
        refine Qg.pure (d := 178) (op := .move (.tmp 12)) (g := none) (v := .int .i64 ((lvi ns i_ : Nat) : Int)) (by kernel_rfl) (by kernel_rfl) (pv_move rfl) ?_
        refine Qg.pure (d := 179) (op := .indexAddr 124 (.tmp 177) (.tmp 178)) (g := none) (v := .pointer (some ⟨z_4, 0 + (((lvi ns i_ : Nat) : Int)).toNat * 1, none⟩)) (by kernel_rfl) (by kernel_rfl) (pv_indexAddr rfl rfl (e := 3) (sz := 1) (by kernel_rfl) (by omega) (by omega)) ?_
        refine Qg.pure (d := 180) (op := .load 3 (.tmp 179)) (g := none) (v := .int .i64 (((chkN ns (liv ns).length).subs).getD (lvi ns i_) 0)) (by kernel_rfl) (by kernel_rfl) (pv_load_own 2 rfl rfl (by kernel_rfl) (iv_get (i := (lvi ns i_)) (by rw [hck_.subs]; omega))) ?_
        refine Qg.pure (d := 181) (op := .binOp .add 3 (.const (.int .i64 2)) (.tmp 180) 3) (g := none) (v := .int .i64 (2 + (((chkN ns (liv ns).length).subs).getD (lvi ns i_) 0))) (by kernel_rfl) (by kernel_rfl) (pv_addb rfl rfl (in_i64 (by omega) (by omega))) ?_
        refine Qg.pure (d := 182) (op := .binOp .neq 3 (.tmp 176) (.tmp 181) 3) (g := none) (v := .bool (!(decide (((lvn ns i_).links) = (2 + (((chkN ns (liv ns).length).subs).getD (lvi ns i_) 0)))))) (by kernel_rfl) (by kernel_rfl) (pv_neq rfl rfl) ?_
        refine Qg.pure (d := 183) (op := .move (.tmp 182)) (g := none) (v := .bool (!(decide (((lvn ns i_).links) = (2 + (((chkN ns (liv ns).length).subs).getD (lvi ns i_) 0)))))) (by kernel_rfl) (by kernel_rfl) (pv_move rfl) ?_
        refine Qg.split 34 [(208, .bool ((!(decide (((lvn ns i_).links) = (2 + (((chkN ns (liv ns).length).subs).getD (lvi ns i_) 0))))) || ((decide (1 < ((lvi ns i_ : Nat) : Int))) && (((!(decide ((((chkN ns (liv ns).length).named).getD (lvi ns i_) 0) = 1))) || (!(decide ((((chkN ns (liv ns).length).home).getD (lvi ns i_) 0) = ((lvn ns i_).parent))))) || (!(withinS ns ((lvi ns i_ : Nat) : Int) 1)))))), (2, .pointer (some ⟨b2, 0, none⟩)), (14, .bool (((!(decide (((lvn ns i_).links) = (((chkN ns (liv ns).length).named).getD (lvi ns i_) 0)))) || (decide ((((chkN ns (liv ns).length).named).getD (lvi ns i_) 0) < 1))) || (decide (200 < (((chkN ns (liv ns).length).named).getD (lvi ns i_) 0)))))] [blk b16 (.cells ((lvn ns i_).cells (lc al (lvi ns i_))) 44 (0, 0)), own 3 1 (some ⟨z_2, 0, none⟩) ns.length ns.length (iv (chkN ns (liv ns).length).named), own 3 1 (some ⟨z_4, 0, none⟩) ns.length ns.length (iv (chkN ns (liv ns).length).subs), own 3 1 (some ⟨z_6, 0, none⟩) ns.length ns.length (iv (chkN ns (liv ns).length).home), blk b_8 (.cells #[.slice (some ⟨z_2, 0, none⟩) ns.length ns.length] 124 (0, 0)), blk b_9 (.cells #[.slice (some ⟨z_4, 0, none⟩) ns.length ns.length] 124 (0, 0)), blk b_10 (.cells #[.slice (some ⟨z_6, 0, none⟩) ns.length ns.length] 124 (0, 0)), blk b1 (.cells #[.slice p ns.length cap, .int .u32 gen] 25 (0, 0)), blk b2 (.cells #[.bool false] 4 (0, 0)), fact (∀ m, m < i_ → bad2 ns m = false), blk Db0 (.deferred (some [])), blk l (.loop (F.rc .busy none)), blk Db1 (.deferred (some [])), fr, base w (Low w)] (s := 183) (g := !(decide (((lvn ns i_).links) = (2 + (((chkN ns (liv ns).length).subs).getD (lvi ns i_) 0))))) rfl (by decide) (fun h169 => ?_) (fun h169 => ?_) ?_
        ·
         refine Qg.skips 33 (by kernel_rfl) ?_
         refine Qg.pure (d := 208) (op := .pick (.tmp 183) (.const (.bool true)) (.tmp 207)) (g := none) (v := .bool true) (by kernel_rfl) (by kernel_rfl) (pv_pick_t rfl rfl) ?_
         exact Qg.mid (.cons (or_of_t h169 rfl) (.cons (rfl) (.cons (rfl) (.nil _)))) rfl
        ·
         have h170 := of_decide_eq_true (not_f h169)
         refine Qg.pure (d := 184) (op := .move (.tmp 12)) (g := some (8, false)) (v := .int .i64 ((lvi ns i_ : Nat) : Int)) (by kernel_rfl) (by kernel_rfl) (pv_move rfl) ?_
         refine Qg.pure (d := 185) (op := .binOp .gtr 3 (.tmp 184) (.const (.int .i64 1)) 3) (g := some (8, false)) (v := .bool (decide (1 < ((lvi ns i_ : Nat) : Int)))) (by kernel_rfl) (by kernel_rfl) (pv_gtr rfl rfl) ?_
         refine Qg.pure (d := 186) (op := .move (.tmp 185)) (g := some (8, false)) (v := .bool (decide (1 < ((lvi ns i_ : Nat) : Int)))) (by kernel_rfl) (by kernel_rfl) (pv_move rfl) ?_
         refine Qg.split 33 [(207, .bool ((decide (1 < ((lvi ns i_ : Nat) : Int))) && (((!(decide ((((chkN ns (liv ns).length).named).getD (lvi ns i_) 0) = 1))) || (!(decide ((((chkN ns (liv ns).length).home).getD (lvi ns i_) 0) = ((lvn ns i_).parent))))) || (!(withinS ns ((lvi ns i_ : Nat) : Int) 1))))), (2, .pointer (some ⟨b2, 0, none⟩)), (14, .bool (((!(decide (((lvn ns i_).links) = (((chkN ns (liv ns).length).named).getD (lvi ns i_) 0)))) || (decide ((((chkN ns (liv ns).length).named).getD (lvi ns i_) 0) < 1))) || (decide (200 < (((chkN ns (liv ns).length).named).getD (lvi ns i_) 0))))), (183, .bool false)] [blk b16 (.cells ((lvn ns i_).cells (lc al (lvi ns i_))) 44 (0, 0)), own 3 1 (some ⟨z_2, 0, none⟩) ns.length ns.length (iv (chkN ns (liv ns).length).named), own 3 1 (some ⟨z_4, 0, none⟩) ns.length ns.length (iv (chkN ns (liv ns).length).subs), own 3 1 (some ⟨z_6, 0, none⟩) ns.length ns.length (iv (chkN ns (liv ns).length).home), blk b_8 (.cells #[.slice (some ⟨z_2, 0, none⟩) ns.length ns.length] 124 (0, 0)), blk b_9 (.cells #[.slice (some ⟨z_4, 0, none⟩) ns.length ns.length] 124 (0, 0)), blk b_10 (.cells #[.slice (some ⟨z_6, 0, none⟩) ns.length ns.length] 124 (0, 0)), blk b1 (.cells #[.slice p ns.length cap, .int .u32 gen] 25 (0, 0)), blk b2 (.cells #[.bool false] 4 (0, 0)), fact (∀ m, m < i_ → bad2 ns m = false), blk Db0 (.deferred (some [])), blk l (.loop (F.rc .busy none)), blk Db1 (.deferred (some [])), fr, base w (Low w)] (s := 186) (g := decide (1 < ((lvi ns i_ : Nat) : Int))) rfl (by decide) (fun h171 => ?_) (fun h171 => ?_) ?_
         ·
          have h172 := of_decide_eq_true h171
          refine Qg.pure (d := 187) (op := .load 124 (.tmp 5)) (g := some (11, true)) (v := .slice (some ⟨z_2, 0, none⟩) ns.length ns.length) (by kernel_rfl) (by kernel_rfl) (pv_load_blk 4 rfl rfl (by kernel_rfl) rfl) ?_
          refine Qg.pure (d := 188) (op := .move (.tmp 12)) (g := some (11, true)) (v := .int .i64 ((lvi ns i_ : Nat) : Int)) (by kernel_rfl) (by kernel_rfl) (pv_move rfl) ?_
          refine Qg.pure (d := 189) (op := .indexAddr 124 (.tmp 187) (.tmp 188)) (g := some (11, true)) (v := .pointer (some ⟨z_2, 0 + (((lvi ns i_ : Nat) : Int)).toNat * 1, none⟩)) (by kernel_rfl) (by kernel_rfl) (pv_indexAddr rfl rfl (e := 3) (sz := 1) (by kernel_rfl) (by omega) (by omega)) ?_
          refine Qg.pure (d := 190) (op := .load 3 (.tmp 189)) (g := some (11, true)) (v := .int .i64 (((chkN ns (liv ns).length).named).getD (lvi ns i_) 0)) (by kernel_rfl) (by kernel_rfl) (pv_load_own 1 rfl rfl (by kernel_rfl) (iv_get (i := (lvi ns i_)) (by rw [hck_.named]; omega))) ?_
          refine Qg.pure (d := 191) (op := .binOp .neq 3 (.tmp 190) (.const (.int .i64 1)) 3) (g := some (11, true)) (v := .bool (!(decide ((((chkN ns (liv ns).length).named).getD (lvi ns i_) 0) = 1)))) (by kernel_rfl) (by kernel_rfl) (pv_neq rfl rfl) ?_
          refine Qg.pure (d := 192) (op := .move (.tmp 191)) (g := some (11, true)) (v := .bool (!(decide ((((chkN ns (liv ns).length).named).getD (lvi ns i_) 0) = 1)))) (by kernel_rfl) (by kernel_rfl) (pv_move rfl) ?_
          refine Qg.split 26 [(200, .bool ((!(decide ((((chkN ns (liv ns).length).named).getD (lvi ns i_) 0) = 1))) || (!(decide ((((chkN ns (liv ns).length).home).getD (lvi ns i_) 0) = ((lvn ns i_).parent)))))), (1, .pointer (some ⟨b1, 0, none⟩)), (2, .pointer (some ⟨b2, 0, none⟩)), (12, .int .i64 ((lvi ns i_ : Nat) : Int)), (14, .bool (((!(decide (((lvn ns i_).links) = (((chkN ns (liv ns).length).named).getD (lvi ns i_) 0)))) || (decide ((((chkN ns (liv ns).length).named).getD (lvi ns i_) 0) < 1))) || (decide (200 < (((chkN ns (liv ns).length).named).getD (lvi ns i_) 0))))), (183, .bool false), (186, .bool true)] [blk b16 (.cells ((lvn ns i_).cells (lc al (lvi ns i_))) 44 (0, 0)), own 3 1 (some ⟨z_2, 0, none⟩) ns.length ns.length (iv (chkN ns (liv ns).length).named), own 3 1 (some ⟨z_4, 0, none⟩) ns.length ns.length (iv (chkN ns (liv ns).length).subs), own 3 1 (some ⟨z_6, 0, none⟩) ns.length ns.length (iv (chkN ns (liv ns).length).home), blk b_8 (.cells #[.slice (some ⟨z_2, 0, none⟩) ns.length ns.length] 124 (0, 0)), blk b_9 (.cells #[.slice (some ⟨z_4, 0, none⟩) ns.length ns.length] 124 (0, 0)), blk b_10 (.cells #[.slice (some ⟨z_6, 0, none⟩) ns.length ns.length] 124 (0, 0)), blk b1 (.cells #[.slice p ns.length cap, .int .u32 gen] 25 (0, 0)), blk b2 (.cells #[.bool false] 4 (0, 0)), fact (∀ m, m < i_ → bad2 ns m = false), blk Db0 (.deferred (some [])), blk l (.loop (F.rc .busy none)), blk Db1 (.deferred (some [])), fr, base w (Low w)] (s := 192) (g := !(decide ((((chkN ns (liv ns).length).named).getD (lvi ns i_) 0) = 1))) rfl (by decide) (fun h173 => ?_) (fun h173 => ?_) ?_
          ·
           refine Qg.skips 25 (by kernel_rfl) ?_
           refine Qg.pure (d := 200) (op := .pick (.tmp 192) (.const (.bool true)) (.tmp 199)) (g := some (11, true)) (v := .bool true) (by kernel_rfl) (by kernel_rfl) (pv_pick_t rfl rfl) ?_
           exact Qg.mid (.cons (or_of_t h173 rfl) (.cons (rfl) (.cons (rfl) (.cons (rfl) (.cons (rfl) (.cons (rfl) (.cons (rfl) (.nil _)))))))) rfl
          ·
           have h174 := of_decide_eq_true (not_f h173)
           refine Qg.pure (d := 193) (op := .load 124 (.tmp 7)) (g := some (17, false)) (v := .slice (some ⟨z_6, 0, none⟩) ns.length ns.length) (by kernel_rfl) (by kernel_rfl) (pv_load_blk 6 rfl rfl (by kernel_rfl) rfl) ?_
           refine Qg.pure (d := 194) (op := .move (.tmp 12)) (g := some (17, false)) (v := .int .i64 ((lvi ns i_ : Nat) : Int)) (by kernel_rfl) (by kernel_rfl) (pv_move rfl) ?_
           refine Qg.pure (d := 195) (op := .indexAddr 124 (.tmp 193) (.tmp 194)) (g := some (17, false)) (v := .pointer (some ⟨z_6, 0 + (((lvi ns i_ : Nat) : Int)).toNat * 1, none⟩)) (by kernel_rfl) (by kernel_rfl) (pv_indexAddr rfl rfl (e := 3) (sz := 1) (by kernel_rfl) (by omega) (by omega)) ?_
           refine Qg.pure (d := 196) (op := .load 3 (.tmp 195)) (g := some (17, false)) (v := .int .i64 (((chkN ns (liv ns).length).home).getD (lvi ns i_) 0)) (by kernel_rfl) (by kernel_rfl) (pv_load_own 3 rfl rfl (by kernel_rfl) (iv_get (i := (lvi ns i_)) (by rw [hck_.home]; omega))) ?_
           refine Qg.pure (d := 197) (op := .fieldAddr 44 (.tmp 13) 13) (g := some (17, false)) (v := .pointer (some ⟨b16, 0 + 23, none⟩)) (by kernel_rfl) (by kernel_rfl) (pv_fieldAddr rfl (n := 23) (by kernel_rfl)) ?_
           refine Qg.pure (d := 198) (op := .load 3 (.tmp 197)) (g := some (17, false)) (v := .int .i64 ((lvn ns i_).parent)) (by kernel_rfl) (by kernel_rfl) (pv_load_blk 0 rfl rfl (by kernel_rfl) rfl) ?_
           refine Qg.pure (d := 199) (op := .binOp .neq 3 (.tmp 196) (.tmp 198) 3) (g := some (17, false)) (v := .bool (!(decide ((((chkN ns (liv ns).length).home).getD (lvi ns i_) 0) = ((lvn ns i_).parent))))) (by kernel_rfl) (by kernel_rfl) (pv_neq rfl rfl) ?_
           refine Qg.pure (d := 200) (op := .pick (.tmp 192) (.const (.bool true)) (.tmp 199)) (g := some (11, true)) (v := .bool (!(decide ((((chkN ns (liv ns).length).home).getD (lvi ns i_) 0) = ((lvn ns i_).parent))))) (by kernel_rfl) (by kernel_rfl) (pv_pick_f rfl rfl) ?_
           exact Qg.mid (.cons (or_of_f h173 rfl) (.cons (rfl) (.cons (rfl) (.cons (rfl) (.cons (rfl) (.cons (rfl) (.cons (rfl) (.nil _)))))))) rfl
          refine Qg.pure (d := 201) (op := .move (.tmp 200)) (g := some (11, true)) (v := .bool ((!(decide ((((chkN ns (liv ns).length).named).getD (lvi ns i_) 0) = 1))) || (!(decide ((((chkN ns (liv ns).length).home).getD (lvi ns i_) 0) = ((lvn ns i_).parent)))))) (by kernel_rfl) (by kernel_rfl) (pv_move rfl) ?_
          refine Qg.split 32 [(206, .bool (((!(decide ((((chkN ns (liv ns).length).named).getD (lvi ns i_) 0) = 1))) || (!(decide ((((chkN ns (liv ns).length).home).getD (lvi ns i_) 0) = ((lvn ns i_).parent))))) || (!(withinS ns ((lvi ns i_ : Nat) : Int) 1)))), (2, .pointer (some ⟨b2, 0, none⟩)), (14, .bool (((!(decide (((lvn ns i_).links) = (((chkN ns (liv ns).length).named).getD (lvi ns i_) 0)))) || (decide ((((chkN ns (liv ns).length).named).getD (lvi ns i_) 0) < 1))) || (decide (200 < (((chkN ns (liv ns).length).named).getD (lvi ns i_) 0))))), (183, .bool false), (186, .bool true)] [blk b16 (.cells ((lvn ns i_).cells (lc al (lvi ns i_))) 44 (0, 0)), own 3 1 (some ⟨z_2, 0, none⟩) ns.length ns.length (iv (chkN ns (liv ns).length).named), own 3 1 (some ⟨z_4, 0, none⟩) ns.length ns.length (iv (chkN ns (liv ns).length).subs), own 3 1 (some ⟨z_6, 0, none⟩) ns.length ns.length (iv (chkN ns (liv ns).length).home), blk b_8 (.cells #[.slice (some ⟨z_2, 0, none⟩) ns.length ns.length] 124 (0, 0)), blk b_9 (.cells #[.slice (some ⟨z_4, 0, none⟩) ns.length ns.length] 124 (0, 0)), blk b_10 (.cells #[.slice (some ⟨z_6, 0, none⟩) ns.length ns.length] 124 (0, 0)), blk b1 (.cells #[.slice p ns.length cap, .int .u32 gen] 25 (0, 0)), blk b2 (.cells #[.bool false] 4 (0, 0)), fact (∀ m, m < i_ → bad2 ns m = false), blk Db0 (.deferred (some [])), blk l (.loop (F.rc .busy none)), blk Db1 (.deferred (some [])), fr, base w (Low w)] (s := 201) (g := (!(decide ((((chkN ns (liv ns).length).named).getD (lvi ns i_) 0) = 1))) || (!(decide ((((chkN ns (liv ns).length).home).getD (lvi ns i_) 0) = ((lvn ns i_).parent))))) rfl (by decide) (fun h175 => ?_) (fun h175 => ?_) ?_
          ·
           refine Qg.skips 31 (by kernel_rfl) ?_
           refine Qg.pure (d := 206) (op := .pick (.tmp 201) (.const (.bool true)) (.tmp 205)) (g := some (11, true)) (v := .bool true) (by kernel_rfl) (by kernel_rfl) (pv_pick_t rfl rfl) ?_
           exact Qg.mid (.cons (or_of_t h175 rfl) (.cons (rfl) (.cons (rfl) (.cons (rfl) (.cons (rfl) (.nil _)))))) rfl
          ·
           have ⟨h176, h177⟩ := or_f h175
           have h178 := of_decide_eq_true (not_f h176)
           have h179 := of_decide_eq_true (not_f h177)
           refine Qg.pure (d := 202) (op := .load 25 (.tmp 1)) (g := some (26, false)) (v := .agg #[.slice p ns.length cap, .int .u32 gen]) (by kernel_rfl) (by kernel_rfl) (pv_load_blk_whole 7 rfl rfl (by kernel_rfl) (by kernel_rfl)) ?_
           refine Qg.pure (d := 203) (op := .move (.tmp 12)) (g := some (26, false)) (v := .int .i64 ((lvi ns i_ : Nat) : Int)) (by kernel_rfl) (by kernel_rfl) (pv_move rfl) ?_
           refine qg_call (d := some 204) (f := 20) (xs := #[.tmp 202, .tmp 203, .const (.int .i64 1)]) (ts := #[25, 3, 3]) (g := some (26, false)) (v := .bool (withinS ns ((lvi ns i_ : Nat) : Int) 1)) (by kernel_rfl) (by kernel_rfl) (by kernel_rfl) rfl (fun w hw => Within_calls ((hT).keep (hw.at_ 14 rfl) (fun k hk => hw.lt 14 rfl hk)) hW) ?_
           refine Qg.pure (d := 205) (op := .unOp .not 4 (.tmp 204)) (g := some (26, false)) (v := .bool (!(withinS ns ((lvi ns i_ : Nat) : Int) 1))) (by kernel_rfl) (by kernel_rfl) (pv_not (b := withinS ns ((lvi ns i_ : Nat) : Int) 1) rfl) ?_
           refine Qg.pure (d := 206) (op := .pick (.tmp 201) (.const (.bool true)) (.tmp 205)) (g := some (11, true)) (v := .bool (!(withinS ns ((lvi ns i_ : Nat) : Int) 1))) (by kernel_rfl) (by kernel_rfl) (pv_pick_f rfl rfl) ?_
           exact Qg.mid (.cons (or_of_f h175 rfl) (.cons (rfl) (.cons (rfl) (.cons (rfl) (.cons (rfl) (.nil _)))))) rfl
          refine Qg.pure (d := 207) (op := .pick (.tmp 186) (.tmp 206) (.const (.bool false))) (g := some (8, false)) (v := .bool (((!(decide ((((chkN ns (liv ns).length).named).getD (lvi ns i_) 0) = 1))) || (!(decide ((((chkN ns (liv ns).length).home).getD (lvi ns i_) 0) = ((lvn ns i_).parent))))) || (!(withinS ns ((lvi ns i_ : Nat) : Int) 1)))) (by kernel_rfl) (by kernel_rfl) (pv_pick_t rfl rfl) ?_
          exact Qg.mid (.cons (and_of_t h171 rfl) (.cons (rfl) (.cons (rfl) (.cons (rfl) (.nil _))))) rfl
         ·
          refine Qg.skips 32 (by kernel_rfl) ?_
          refine Qg.pure (d := 207) (op := .pick (.tmp 186) (.tmp 206) (.const (.bool false))) (g := some (8, false)) (v := .bool false) (by kernel_rfl) (by kernel_rfl) (pv_pick_f rfl rfl) ?_
          exact Qg.mid (.cons (and_of_f h171 rfl) (.cons (rfl) (.cons (rfl) (.cons (rfl) (.nil _))))) rfl
         refine Qg.pure (d := 208) (op := .pick (.tmp 183) (.const (.bool true)) (.tmp 207)) (g := none) (v := .bool ((decide (1 < ((lvi ns i_ : Nat) : Int))) && (((!(decide ((((chkN ns (liv ns).length).named).getD (lvi ns i_) 0) = 1))) || (!(decide ((((chkN ns (liv ns).length).home).getD (lvi ns i_) 0) = ((lvn ns i_).parent))))) || (!(withinS ns ((lvi ns i_ : Nat) : Int) 1))))) (by kernel_rfl) (by kernel_rfl) (pv_pick_f rfl rfl) ?_
         exact Qg.mid (.cons (or_of_f h169 rfl) (.cons (rfl) (.cons (rfl) (.nil _)))) rfl
        refine Qg.pure (d := 14) (op := .assign (.tmp 208)) (g := none) (v := .bool ((!(decide (((lvn ns i_).links) = (2 + (((chkN ns (liv ns).length).subs).getD (lvi ns i_) 0))))) || ((decide (1 < ((lvi ns i_ : Nat) : Int))) && (((!(decide ((((chkN ns (liv ns).length).named).getD (lvi ns i_) 0) = 1))) || (!(decide ((((chkN ns (liv ns).length).home).getD (lvi ns i_) 0) = ((lvn ns i_).parent))))) || (!(withinS ns ((lvi ns i_ : Nat) : Int) 1)))))) (by kernel_rfl) (by kernel_rfl) (pv_assign rfl) ?_
        exact Qg.mid (.cons rfl (.cons rfl (.nil _))) rfl
       refine At.nx (fun _ _ h => h) [14,2] rfl ?_
       refine Ev.sr 1 ?_
       refine Rg.mv 209 14 rfl ?_
       refine Rg.nx (fun _ _ h => h) [209,2] rfl ?_
       refine Ev.cd 209 rfl (fun h180 => ?_) (fun h180 => ?_)
       ·
        refine Ev.sr 1 ?_
        refine Rg.st 4 2 (.const (.bool false)) 8 #[.bool false] rfl rfl rfl ?_
        refine Rg.nx (fun _ _ h => h) [2] rfl ?_
        refine Ev.rt ?_
        refine At.via (Q := Qr) hQr ?_
        refine at_roundRet () 11 rfl (fun w hw => (hw.addFact (show ∃ m, m < (liv ns).length ∧ bad2 ns m = true from ⟨i_, hn_, (by unfold bad2 nameN subsN homeN; rw [h167]; exact h180)⟩)).pick [9, 0, 11, 12, 13, 14, 15] (by decide))
       ·
        have ⟨h181, h182⟩ := or_f h180
        have h183 := of_decide_eq_true (not_f h181)
        refine Ev.sk ?_
        refine At.via (Q := Qr) hQr ?_
        refine at_roundEnd () 11 rfl (fun w hw => (hw.addFact (show ∀ m, m < i_ + 1 → bad2 ns m = false from fun m hm => by rcases Nat.lt_succ_iff_lt_or_eq.1 hm with h1_ | h1_; exact hno m h1_; subst h1_; exact (by unfold bad2 nameN subsN homeN; rw [h167]; exact h180))).pick [2, 3, 4, 5, 6, 7, 8, 9, 0, 11, 12, 13, 14, 15] (by decide))
      ·
       have h184 := of_decide_eq_false h167
       refine Ev.sk ?_
       refine At.nx (fun _ _ h => h) [14,2] rfl ?_
       refine Ev.sr 1 ?_
       refine Rg.mv 209 14 rfl ?_
       refine Rg.nx (fun _ _ h => h) [209,2] rfl ?_
       refine Ev.cd 209 rfl (fun h185 => ?_) (fun h185 => ?_)
       ·
        refine Ev.sr 1 ?_
        refine Rg.st 4 2 (.const (.bool false)) 8 #[.bool false] rfl rfl rfl ?_
        refine Rg.nx (fun _ _ h => h) [2] rfl ?_
        refine Ev.rt ?_
        refine At.via (Q := Qr) hQr ?_
        refine at_roundRet () 11 rfl (fun w hw => (hw.addFact (show ∃ m, m < (liv ns).length ∧ bad2 ns m = true from ⟨i_, hn_, (by unfold bad2 nameN subsN homeN; rw [h167]; exact h185)⟩)).pick [9, 0, 11, 12, 13, 14, 15] (by decide))
       ·
        have ⟨h186, h187⟩ := or_f h185
        have ⟨h188, h189⟩ := or_f h186
        have h190 := of_decide_eq_true (not_f h188)
        have h191 := of_decide_eq_false h189
        have h192 := of_decide_eq_false h187
        refine Ev.sk ?_
        refine At.via (Q := Qr) hQr ?_
        refine at_roundEnd () 11 rfl (fun w hw => (hw.addFact (show ∀ m, m < i_ + 1 → bad2 ns m = false from fun m hm => by rcases Nat.lt_succ_iff_lt_or_eq.1 hm with h1_ | h1_; exact hno m h1_; subst h1_; exact (by unfold bad2 nameN subsN homeN; rw [h167]; exact h185))).pick [2, 3, 4, 5, 6, 7, 8, 9, 0, 11, 12, 13, 14, 15] (by decide))
     ·
      intro Db1 u_
      rw [show (livRows ns al).length = (liv ns).length from livRows_length ns al]
      refine At.factAt 8 rfl (fun hno2 => ?_)
      refine At.nx (fun _ _ h => h) [2] rfl ?_
      refine Ev.sr 1 ?_
      refine Rg.st 4 2 (.const (.bool true)) 7 #[.bool true] rfl rfl rfl ?_
      refine Rg.nx (fun _ _ h => h) [2] rfl ?_
      refine Ev.rt ?_
      refine At.via (Q := Q) hQ ?_
      refine At.leave ?_
      refine LeaveAt.mark 10 rfl ?_
      refine LeaveAt.mark 9 rfl ?_
      refine LeaveAt.one rfl (reads_cell 7 rfl rfl (by kernel_rfl) rfl) ?_
      exact fun w hw => ⟨(by rw [checkS_t hpre_ hbad_ hno1 hno2]; rfl), hw.base_below 11 rfl⟩
     ·
      intro Db1 i_ u_ hn
      refine Ev.factAt 1 rfl (fun hyes => ?_)
      refine ev_ret (by kernel_rfl) ?_
      refine At.via (Q := Q) hQ ?_
      refine At.leave ?_
      refine LeaveAt.mark 3 rfl ?_
      refine LeaveAt.mark 2 rfl ?_
      refine LeaveAt.one rfl (reads_cell 0 rfl rfl (by kernel_rfl) rfl) ?_
      exact fun w hw => ⟨(by rw [checkS_2 hyes]; rfl), hw.base_below 4 rfl⟩
    ·
     intro Db0 i_ u_ hn
     refine Ev.factAt 1 rfl (fun hyes => ?_)
     refine ev_ret (by kernel_rfl) ?_
     refine At.via (Q := Q) hQ ?_
     refine At.leave ?_
     refine LeaveAt.mark 2 rfl ?_
     refine LeaveAt.one rfl (reads_cell 0 rfl rfl (by kernel_rfl) rfl) ?_
     exact fun w hw => ⟨(by rw [checkS_1 hyes]; rfl), hw.base_below 3 rfl⟩

end Go.Proofs.Ytfhhggcdmgjbcaa.Sx
