/-
  A part of the walk of the seat: laws of a small proof system, and contracts of functions, each proved. Conditions: as each theorem says.
-/
import Derived.Test.YtfhhggcdmgjbcaaProg
import Derived.Test.YtfhhggcdmgjbcaaT19
namespace Go.Proofs.Ytfhhggcdmgjbcaa.Sx
open Go Go.RowKit Go.Proofs

def noName : ByteArray := ⟨#[110, 111, 32, 115, 117, 99, 104, 32, 110, 111, 100, 101]⟩
def spoilE (ns : List Node) (k : Nat) : Entry := ⟨noName, (ns.length : Int), (nd ns k).next⟩
/-- what the walk leans on -/
structure Spoil (ns : List Node) (gen : Int) : Prop where
  l0 : ∀ k : Nat, 1 ≤ k → k < ns.length → (nd ns k).kind = 2 → k ≠ 1 → checkS (ns.set k ({ (nd ns k) with parent := (k : Int) } : Node)) gen = false
  l1 : ∀ k : Nat, 1 ≤ k → k < ns.length → checkS (ns.set k ({ (nd ns k) with links := IntKind.i64.wrap ((nd ns k).links + 1) } : Node)) gen = false
  l2 : ∀ k : Nat, 1 ≤ k → k < ns.length → checkS (ns.set k ({ (nd ns k) with wn := 1000000000 } : Node)) gen = false
  l3 : ∀ k : Nat, 1 ≤ k → k < ns.length → k ≠ 1 → (nd ns k).kind ≠ 0 → checkS (ns.set k ({ (nd ns k) with gen := (nd ns 1).gen } : Node)) gen = false
  l4 : ∀ k : Nat, 1 ≤ k → k < ns.length → checkS (ns.set k ({ ({ (nd ns k) with list := (nd ns k).list ++ [spoilE ns k] } : Node) with next := IntKind.u64.wrap ((nd ns k).next + 1) } : Node)) gen = false
  ll : ∀ k : Nat, k < ns.length → (nd ns k).list.length ≤ 1024
  len2 : 2 ≤ ns.length
  len : ns.length ≤ 1025
theorem wrap_i64_range (n : Int) : -9223372036854775808 ≤ IntKind.i64.wrap n ∧ IntKind.i64.wrap n ≤ 9223372036854775807 := by
  unfold IntKind.wrap; simp [IntKind.bits, IntKind.signed]; omega
theorem wrap_u64_range (n : Int) : 0 ≤ IntKind.u64.wrap n ∧ IntKind.u64.wrap n ≤ 18446744073709551615 := by
  rw [IntKind.wrap_u64]; omega
theorem spoilE_wf {ns : List Node} (h : ns.length ≤ 1025) {k : Nat} (hW : NodesWf ns) : EntryWf (spoilE ns k) := by
  have hk := hW.node k
  exact ⟨by show noName.size ≤ _; decide, by show _ ≤ (ns.length : Int); omega, by show (ns.length : Int) ≤ _; omega, hk.next0, hk.next1⟩
theorem entry_app_wf {es : List Entry} {e : Entry} (h : ∀ i, EntryWf (en es i)) (he : EntryWf e) : ∀ i, EntryWf (en (es ++ [e]) i) := by
  intro i
  rcases Nat.lt_trichotomy i es.length with h1 | h1 | h1
  · have := h i
    unfold en at this ⊢
    rw [List.getD_eq_getElem?_getD] at this ⊢
    rw [List.getElem?_append_left h1]; exact this
  · subst h1
    have : en (es ++ [e]) es.length = e := by simp [en]
    rw [this]; exact he
  · have e1 : en (es ++ [e]) i = Entry.zero := by simp [en, List.getD_eq_getElem?_getD, List.getElem?_eq_none (show (es ++ [e]).length ≤ i by simp; omega)]
    have e2 : en es i = Entry.zero := by simp [en, List.getD_eq_getElem?_getD, List.getElem?_eq_none (show es.length ≤ i by omega)]
    rw [e1, ← e2]; exact h i

set_option maxHeartbeats 1000000 in
theorem NodesSpoil_walk {at_ how : Int} {p : Option Addr} {ns : List Node} {al : List Loc} {cap : Nat} {gen : Int} {w : World} (hT : NodesAt (Low w) w p ns al) (hW : NodesWf ns) (ha0 : 0 ≤ at_) (ha1 : at_ ≤ 65535) (hh0 : 0 ≤ how) (hL : checkS ns gen = true → Spoil ns gen) :
  Calls Try.prog 4 #[.agg #[.slice p ns.length cap, .int .u32 gen], .int .u16 at_, .int .u8 how] w (Ret w (.bool true)) := by
 refine calls_ofQ (args := [_, _, _]) [base w (Low w)] Try.func4 (by kernel_rfl) (by kernel_rfl) (Heap.start w) ?_
 intro Q hQ
 have hlen := hW.len
 refine Ev.sr 2 ?_
 refine Rg.bx 3 25 (.tmp 0) rfl fun b1 => ?_
 refine Rg.ac 6 (.bool false) ?_
 refine Rg.nx (fun _ _ h => h) [6,3,2,1] rfl ?_
 refine Ev.sq ?_
 refine Ev.sr 7 ?_
 refine Rg.p 10 (.load 25 (.tmp 3)) (v := .agg #[.slice p ns.length cap, .int .u32 gen]) (pv_load_blk_whole 0 rfl rfl (by kernel_rfl) (by kernel_rfl)) ?_
 refine Rg.cn (T := Bool) (some 11) 14 #[.tmp 10] #[25] (v := fun g2 => .bool g2) (L := fun g2 => []) rfl (fun w hw => great_calls ((hT).keep (hw.at_ 1 rfl) (fun k hk => hw.lt 1 rfl hk)) hW) ?_
 rintro g2 _
 dsimp only [putE, List.append, HAppend.hAppend, Append.append]
 refine Rg.mv 12 11 rfl ?_
 refine Rg.go 7 16 12 (!(checkS ns gen)) rfl (fun h1 => ?_) (fun h1 => ?_) ?_
 ·
  refine Rg.skips 6 (by kernel_rfl) ?_
  refine Rg.p 16 (.pick (.tmp 12) (.const (.bool true)) (.tmp 15)) (pv_pick_t rfl rfl) ?_
  exact Rg.em 12 h1 (ot_t h1) rfl rfl
 ·
  refine Rg.pg 2 false 13 (.load 25 (.tmp 3)) (v := .agg #[.slice p ns.length cap, .int .u32 gen]) (pv_load_blk_whole 0 rfl rfl (by kernel_rfl) (by kernel_rfl)) ?_
  refine rg_call (d := some 14) (f := 15) (xs := #[.tmp 13]) (ts := #[25]) (g := some (2, false)) (v := .bool (checkS ns gen)) (by kernel_rfl) (by kernel_rfl) (by kernel_rfl) rfl (fun w hw => Check_calls ((hT).keep (hw.at_ 1 rfl) (fun k hk => hw.lt 1 rfl hk)) hW) ?_
  refine Rg.pg 2 false 15 (.unOp .not 4 (.tmp 14)) (pv_not (b := checkS ns gen) rfl) ?_
  refine Rg.p 16 (.pick (.tmp 12) (.const (.bool true)) (.tmp 15)) (pv_pick_f rfl rfl) ?_
  exact Rg.em 12 h1 (ot_f h1) rfl rfl
 refine Rg.nx (fun _ _ h => h) [16,6,3,2,1] rfl ?_
 refine Ev.cd 16 rfl (fun h2 => ?_) (fun h2 => ?_)
 ·
  refine Ev.sr 2 ?_
  refine Rg.cl (some 17) 16 #[] #[] (v := .bool true) rfl (fun w hw => lives_calls) ?_
  refine Rg.as 6 17 rfl ?_
  refine Rg.nx (fun _ _ h => h) [6,3,2,1] rfl ?_
  refine Ev.rt ?_
  refine At.via (Q := Q) hQ ?_
  refine At.ret1 rfl rfl rfl ?_
  exact fun w hw => ⟨rfl, hw.base_below 1 rfl⟩
 ·
  have ⟨h3, h4⟩ := or_f h2
  have h5 := not_f h4
  have hck_ : checkS ns gen = true := by simpa using (or_f h2).2
  have hS := hL hck_
  have hl2_ := hS.len2
  have hl_ := hS.len
  refine Ev.sk ?_
  refine At.nx (fun _ _ h => h) [6,3,2,1] rfl ?_
  refine Ev.sr 4 ?_
  refine Rg.fa 18 25 3 0 0 rfl ?_
  refine Rg.ld 19 22 18 0 rfl rfl rfl ?_
  refine Rg.ownNil 44 25 ?_
  refine rg_append0 (d := 20) (t := 22) (e := 44) (sz := 25) (x := .const (.slice none 0 0)) (y := .tmp 19) (ty := 22) (g := none) (m := ns.length) (ys := flat ns al) (zv := .agg #[.int .u32 0, .int .u32 0, .int .u32 0, .int .u32 0, .int .u32 0, .int .i64 0, .int .u32 0, .int .u32 0, .int .u32 0, .int .u32 0, .int .u32 0, .int .u32 0, .slice none 0 0, .int .u8 0, .int .u8 0, .int .u8 0, .int .u8 0, .int .u8 0, .int .u8 0, .int .u8 0, .int .u8 0, .string ⟨#[]⟩, .slice none 0 0, .int .i64 0, .int .u64 0]) 0 (by kernel_rfl) (by kernel_rfl) rfl rfl (by kernel_rfl) (by kernel_rfl) (by kernel_rfl) (by kernel_rfl) (by kernel_rfl) rfl rfl (flat_length _ _) (flat_one _ _) (fun w hw => firstCells_nodes (hT.keep (hw.at_ 2 rfl) (fun _ h => h))) (by show (2 * (ns.length) + 192) * bytesT Try.prog 44 ≤ 281474976710656; rw [show bytesT Try.prog 44 = 144 from by kernel_rfl]; omega) (by kernel_rfl) ?_
  intro p4 c5 hc_c5 he_c5
  refine Rg.fac (fun w hw => own_some hw 0 rfl (by omega)) (fun hs_ => ?_)
  obtain ⟨bl, rfl⟩ := hs_
  refine Rg.as 7 20 rfl ?_
  refine Rg.nx (fun _ _ h => h) [7,6,3,2,1] rfl ?_
  refine Ev.sr 8 ?_
  refine Rg.mv 21 1 rfl ?_
  refine Rg.p 22 (.convert 52 3 (.tmp 21)) (pv_convertb (q' := .i64) rfl (by kernel_rfl) (by kernel_rfl) (in_i64 (by omega) (by omega))) ?_
  refine Rg.mv 23 7 rfl ?_
  refine Rg.p 24 (.call { callee := .builtin .len, args := #[.tmp 23], argTypes := #[22] }) (pv_len_slice rfl (by kernel_rfl)) ?_
  refine Rg.p 25 (.binOp .sub 3 (.tmp 24) (.const (.int .i64 1)) 3) (pv_subb rfl rfl (in_i64 (by omega) (by omega))) ?_
  refine Rg.p 26 (.binOp .rem 3 (.tmp 22) (.tmp 25) 3) (v := .int .i64 (at_ % ((ns.length : Int) - 1))) (pv_rem rfl rfl (by omega) (by omega)) ?_
  have hr1_ := Int.emod_nonneg at_ (show (ns.length : Int) - 1 ≠ 0 by omega)
  have hr2_ := Int.emod_lt_of_pos at_ (show 0 < (ns.length : Int) - 1 by omega)
  refine Rg.p 27 (.binOp .add 3 (.const (.int .i64 1)) (.tmp 26) 3) (pv_addb rfl rfl (in_i64 (by omega) (by omega))) ?_
  obtain ⟨k, hk1_, hk2_, hk3_⟩ : ∃ k : Nat, 1 ≤ k ∧ k < ns.length ∧ 1 + (at_ % ((ns.length : Int) - 1)) = (k : Int) := ⟨(1 + (at_ % ((ns.length : Int) - 1))).toNat, by omega, by omega, by omega⟩
  have hlx_ := hS.ll k hk2_
  rw [hk3_]
  refine Rg.as 8 27 rfl ?_
  refine Rg.nx (fun _ _ h => h) [8,7,6,3,2] rfl ?_
  refine Ev.sr 6 ?_
  refine Rg.mv 28 7 rfl ?_
  refine Rg.mv 29 8 rfl ?_
  refine Rg.p 30 (.indexAddr 22 (.tmp 28) (.tmp 29)) (v := .pointer (some ⟨bl, 0 + k * 25, none⟩)) (pv_indexN rfl rfl (e := 44) (sz := 25) (k := k) (by kernel_rfl) (by omega)) ?_
  refine Rg.p 31 (.load 44 (.tmp 30)) (v := .agg ((nd ns k).cells (lc al k))) (pv_load_ownnode (ns := ns) (al := al) 0 rfl rfl (by omega) (by kernel_rfl) (by kernel_rfl)) ?_
  refine Rg.al 9 44 (.agg #[.int .u32 0, .int .u32 0, .int .u32 0, .int .u32 0, .int .u32 0, .int .i64 0, .int .u32 0, .int .u32 0, .int .u32 0, .int .u32 0, .int .u32 0, .int .u32 0, .slice none 0 0, .int .u8 0, .int .u8 0, .int .u8 0, .int .u8 0, .int .u8 0, .int .u8 0, .int .u8 0, .int .u8 0, .string ⟨#[]⟩, .slice none 0 0, .int .i64 0, .int .u64 0]) fun b6 => ?_
  refine Rg.st 44 9 (.tmp 31) 0 ((nd ns k).cells (lc al k)) rfl rfl rfl ?_
  refine Rg.nx (fun _ _ h => h) [9,8,7,6,3,2] rfl ?_
  refine Ev.sq ?_
  refine Ev.sr 2 ?_
  refine Rg.mv 32 2 rfl ?_
  refine Rg.p 33 (.binOp .rem 5 (.tmp 32) (.const (.int .u8 5)) 5) (v := .int .u8 (how % 5)) (pv_rem rfl rfl (by omega) (by omega)) ?_
  refine Rg.nx (fun _ _ h => h) [33,9,8,7,6,3] rfl ?_
  refine Ev.bk 0 ?_
  refine Ev.sr 2 ?_
  refine Rg.p 50 (.binOp .eql 5 (.tmp 33) (.const (.int .u8 0)) 5) (pv_eql rfl rfl) ?_
  refine Rg.as 49 50 rfl ?_
  refine Rg.nx (fun _ _ h => h) [49,33,9,8,7,6,3] rfl ?_
  refine Ev.cd 49 rfl (fun h6 => ?_) (fun h6 => ?_)
  ·
   have h7 := of_decide_eq_true h6
   refine Ev.sq ?_
   refine Ev.sr 7 ?_
   refine Rg.fa 51 44 9 0 0 rfl ?_
   refine Rg.ld 52 33 51 0 rfl rfl rfl ?_
   refine Rg.p 53 (.binOp .neq 33 (.tmp 52) (.const (.int .u32 2)) 33) (pv_neq rfl rfl) ?_
   refine Rg.mv 54 53 rfl ?_
   refine Rg.go 7 57 54 (decide ((k : Int) = 1)) rfl (fun h8 => ?_) (fun h8 => ?_) ?_
   ·
    refine Rg.skips 6 (by kernel_rfl) ?_
    refine Rg.p 57 (.pick (.tmp 54) (.const (.bool true)) (.tmp 56)) (pv_pick_t rfl rfl) ?_
    exact Rg.em 54 h8 (ot_t h8) rfl rfl
   ·
    have h9 := of_decide_eq_true (not_f h8)
    refine Rg.pg 3 false 55 (.move (.tmp 8)) (pv_move rfl) ?_
    refine Rg.pg 3 false 56 (.binOp .eql 3 (.tmp 55) (.const (.int .i64 1)) 3) (pv_eql rfl rfl) ?_
    refine Rg.p 57 (.pick (.tmp 54) (.const (.bool true)) (.tmp 56)) (pv_pick_f rfl rfl) ?_
    exact Rg.em 54 h8 (ot_f h8) rfl rfl
   refine Rg.nx (fun _ _ h => h) [57,9,8,7,6,3] rfl ?_
   refine Ev.cd 57 rfl (fun h10 => ?_) (fun h10 => ?_)
   ·
    refine Ev.sr 2 ?_
    refine Rg.cl (some 58) 16 #[] #[] (v := .bool true) rfl (fun w hw => lives_calls) ?_
    refine Rg.as 6 58 rfl ?_
    refine Rg.nx (fun _ _ h => h) [9,8,7,6,3] rfl ?_
    refine Ev.rt ?_
    refine At.via (Q := Q) hQ ?_
    refine At.ret1 rfl rfl rfl ?_
    exact fun w hw => ⟨rfl, hw.base_below 3 rfl⟩
   ·
    have ⟨h11, h12⟩ := or_f h10
    have h13 := of_decide_eq_true (not_f h11)
    have h14 := of_decide_eq_false h12
    refine Ev.sk ?_
    refine At.nx (fun _ _ h => h) [9,8,7,6,3] rfl ?_
    refine Ev.rg 3 ?_
    refine Rg.mv 59 8 rfl ?_
    refine Rg.fa 60 44 9 13 23 rfl ?_
    refine Rg.st 3 60 (.tmp 59) 0 (({ (nd ns k) with parent := (k : Int) } : Node).cells (lc al k)) rfl rfl rfl ?_
    refine Rg.nx (fun _ _ h => h) [9,8,7,6,3] rfl ?_
    refine Ev.sr 5 ?_
    refine Rg.mv 86 7 rfl ?_
    refine Rg.mv 87 8 rfl ?_
    refine Rg.p 88 (.load 44 (.tmp 9)) (v := .agg (({ (nd ns k) with parent := (k : Int) } : Node).cells (lc al k))) (pv_load_blk_whole 0 rfl rfl (by kernel_rfl) (by kernel_rfl)) ?_
    refine Rg.p 89 (.indexAddr 22 (.tmp 86) (.tmp 87)) (v := .pointer (some ⟨bl, 0 + k * 25, none⟩)) (pv_indexN rfl rfl (e := 44) (sz := 25) (k := k) (by kernel_rfl) (by omega)) ?_
    refine rg_store_ownV (t := 44) (x := .tmp 89) (y := .tmp 88) (g := none) (xs' := flat (ns.set k ({ (nd ns k) with parent := (k : Int) } : Node)) (al.set k (lc al k))) 1 (by kernel_rfl) (by kernel_rfl) rfl rfl rfl (by kernel_rfl) (by kernel_rfl) (by rw [flat_length]; show 0 + k * 25 + 25 ≤ _; omega) (by rw [show 0 + k * 25 = k * 25 + 0 by omega]; exact flat_put (by omega) hT.len (Nat.le_of_ble_eq_true (by kernel_rfl)) (by kernel_rfl)) ?_
    refine Rg.nx (fun _ _ h => h) [7,6,3] rfl ?_
    refine Ev.sr 10 ?_
    refine Rg.mv 90 7 rfl ?_
    refine Rg.fa 91 25 3 1 1 rfl ?_
    refine Rg.ld 92 23 91 2 rfl rfl rfl ?_
    refine Rg.p 93 (.build 25 #[(0, .tmp 90), (1, .tmp 92)]) (v := .agg #[.slice (some ⟨bl, 0, none⟩) ns.length c5, .int .u32 gen]) (pv_build (parts := [(0, .tmp 90), (1, .tmp 92)]) (vs := [.slice (some ⟨bl, 0, none⟩) ns.length c5, .int .u32 gen]) (fs := [(0, 1), (1, 1)]) (zv := .agg #[.slice none 0 0, .int .u32 0]) (cs := #[.slice (some ⟨bl, 0, none⟩) ns.length c5, .int .u32 gen]) rfl (by kernel_rfl) (by kernel_rfl) (by kernel_rfl)) ?_
    refine Rg.cl (some 94) 15 #[.tmp 93] #[25] (v := .bool (checkS (ns.set k ({ (nd ns k) with parent := (k : Int) } : Node)) gen)) rfl (fun w hw => by have h_ := Check_calls (cap := c5) (gen := gen) (turned_here hw 1 3 rfl rfl hT hk2_ (have h_ := hT.node k hk2_; ⟨h_.data.keep (fun q hq => (hw.baseLe 3 rfl).2 q hq) (fun q hq => Nat.lt_of_lt_of_le hq (hw.baseLe 3 rfl).1), h_.list.keep (fun q hq => (hw.baseLe 3 rfl).2 q hq) (fun q hq => Nat.lt_of_lt_of_le hq (hw.baseLe 3 rfl).1), h_.dcap, h_.lcap⟩)) (nodes_wf_set hW { hW.node k with parent0 := (by show _ ≤ (k : Int); omega), parent1 := (by show (k : Int) ≤ _; omega) }); rw [List.length_set] at h_; exact h_) ?_
    refine Rg.p 95 (.unOp .not 4 (.tmp 94)) (pv_not (b := checkS (ns.set k ({ (nd ns k) with parent := (k : Int) } : Node)) gen) rfl) ?_
    refine Rg.mv 96 95 rfl ?_
    refine Rg.ga 9 98 96 true rfl (fun h15 => ?_) (fun h15 => ?_) ?_
    ·
     have h16 := not_t h15
     refine rg_call (d := some 97) (f := 16) (xs := #[]) (ts := #[]) (g := some (6, true)) (v := .bool true) (by kernel_rfl) (by kernel_rfl) (by kernel_rfl) rfl (fun w hw => lives_calls) ?_
     refine Rg.p 98 (.pick (.tmp 96) (.tmp 97) (.const (.bool false))) (pv_pick_t rfl rfl) ?_
     exact Rg.em 96 h15 (at_t h15) rfl rfl
    ·
     refine Rg.skips 8 (by kernel_rfl) ?_
     refine Rg.p 98 (.pick (.tmp 96) (.tmp 97) (.const (.bool false))) (pv_pick_f rfl rfl) ?_
     exact Rg.em 96 h15 (at_f h15) rfl rfl
    refine Rg.as 6 98 rfl ?_
    refine Rg.nx (fun _ _ h => h) [6] rfl ?_
    refine Ev.rt ?_
    refine At.via (Q := Q) hQ ?_
    refine At.ret1 rfl rfl rfl ?_
    exact fun w hw => ⟨(by rw [hS.l0 k hk1_ hk2_ (by simpa using (or_f h10).1) (by have h_ := (or_f h10).2; intro e_; subst e_; simp at h_)]; rfl), hw.base_below 3 rfl⟩
  ·
   have h17 := of_decide_eq_false h6
   refine Ev.sr 2 ?_
   refine Rg.p 62 (.binOp .eql 5 (.tmp 33) (.const (.int .u8 1)) 5) (pv_eql rfl rfl) ?_
   refine Rg.as 61 62 rfl ?_
   refine Rg.nx (fun _ _ h => h) [61,33,9,8,7,6,3] rfl ?_
   refine Ev.cd 61 rfl (fun h18 => ?_) (fun h18 => ?_)
   ·
    have h19 := of_decide_eq_true h18
    refine Ev.rg 5 ?_
    refine Rg.fa 63 44 9 5 5 rfl ?_
    refine Rg.ld 64 3 63 0 rfl rfl rfl ?_
    refine Rg.p 65 (.binOp .add 3 (.tmp 64) (.const (.int .i64 1)) 3) (v := .int .i64 (IntKind.i64.wrap (((nd ns k).links) + 1))) (pv_add rfl rfl) ?_
    refine Rg.fa 66 44 9 5 5 rfl ?_
    refine Rg.st 3 66 (.tmp 65) 0 (({ (nd ns k) with links := IntKind.i64.wrap (((nd ns k).links) + 1) } : Node).cells (lc al k)) rfl rfl rfl ?_
    refine Rg.nx (fun _ _ h => h) [9,8,7,6,3] rfl ?_
    refine Ev.sr 5 ?_
    refine Rg.mv 86 7 rfl ?_
    refine Rg.mv 87 8 rfl ?_
    refine Rg.p 88 (.load 44 (.tmp 9)) (v := .agg (({ (nd ns k) with links := IntKind.i64.wrap (((nd ns k).links) + 1) } : Node).cells (lc al k))) (pv_load_blk_whole 0 rfl rfl (by kernel_rfl) (by kernel_rfl)) ?_
    refine Rg.p 89 (.indexAddr 22 (.tmp 86) (.tmp 87)) (v := .pointer (some ⟨bl, 0 + k * 25, none⟩)) (pv_indexN rfl rfl (e := 44) (sz := 25) (k := k) (by kernel_rfl) (by omega)) ?_
    refine rg_store_ownV (t := 44) (x := .tmp 89) (y := .tmp 88) (g := none) (xs' := flat (ns.set k ({ (nd ns k) with links := IntKind.i64.wrap (((nd ns k).links) + 1) } : Node)) (al.set k (lc al k))) 1 (by kernel_rfl) (by kernel_rfl) rfl rfl rfl (by kernel_rfl) (by kernel_rfl) (by rw [flat_length]; show 0 + k * 25 + 25 ≤ _; omega) (by rw [show 0 + k * 25 = k * 25 + 0 by omega]; exact flat_put (by omega) hT.len (Nat.le_of_ble_eq_true (by kernel_rfl)) (by kernel_rfl)) ?_
    refine Rg.nx (fun _ _ h => h) [7,6,3] rfl ?_
    refine Ev.sr 10 ?_
    refine Rg.mv 90 7 rfl ?_
    refine Rg.fa 91 25 3 1 1 rfl ?_
    refine Rg.ld 92 23 91 2 rfl rfl rfl ?_
    refine Rg.p 93 (.build 25 #[(0, .tmp 90), (1, .tmp 92)]) (v := .agg #[.slice (some ⟨bl, 0, none⟩) ns.length c5, .int .u32 gen]) (pv_build (parts := [(0, .tmp 90), (1, .tmp 92)]) (vs := [.slice (some ⟨bl, 0, none⟩) ns.length c5, .int .u32 gen]) (fs := [(0, 1), (1, 1)]) (zv := .agg #[.slice none 0 0, .int .u32 0]) (cs := #[.slice (some ⟨bl, 0, none⟩) ns.length c5, .int .u32 gen]) rfl (by kernel_rfl) (by kernel_rfl) (by kernel_rfl)) ?_
    refine Rg.cl (some 94) 15 #[.tmp 93] #[25] (v := .bool (checkS (ns.set k ({ (nd ns k) with links := IntKind.i64.wrap (((nd ns k).links) + 1) } : Node)) gen)) rfl (fun w hw => by have h_ := Check_calls (cap := c5) (gen := gen) (turned_here hw 1 3 rfl rfl hT hk2_ (have h_ := hT.node k hk2_; ⟨h_.data.keep (fun q hq => (hw.baseLe 3 rfl).2 q hq) (fun q hq => Nat.lt_of_lt_of_le hq (hw.baseLe 3 rfl).1), h_.list.keep (fun q hq => (hw.baseLe 3 rfl).2 q hq) (fun q hq => Nat.lt_of_lt_of_le hq (hw.baseLe 3 rfl).1), h_.dcap, h_.lcap⟩)) (nodes_wf_set hW { hW.node k with links0 := (wrap_i64_range _).1, links1 := (wrap_i64_range _).2 }); rw [List.length_set] at h_; exact h_) ?_
    refine Rg.p 95 (.unOp .not 4 (.tmp 94)) (pv_not (b := checkS (ns.set k ({ (nd ns k) with links := IntKind.i64.wrap (((nd ns k).links) + 1) } : Node)) gen) rfl) ?_
    refine Rg.mv 96 95 rfl ?_
    refine Rg.ga 9 98 96 true rfl (fun h20 => ?_) (fun h20 => ?_) ?_
    ·
     have h21 := not_t h20
     refine rg_call (d := some 97) (f := 16) (xs := #[]) (ts := #[]) (g := some (6, true)) (v := .bool true) (by kernel_rfl) (by kernel_rfl) (by kernel_rfl) rfl (fun w hw => lives_calls) ?_
     refine Rg.p 98 (.pick (.tmp 96) (.tmp 97) (.const (.bool false))) (pv_pick_t rfl rfl) ?_
     exact Rg.em 96 h20 (at_t h20) rfl rfl
    ·
     refine Rg.skips 8 (by kernel_rfl) ?_
     refine Rg.p 98 (.pick (.tmp 96) (.tmp 97) (.const (.bool false))) (pv_pick_f rfl rfl) ?_
     exact Rg.em 96 h20 (at_f h20) rfl rfl
    refine Rg.as 6 98 rfl ?_
    refine Rg.nx (fun _ _ h => h) [6] rfl ?_
    refine Ev.rt ?_
    refine At.via (Q := Q) hQ ?_
    refine At.ret1 rfl rfl rfl ?_
    exact fun w hw => ⟨(by rw [hS.l1 k hk1_ hk2_]; rfl), hw.base_below 3 rfl⟩
   ·
    have h22 := of_decide_eq_false h18
    refine Ev.sr 2 ?_
    refine Rg.p 68 (.binOp .eql 5 (.tmp 33) (.const (.int .u8 2)) 5) (pv_eql rfl rfl) ?_
    refine Rg.as 67 68 rfl ?_
    refine Rg.nx (fun _ _ h => h) [67,33,9,8,7,6,3] rfl ?_
    refine Ev.cd 67 rfl (fun h23 => ?_) (fun h23 => ?_)
    ·
     have h24 := of_decide_eq_true h23
     refine Ev.rg 3 ?_
     refine Rg.fa 69 44 9 7 8 rfl ?_
     refine Rg.fa 70 36 69 1 1 rfl ?_
     refine Rg.st 23 70 (.const (.int .u32 1000000000)) 0 (({ (nd ns k) with wn := 1000000000 } : Node).cells (lc al k)) rfl rfl rfl ?_
     refine Rg.nx (fun _ _ h => h) [9,8,7,6,3] rfl ?_
     refine Ev.sr 5 ?_
     refine Rg.mv 86 7 rfl ?_
     refine Rg.mv 87 8 rfl ?_
     refine Rg.p 88 (.load 44 (.tmp 9)) (v := .agg (({ (nd ns k) with wn := 1000000000 } : Node).cells (lc al k))) (pv_load_blk_whole 0 rfl rfl (by kernel_rfl) (by kernel_rfl)) ?_
     refine Rg.p 89 (.indexAddr 22 (.tmp 86) (.tmp 87)) (v := .pointer (some ⟨bl, 0 + k * 25, none⟩)) (pv_indexN rfl rfl (e := 44) (sz := 25) (k := k) (by kernel_rfl) (by omega)) ?_
     refine rg_store_ownV (t := 44) (x := .tmp 89) (y := .tmp 88) (g := none) (xs' := flat (ns.set k ({ (nd ns k) with wn := 1000000000 } : Node)) (al.set k (lc al k))) 1 (by kernel_rfl) (by kernel_rfl) rfl rfl rfl (by kernel_rfl) (by kernel_rfl) (by rw [flat_length]; show 0 + k * 25 + 25 ≤ _; omega) (by rw [show 0 + k * 25 = k * 25 + 0 by omega]; exact flat_put (by omega) hT.len (Nat.le_of_ble_eq_true (by kernel_rfl)) (by kernel_rfl)) ?_
     refine Rg.nx (fun _ _ h => h) [7,6,3] rfl ?_
     refine Ev.sr 10 ?_
     refine Rg.mv 90 7 rfl ?_
     refine Rg.fa 91 25 3 1 1 rfl ?_
     refine Rg.ld 92 23 91 2 rfl rfl rfl ?_
     refine Rg.p 93 (.build 25 #[(0, .tmp 90), (1, .tmp 92)]) (v := .agg #[.slice (some ⟨bl, 0, none⟩) ns.length c5, .int .u32 gen]) (pv_build (parts := [(0, .tmp 90), (1, .tmp 92)]) (vs := [.slice (some ⟨bl, 0, none⟩) ns.length c5, .int .u32 gen]) (fs := [(0, 1), (1, 1)]) (zv := .agg #[.slice none 0 0, .int .u32 0]) (cs := #[.slice (some ⟨bl, 0, none⟩) ns.length c5, .int .u32 gen]) rfl (by kernel_rfl) (by kernel_rfl) (by kernel_rfl)) ?_
     refine Rg.cl (some 94) 15 #[.tmp 93] #[25] (v := .bool (checkS (ns.set k ({ (nd ns k) with wn := 1000000000 } : Node)) gen)) rfl (fun w hw => by have h_ := Check_calls (cap := c5) (gen := gen) (turned_here hw 1 3 rfl rfl hT hk2_ (have h_ := hT.node k hk2_; ⟨h_.data.keep (fun q hq => (hw.baseLe 3 rfl).2 q hq) (fun q hq => Nat.lt_of_lt_of_le hq (hw.baseLe 3 rfl).1), h_.list.keep (fun q hq => (hw.baseLe 3 rfl).2 q hq) (fun q hq => Nat.lt_of_lt_of_le hq (hw.baseLe 3 rfl).1), h_.dcap, h_.lcap⟩)) (nodes_wf_set hW { hW.node k with u := (let h_ := (hW.node k).u; ⟨h_.1, h_.2.1, h_.2.2.1, h_.2.2.2.1, h_.2.2.2.2.1, h_.2.2.2.2.2.1, ⟨(by show (0 : Int) ≤ 1000000000; decide), (by show (1000000000 : Int) ≤ 4294967295; decide)⟩, h_.2.2.2.2.2.2.2⟩) }); rw [List.length_set] at h_; exact h_) ?_
     refine Rg.p 95 (.unOp .not 4 (.tmp 94)) (pv_not (b := checkS (ns.set k ({ (nd ns k) with wn := 1000000000 } : Node)) gen) rfl) ?_
     refine Rg.mv 96 95 rfl ?_
     refine Rg.ga 9 98 96 true rfl (fun h25 => ?_) (fun h25 => ?_) ?_
     ·
      have h26 := not_t h25
      refine rg_call (d := some 97) (f := 16) (xs := #[]) (ts := #[]) (g := some (6, true)) (v := .bool true) (by kernel_rfl) (by kernel_rfl) (by kernel_rfl) rfl (fun w hw => lives_calls) ?_
      refine Rg.p 98 (.pick (.tmp 96) (.tmp 97) (.const (.bool false))) (pv_pick_t rfl rfl) ?_
      exact Rg.em 96 h25 (at_t h25) rfl rfl
     ·
      refine Rg.skips 8 (by kernel_rfl) ?_
      refine Rg.p 98 (.pick (.tmp 96) (.tmp 97) (.const (.bool false))) (pv_pick_f rfl rfl) ?_
      exact Rg.em 96 h25 (at_f h25) rfl rfl
     refine Rg.as 6 98 rfl ?_
     refine Rg.nx (fun _ _ h => h) [6] rfl ?_
     refine Ev.rt ?_
     refine At.via (Q := Q) hQ ?_
     refine At.ret1 rfl rfl rfl ?_
     exact fun w hw => ⟨(by rw [hS.l2 k hk1_ hk2_]; rfl), hw.base_below 3 rfl⟩
    ·
     have h27 := of_decide_eq_false h23
     refine Ev.sr 2 ?_
     refine Rg.p 72 (.binOp .eql 5 (.tmp 33) (.const (.int .u8 3)) 5) (pv_eql rfl rfl) ?_
     refine Rg.as 71 72 rfl ?_
     refine Rg.nx (fun _ _ h => h) [71,9,8,7,6,3] rfl ?_
     refine Ev.cd 71 rfl (fun h28 => ?_) (fun h28 => ?_)
     ·
      have h29 := of_decide_eq_true h28
      refine Ev.sq ?_
      refine Ev.sr 7 ?_
      refine Rg.mv 73 8 rfl ?_
      refine Rg.p 74 (.binOp .eql 3 (.tmp 73) (.const (.int .i64 1)) 3) (pv_eql rfl rfl) ?_
      refine Rg.mv 75 74 rfl ?_
      refine Rg.go 7 79 75 (decide (((nd ns k).kind) = 0)) rfl (fun h30 => ?_) (fun h30 => ?_) ?_
      ·
       refine Rg.skips 6 (by kernel_rfl) ?_
       refine Rg.p 79 (.pick (.tmp 75) (.const (.bool true)) (.tmp 78)) (pv_pick_t rfl rfl) ?_
       exact Rg.em 75 h30 (ot_t h30) rfl rfl
      ·
       have h31 := of_decide_eq_false h30
       refine Rg.pg 2 false 76 (.fieldAddr 44 (.tmp 9) 0) (pv_fieldAddr rfl (n := 0) (by kernel_rfl)) ?_
       refine Rg.pg 2 false 77 (.load 33 (.tmp 76)) (v := .int .u32 ((nd ns k).kind)) (pv_load_blk 0 rfl rfl (by kernel_rfl) rfl) ?_
       refine Rg.pg 2 false 78 (.binOp .eql 33 (.tmp 77) (.const (.int .u32 0)) 33) (pv_eql rfl rfl) ?_
       refine Rg.p 79 (.pick (.tmp 75) (.const (.bool true)) (.tmp 78)) (pv_pick_f rfl rfl) ?_
       exact Rg.em 75 h30 (ot_f h30) rfl rfl
      refine Rg.nx (fun _ _ h => h) [79,9,8,7,6,3] rfl ?_
      refine Ev.cd 79 rfl (fun h32 => ?_) (fun h32 => ?_)
      ·
       refine Ev.sr 2 ?_
       refine Rg.cl (some 80) 16 #[] #[] (v := .bool true) rfl (fun w hw => lives_calls) ?_
       refine Rg.as 6 80 rfl ?_
       refine Rg.nx (fun _ _ h => h) [9,8,7,6,3] rfl ?_
       refine Ev.rt ?_
       refine At.via (Q := Q) hQ ?_
       refine At.ret1 rfl rfl rfl ?_
       exact fun w hw => ⟨rfl, hw.base_below 3 rfl⟩
      ·
       have ⟨h33, h34⟩ := or_f h32
       have h35 := of_decide_eq_false h33
       have h36 := of_decide_eq_false h34
       refine Ev.sk ?_
       refine At.nx (fun _ _ h => h) [9,8,7,6,3] rfl ?_
       refine Ev.rg 6 ?_
       refine Rg.mv 81 7 rfl ?_
       refine Rg.p 82 (.indexAddr 22 (.tmp 81) (.const (.int .i64 1))) (v := .pointer (some ⟨bl, 0 + (1 : Int).toNat * 25, none⟩)) (pv_indexAddr rfl rfl (e := 44) (sz := 25) (by kernel_rfl) (by omega) (by omega)) ?_
       refine Rg.fa 83 44 82 1 1 rfl ?_
       refine Rg.p 84 (.load 23 (.tmp 83)) (v := .int .u32 ((nd ns 1).gen)) (pv_load_ownfield (ns := ns) (al := al) (i := 1) (f := 1) 1 rfl rfl (by omega) (by kernel_rfl) rfl) ?_
       refine Rg.fa 85 44 9 1 1 rfl ?_
       refine Rg.st 23 85 (.tmp 84) 0 (({ (nd ns k) with gen := (nd ns 1).gen } : Node).cells (lc al k)) rfl rfl rfl ?_
       refine Rg.nx (fun _ _ h => h) [9,8,7,6,3] rfl ?_
       refine Ev.sr 5 ?_
       refine Rg.mv 86 7 rfl ?_
       refine Rg.mv 87 8 rfl ?_
       refine Rg.p 88 (.load 44 (.tmp 9)) (v := .agg (({ (nd ns k) with gen := (nd ns 1).gen } : Node).cells (lc al k))) (pv_load_blk_whole 0 rfl rfl (by kernel_rfl) (by kernel_rfl)) ?_
       refine Rg.p 89 (.indexAddr 22 (.tmp 86) (.tmp 87)) (v := .pointer (some ⟨bl, 0 + k * 25, none⟩)) (pv_indexN rfl rfl (e := 44) (sz := 25) (k := k) (by kernel_rfl) (by omega)) ?_
       refine rg_store_ownV (t := 44) (x := .tmp 89) (y := .tmp 88) (g := none) (xs' := flat (ns.set k ({ (nd ns k) with gen := (nd ns 1).gen } : Node)) (al.set k (lc al k))) 1 (by kernel_rfl) (by kernel_rfl) rfl rfl rfl (by kernel_rfl) (by kernel_rfl) (by rw [flat_length]; show 0 + k * 25 + 25 ≤ _; omega) (by rw [show 0 + k * 25 = k * 25 + 0 by omega]; exact flat_put (by omega) hT.len (Nat.le_of_ble_eq_true (by kernel_rfl)) (by kernel_rfl)) ?_
       refine Rg.nx (fun _ _ h => h) [7,6,3] rfl ?_
       refine Ev.sr 10 ?_
       refine Rg.mv 90 7 rfl ?_
       refine Rg.fa 91 25 3 1 1 rfl ?_
       refine Rg.ld 92 23 91 2 rfl rfl rfl ?_
       refine Rg.p 93 (.build 25 #[(0, .tmp 90), (1, .tmp 92)]) (v := .agg #[.slice (some ⟨bl, 0, none⟩) ns.length c5, .int .u32 gen]) (pv_build (parts := [(0, .tmp 90), (1, .tmp 92)]) (vs := [.slice (some ⟨bl, 0, none⟩) ns.length c5, .int .u32 gen]) (fs := [(0, 1), (1, 1)]) (zv := .agg #[.slice none 0 0, .int .u32 0]) (cs := #[.slice (some ⟨bl, 0, none⟩) ns.length c5, .int .u32 gen]) rfl (by kernel_rfl) (by kernel_rfl) (by kernel_rfl)) ?_
       refine Rg.cl (some 94) 15 #[.tmp 93] #[25] (v := .bool (checkS (ns.set k ({ (nd ns k) with gen := (nd ns 1).gen } : Node)) gen)) rfl (fun w hw => by have h_ := Check_calls (cap := c5) (gen := gen) (turned_here hw 1 3 rfl rfl hT hk2_ (have h_ := hT.node k hk2_; ⟨h_.data.keep (fun q hq => (hw.baseLe 3 rfl).2 q hq) (fun q hq => Nat.lt_of_lt_of_le hq (hw.baseLe 3 rfl).1), h_.list.keep (fun q hq => (hw.baseLe 3 rfl).2 q hq) (fun q hq => Nat.lt_of_lt_of_le hq (hw.baseLe 3 rfl).1), h_.dcap, h_.lcap⟩)) (nodes_wf_set hW { hW.node k with gen0 := (hW.node 1).gen0, gen1 := (hW.node 1).gen1 }); rw [List.length_set] at h_; exact h_) ?_
       refine Rg.p 95 (.unOp .not 4 (.tmp 94)) (pv_not (b := checkS (ns.set k ({ (nd ns k) with gen := (nd ns 1).gen } : Node)) gen) rfl) ?_
       refine Rg.mv 96 95 rfl ?_
       refine Rg.ga 9 98 96 true rfl (fun h37 => ?_) (fun h37 => ?_) ?_
       ·
        have h38 := not_t h37
        refine rg_call (d := some 97) (f := 16) (xs := #[]) (ts := #[]) (g := some (6, true)) (v := .bool true) (by kernel_rfl) (by kernel_rfl) (by kernel_rfl) rfl (fun w hw => lives_calls) ?_
        refine Rg.p 98 (.pick (.tmp 96) (.tmp 97) (.const (.bool false))) (pv_pick_t rfl rfl) ?_
        exact Rg.em 96 h37 (at_t h37) rfl rfl
       ·
        refine Rg.skips 8 (by kernel_rfl) ?_
        refine Rg.p 98 (.pick (.tmp 96) (.tmp 97) (.const (.bool false))) (pv_pick_f rfl rfl) ?_
        exact Rg.em 96 h37 (at_f h37) rfl rfl
       refine Rg.as 6 98 rfl ?_
       refine Rg.nx (fun _ _ h => h) [6] rfl ?_
       refine Ev.rt ?_
       refine At.via (Q := Q) hQ ?_
       refine At.ret1 rfl rfl rfl ?_
       exact fun w hw => ⟨(by rw [hS.l3 k hk1_ hk2_ (by have h_ := (or_f h32).1; intro e_; subst e_; simp at h_) (by simpa using (or_f h32).2)]; rfl), hw.base_below 3 rfl⟩
     ·
      have h39 := of_decide_eq_false h28
      refine Ev.sq ?_
      refine Ev.ke [9,8,7,6,3] rfl ?_
      refine ev_csl (n := 12) (E := [(3, .pointer (some ⟨b1, 0, none⟩)), (6, .bool false), (7, .slice (some ⟨bl, 0, none⟩) ns.length c5), (8, .int .i64 (k : Int)), (9, .pointer (some ⟨b6, 0, none⟩))]) ⟨12, 10, [[0], [0, 1], [0, 1, 2], [3], [3, 4], [5], [5, 6], [3, 4, 5, 6, 7], [3, 4, 5, 6, 7, 8], [0, 1, 2, 3, 4, 5, 6, 7, 8, 9], [0, 1, 2, 3, 4, 5, 6, 7, 8, 9, 10], [0, 1, 2, 3, 4, 5, 6, 7, 8, 9, 10, 11]], [[], [0], [1], [], [3], [], [5], [4, 6], [7], [2, 8], [], [9, 10]], [none, none, none, none, some 2, some 2, some 8, some 9, some 9, some 11], [some 11, none, none, none, some 9, none, none, none, none, none], [[], [0], [3], [], [], [], [0], [], [], [6], [], []]⟩ (fun ch j => ([.pointer (some ⟨b6, 0 + 22, none⟩), .slice ((lc al k).lA) ((nd ns k).list.length) ((lc al k).lCap), .slice ((ch 2).fp) ((nd ns k).list.length) ((ch 2).fc), .slice (some ⟨bl, 0, none⟩) ns.length c5, .int .i64 (ns.length : Int), .pointer (some ⟨b6, 0 + 24, none⟩), .int .u64 ((nd ns k).next), .agg #[.string ⟨#[110, 111, 32, 115, 117, 99, 104, 32, 110, 111, 100, 101]⟩, .int .i64 (ns.length : Int), .int .u64 ((nd ns k).next)], .slice (some ⟨(ch 8).fd, 0, none⟩) 1 1, .slice ((ch 9).fp) (((nd ns k).list ++ [spoilE ns k]).length) ((ch 9).fc), .pointer (some ⟨b6, 0 + 22, none⟩), undef] : List Value).getD j undef) (fun ch t => ([blk b6 (.cells ((nd ns k).cells (lc al k)) 44 (0, 0)), own 44 25 (some ⟨bl, 0, none⟩) ns.length c5 (flat ns al), blk b1 (.cells #[.slice p ns.length cap, .int .u32 gen] 25 (0, 0)), base w (Low w), own 50 3 ((ch 2).fp) ((nd ns k).list.length) ((ch 2).fc) (flatE ((nd ns k).list)), fact ((nd ns k).list.length ≤ (ch 2).fc), blk (ch 8).fd (.cells #[.string ⟨#[110, 111, 32, 115, 117, 99, 104, 32, 110, 111, 100, 101]⟩, .int .i64 (ns.length : Int), .int .u64 ((nd ns k).next)] 50 (0, 0)), own 50 3 ((ch 9).fp) (((nd ns k).list ++ [spoilE ns k]).length) ((ch 9).fc) (flatE ((nd ns k).list ++ [spoilE ns k])), fact (((nd ns k).list ++ [spoilE ns k]).length ≤ (ch 9).fc), blk b6 (.cells (({ (nd ns k) with list := (nd ns k).list ++ [spoilE ns k] } : Node).cells ({ (lc al k) with lA := (ch 9).fp, lCap := (ch 9).fc } : Loc)) 44 (0, 0))] : List Item).getD t noItem) (by kernel_rfl) (by kernel_rfl) (fun ch => by kernel_rfl) ?_ ?_
      ·
       refine all_lt_succ (all_lt_succ (all_lt_succ (all_lt_succ (all_lt_succ (all_lt_succ (all_lt_succ (all_lt_succ (all_lt_succ (all_lt_succ (all_lt_succ (all_lt_succ all_lt_zero ?_) ?_) ?_) ?_) ?_) ?_) ?_) ?_) ?_) ?_) ?_) ?_
       ·
        intro ch R F
        refine csl_go [] [] ?_
        refine Rg.fa 34 44 9 12 22 rfl ?_
        exact csl_end {}
       ·
        intro ch R F
        refine csl_go [(34, .pointer (some ⟨b6, 0 + 22, none⟩))] [blk b6 (.cells ((nd ns k).cells (lc al k)) 44 (0, 0))] ?_
        refine Rg.ld 35 42 34 0 rfl rfl rfl ?_
        exact csl_end {}
       ·
        intro ch R F
        refine csl_go [(35, .slice ((lc al k).lA) ((nd ns k).list.length) ((lc al k).lCap))] [base w (Low w)] ?_
        refine Rg.ownNil 50 3 ?_
        refine rg_append0 (d := 36) (t := 42) (e := 50) (sz := 3) (x := .const (.slice none 0 0)) (y := .tmp 35) (ty := 42) (g := none) (m := (nd ns k).list.length) (ys := flatE ((nd ns k).list)) (zv := .agg #[.string ⟨#[]⟩, .int .i64 0, .int .u64 0]) 0 (by kernel_rfl) (by kernel_rfl) rfl rfl (by kernel_rfl) (by kernel_rfl) (by kernel_rfl) (by kernel_rfl) (by kernel_rfl) rfl rfl (flatE_len _) (flatE_one _) (fun w hw => firstCells_entries ((((hT.node k (by omega))).list).keep (hw.at_ 1 rfl) (fun _ h => h))) (by show (2 * ((nd ns k).list.length) + 192) * bytesT Try.prog 50 ≤ 281474976710656; rw [show bytesT Try.prog 50 = 32 from by kernel_rfl]; omega) (by kernel_rfl) ?_
        intro p8 c9 hc_c9 he_c9
        exact csl_endH {fp := p8, fc := c9} (S2 := [own 50 3 p8 ((nd ns k).list.length) c9 (flatE ((nd ns k).list)), fact ((nd ns k).list.length ≤ c9), base w (Low w)] ++ F) (fun w_ hw => csl_perm (S := [fact ((nd ns k).list.length ≤ c9), own 50 3 p8 ((nd ns k).list.length) c9 (flatE ((nd ns k).list)), base w (Low w)]) [1, 0, 2] 3 ((hw).addFact (show (nd ns k).list.length ≤ c9 from hc_c9)))
       ·
        intro ch R F
        refine csl_go [] [] ?_
        refine Rg.mv 37 7 rfl ?_
        exact csl_end {}
       ·
        intro ch R F
        refine csl_go [(37, .slice (some ⟨bl, 0, none⟩) ns.length c5)] [] ?_
        refine Rg.p 38 (.call { callee := .builtin .len, args := #[.tmp 37], argTypes := #[22] }) (pv_len_slice rfl (by kernel_rfl)) ?_
        exact csl_end {}
       ·
        intro ch R F
        refine csl_go [] [] ?_
        refine Rg.fa 39 44 9 14 24 rfl ?_
        exact csl_end {}
       ·
        intro ch R F
        refine csl_go [(39, .pointer (some ⟨b6, 0 + 24, none⟩))] [blk b6 (.cells ((nd ns k).cells (lc al k)) 44 (0, 0))] ?_
        refine Rg.ld 40 34 39 0 rfl rfl rfl ?_
        exact csl_end {}
       ·
        intro ch R F
        refine csl_go [(38, .int .i64 (ns.length : Int)), (40, .int .u64 ((nd ns k).next))] [] ?_
        refine Rg.p 41 (.build 50 #[(0, .const (.string ⟨#[110, 111, 32, 115, 117, 99, 104, 32, 110, 111, 100, 101]⟩)), (1, .tmp 38), (2, .tmp 40)]) (v := .agg #[.string ⟨#[110, 111, 32, 115, 117, 99, 104, 32, 110, 111, 100, 101]⟩, .int .i64 (ns.length : Int), .int .u64 ((nd ns k).next)]) (pv_build (parts := [(0, .const (.string ⟨#[110, 111, 32, 115, 117, 99, 104, 32, 110, 111, 100, 101]⟩)), (1, .tmp 38), (2, .tmp 40)]) (vs := [.string ⟨#[110, 111, 32, 115, 117, 99, 104, 32, 110, 111, 100, 101]⟩, .int .i64 (ns.length : Int), .int .u64 ((nd ns k).next)]) (fs := [(0, 1), (1, 1), (2, 1)]) (zv := .agg #[.string ⟨#[]⟩, .int .i64 0, .int .u64 0]) (cs := #[.string ⟨#[110, 111, 32, 115, 117, 99, 104, 32, 110, 111, 100, 101]⟩, .int .i64 (ns.length : Int), .int .u64 ((nd ns k).next)]) rfl (by kernel_rfl) (by kernel_rfl) (by kernel_rfl)) ?_
        exact csl_end {}
       ·
        intro ch R F
        refine csl_go [(41, .agg #[.string ⟨#[110, 111, 32, 115, 117, 99, 104, 32, 110, 111, 100, 101]⟩, .int .i64 (ns.length : Int), .int .u64 ((nd ns k).next)])] [] ?_
        refine rg_buildSlice (d := 42) (t := 42) (e := 50) (sz := 3) (len := 1) (parts := [(0, .tmp 41)]) (g := none) (vs := [.agg #[.string ⟨#[110, 111, 32, 115, 117, 99, 104, 32, 110, 111, 100, 101]⟩, .int .i64 (ns.length : Int), .int .u64 ((nd ns k).next)]]) (cs := #[.string ⟨#[110, 111, 32, 115, 117, 99, 104, 32, 110, 111, 100, 101]⟩, .int .i64 (ns.length : Int), .int .u64 ((nd ns k).next)]) (by kernel_rfl) (by kernel_rfl) rfl (by kernel_rfl) (.agg #[.string ⟨#[]⟩, .int .i64 0, .int .u64 0]) (by kernel_rfl) (by kernel_rfl) (by kernel_rfl) ?_
        intro b10
        exact csl_end {fd := b10}
       ·
        intro ch R F
        refine csl_go [(36, .slice ((ch 2).fp) ((nd ns k).list.length) ((ch 2).fc)), (42, .slice (some ⟨(ch 8).fd, 0, none⟩) 1 1)] [own 50 3 ((ch 2).fp) ((nd ns k).list.length) ((ch 2).fc) (flatE ((nd ns k).list)), blk (ch 8).fd (.cells #[.string ⟨#[110, 111, 32, 115, 117, 99, 104, 32, 110, 111, 100, 101]⟩, .int .i64 (ns.length : Int), .int .u64 ((nd ns k).next)] 50 (0, 0))] ?_
        refine rg_appendE (d := 43) (t := 42) (e := 50) (sz := 3) (x := .tmp 36) (y := .tmp 42) (ty := 42) (g := none) (m := 1) (ys := [.string ⟨#[110, 111, 32, 115, 117, 99, 104, 32, 110, 111, 100, 101]⟩, .int .i64 (ns.length : Int), .int .u64 ((nd ns k).next)]) (zv := .agg #[.string ⟨#[]⟩, .int .i64 0, .int .u64 0]) 0 (((nd ns k).list ++ [spoilE ns k]).length) (flatE ((nd ns k).list ++ [spoilE ns k])) (by rw [List.length_append]; rfl) (flatE_app _ [spoilE ns k]) (by kernel_rfl) (by kernel_rfl) rfl rfl (by kernel_rfl) (by kernel_rfl) (by kernel_rfl) (by kernel_rfl) (by kernel_rfl) rfl rfl rfl rfl (fun w hw => firstCells_blk hw 1 rfl rfl) (by show (2 * (((nd ns k).list.length) + 1) + 192) * bytesT Try.prog 50 ≤ 281474976710656; rw [show bytesT Try.prog 50 = 32 from by kernel_rfl]; omega) (by kernel_rfl) ?_
        intro p11 c12 hc_c12 he_c12
        exact csl_endH {fp := p11, fc := c12} (S2 := [own 50 3 p11 (((nd ns k).list ++ [spoilE ns k]).length) c12 (flatE ((nd ns k).list ++ [spoilE ns k])), fact (((nd ns k).list ++ [spoilE ns k]).length ≤ c12), blk (ch 8).fd (.cells #[.string ⟨#[110, 111, 32, 115, 117, 99, 104, 32, 110, 111, 100, 101]⟩, .int .i64 (ns.length : Int), .int .u64 ((nd ns k).next)] 50 (0, 0))] ++ F) (fun w_ hw => csl_perm (S := [fact (((nd ns k).list ++ [spoilE ns k]).length ≤ c12), own 50 3 p11 (((nd ns k).list ++ [spoilE ns k]).length) c12 (flatE ((nd ns k).list ++ [spoilE ns k])), blk (ch 8).fd (.cells #[.string ⟨#[110, 111, 32, 115, 117, 99, 104, 32, 110, 111, 100, 101]⟩, .int .i64 (ns.length : Int), .int .u64 ((nd ns k).next)] 50 (0, 0))]) [1, 0, 2] 3 ((hw).addFact (show ((nd ns k).list ++ [spoilE ns k]).length ≤ c12 from hc_c12)))
       ·
        intro ch R F
        refine csl_go [] [] ?_
        refine Rg.fa 44 44 9 12 22 rfl ?_
        exact csl_end {}
       ·
        intro ch R F
        refine csl_go [(43, .slice ((ch 9).fp) (((nd ns k).list ++ [spoilE ns k]).length) ((ch 9).fc)), (44, .pointer (some ⟨b6, 0 + 22, none⟩))] [blk b6 (.cells ((nd ns k).cells (lc al k)) 44 (0, 0))] ?_
        refine Rg.st 42 44 (.tmp 43) 0 (({ (nd ns k) with list := (nd ns k).list ++ [spoilE ns k] } : Node).cells ({ (lc al k) with lA := (ch 9).fp, lCap := (ch 9).fc } : Loc)) rfl rfl rfl ?_
        exact csl_end {}
      ·
       intro ch
       refine at_codeS [0, 1, 2, 3, 4, 5, 6, 7] [(3, .pointer (some ⟨b1, 0, none⟩)), (6, .bool false), (7, .slice (some ⟨bl, 0, none⟩) ns.length c5), (8, .int .i64 (k : Int)), (9, .pointer (some ⟨b6, 0, none⟩))] [own 44 25 (some ⟨bl, 0, none⟩) ns.length c5 (flat ns al), blk b1 (.cells #[.slice p ns.length cap, .int .u32 gen] 25 (0, 0)), base w (Low w), fact ((nd ns k).list.length ≤ (ch 2).fc), blk (ch 8).fd (.cells #[.string ⟨#[110, 111, 32, 115, 117, 99, 104, 32, 110, 111, 100, 101]⟩, .int .i64 (ns.length : Int), .int .u64 ((nd ns k).next)] 50 (0, 0)), own 50 3 ((ch 9).fp) (((nd ns k).list ++ [spoilE ns k]).length) ((ch 9).fc) (flatE ((nd ns k).list ++ [spoilE ns k])), fact (((nd ns k).list ++ [spoilE ns k]).length ≤ (ch 9).fc), blk b6 (.cells (({ (nd ns k) with list := (nd ns k).list ++ [spoilE ns k] } : Node).cells ({ (lc al k) with lA := (ch 9).fp, lCap := (ch 9).fc } : Loc)) 44 (0, 0))] (.cons (by kernel_rfl) (.cons (by kernel_rfl) (.cons (by kernel_rfl) (.cons (by kernel_rfl) (.cons (by kernel_rfl) (.nil _)))))) (by kernel_rfl) (by decide) (fun _ _ h => h) ?_
       obtain ⟨c9, e_c9⟩ : ∃ x_, (ch 2).fc = x_ := ⟨_, rfl⟩
       obtain ⟨b10, e_b10⟩ : ∃ x_, (ch 8).fd = x_ := ⟨_, rfl⟩
       obtain ⟨p11, e_p11⟩ : ∃ x_, (ch 9).fp = x_ := ⟨_, rfl⟩
       obtain ⟨c12, e_c12⟩ : ∃ x_, (ch 9).fc = x_ := ⟨_, rfl⟩
       rw [e_c9, e_b10, e_p11, e_c12]
       refine Ev.factAt 3 rfl (fun hc_c9 => ?_)
       refine Ev.factAt 6 rfl (fun hc_c12 => ?_)
       refine Ev.pickS [0, 1, 2, 4, 5, 7] (S' := [own 44 25 (some ⟨bl, 0, none⟩) ns.length c5 (flat ns al), blk b1 (.cells #[.slice p ns.length cap, .int .u32 gen] 25 (0, 0)), base w (Low w), blk b10 (.cells #[.string ⟨#[110, 111, 32, 115, 117, 99, 104, 32, 110, 111, 100, 101]⟩, .int .i64 (ns.length : Int), .int .u64 ((nd ns k).next)] 50 (0, 0)), own 50 3 p11 (((nd ns k).list ++ [spoilE ns k]).length) c12 (flatE ((nd ns k).list ++ [spoilE ns k])), blk b6 (.cells (({ (nd ns k) with list := (nd ns k).list ++ [spoilE ns k] } : Node).cells ({ (lc al k) with lA := p11, lCap := c12 } : Loc)) 44 (0, 0))]) (by kernel_rfl) (by decide) ?_
       refine Ev.rg 5 ?_
       refine Rg.fa 45 44 9 14 24 rfl ?_
       refine Rg.ld (v := .int .u64 ((nd ns k).next)) 46 34 45 5 rfl rfl rfl ?_
       refine Rg.p 47 (.binOp .add 34 (.tmp 46) (.const (.int .u64 1)) 34) (v := .int .u64 (IntKind.u64.wrap (((nd ns k).next) + 1))) (pv_add rfl rfl) ?_
       refine Rg.fa 48 44 9 14 24 rfl ?_
       refine Rg.st 34 48 (.tmp 47) 5 (({ ({ (nd ns k) with list := (nd ns k).list ++ [spoilE ns k] } : Node) with next := IntKind.u64.wrap (((nd ns k).next) + 1) } : Node).cells ({ (lc al k) with lA := p11, lCap := c12 } : Loc)) rfl rfl rfl ?_
       refine Rg.nx (fun _ _ h => h) [9,8,7,6,3] rfl ?_
       refine Ev.sr 5 ?_
       refine Rg.mv 86 7 rfl ?_
       refine Rg.mv 87 8 rfl ?_
       refine Rg.p 88 (.load 44 (.tmp 9)) (v := .agg (({ ({ (nd ns k) with list := (nd ns k).list ++ [spoilE ns k] } : Node) with next := IntKind.u64.wrap (((nd ns k).next) + 1) } : Node).cells ({ (lc al k) with lA := p11, lCap := c12 } : Loc))) (pv_load_blk_whole 5 rfl rfl (by kernel_rfl) (by kernel_rfl)) ?_
       refine Rg.p 89 (.indexAddr 22 (.tmp 86) (.tmp 87)) (v := .pointer (some ⟨bl, 0 + k * 25, none⟩)) (pv_indexN rfl rfl (e := 44) (sz := 25) (k := k) (by kernel_rfl) (by omega)) ?_
       refine rg_store_ownV (t := 44) (x := .tmp 89) (y := .tmp 88) (g := none) (xs' := flat (ns.set k ({ ({ (nd ns k) with list := (nd ns k).list ++ [spoilE ns k] } : Node) with next := IntKind.u64.wrap (((nd ns k).next) + 1) } : Node)) (al.set k ({ (lc al k) with lA := p11, lCap := c12 } : Loc))) 0 (by kernel_rfl) (by kernel_rfl) rfl rfl rfl (by kernel_rfl) (by kernel_rfl) (by rw [flat_length]; show 0 + k * 25 + 25 ≤ _; omega) (by rw [show 0 + k * 25 = k * 25 + 0 by omega]; exact flat_put (by omega) hT.len (Nat.le_of_ble_eq_true (by kernel_rfl)) (by kernel_rfl)) ?_
       refine Rg.nx (fun _ _ h => h) [7,6,3] rfl ?_
       refine Ev.sr 10 ?_
       refine Rg.mv 90 7 rfl ?_
       refine Rg.fa 91 25 3 1 1 rfl ?_
       refine Rg.ld 92 23 91 1 rfl rfl rfl ?_
       refine Rg.p 93 (.build 25 #[(0, .tmp 90), (1, .tmp 92)]) (v := .agg #[.slice (some ⟨bl, 0, none⟩) ns.length c5, .int .u32 gen]) (pv_build (parts := [(0, .tmp 90), (1, .tmp 92)]) (vs := [.slice (some ⟨bl, 0, none⟩) ns.length c5, .int .u32 gen]) (fs := [(0, 1), (1, 1)]) (zv := .agg #[.slice none 0 0, .int .u32 0]) (cs := #[.slice (some ⟨bl, 0, none⟩) ns.length c5, .int .u32 gen]) rfl (by kernel_rfl) (by kernel_rfl) (by kernel_rfl)) ?_
       refine Rg.cl (some 94) 15 #[.tmp 93] #[25] (v := .bool (checkS (ns.set k ({ ({ (nd ns k) with list := (nd ns k).list ++ [spoilE ns k] } : Node) with next := IntKind.u64.wrap (((nd ns k).next) + 1) } : Node)) gen)) rfl (fun w hw => by have h_ := Check_calls (cap := c5) (gen := gen) (turned_here hw 0 2 rfl rfl hT hk2_ (have h_ := hT.node k hk2_; ⟨h_.data.keep (fun q hq => (hw.baseLe 2 rfl).2 q hq) (fun q hq => Nat.lt_of_lt_of_le hq (hw.baseLe 2 rfl).1), (own_entries (hw.at_ 4 rfl)).keep (fun _ _ => rfl) (fun q hq => hw.lt 4 rfl hq), h_.dcap, own_cap hw 4 rfl (by decide)⟩)) (nodes_wf_set hW { hW.node k with next0 := (wrap_u64_range _).1, next1 := (wrap_u64_range _).2, list := (by have h_ := (hW.node k).list; have h2_ := (hW.node k).next1; show ((nd ns k).list ++ [spoilE ns k]).length ≤ _; rw [List.length_append]; show _ + 1 ≤ _; omega), entry := entry_app_wf (hW.node k).entry (spoilE_wf hl_ hW) }); rw [List.length_set] at h_; exact h_) ?_
       refine Rg.p 95 (.unOp .not 4 (.tmp 94)) (pv_not (b := checkS (ns.set k ({ ({ (nd ns k) with list := (nd ns k).list ++ [spoilE ns k] } : Node) with next := IntKind.u64.wrap (((nd ns k).next) + 1) } : Node)) gen) rfl) ?_
       refine Rg.mv 96 95 rfl ?_
       refine Rg.ga 9 98 96 true rfl (fun h40 => ?_) (fun h40 => ?_) ?_
       ·
        have h41 := not_t h40
        refine rg_call (d := some 97) (f := 16) (xs := #[]) (ts := #[]) (g := some (6, true)) (v := .bool true) (by kernel_rfl) (by kernel_rfl) (by kernel_rfl) rfl (fun w hw => lives_calls) ?_
        refine Rg.p 98 (.pick (.tmp 96) (.tmp 97) (.const (.bool false))) (pv_pick_t rfl rfl) ?_
        exact Rg.em 96 h40 (at_t h40) rfl rfl
       ·
        refine Rg.skips 8 (by kernel_rfl) ?_
        refine Rg.p 98 (.pick (.tmp 96) (.tmp 97) (.const (.bool false))) (pv_pick_f rfl rfl) ?_
        exact Rg.em 96 h40 (at_f h40) rfl rfl
       refine Rg.as 6 98 rfl ?_
       refine Rg.nx (fun _ _ h => h) [6] rfl ?_
       refine Ev.rt ?_
       refine At.via (Q := Q) hQ ?_
       refine At.ret1 rfl rfl rfl ?_
       exact fun w hw => ⟨(by rw [hS.l4 k hk1_ hk2_]; rfl), hw.base_below 2 rfl⟩

end Go.Proofs.Ytfhhggcdmgjbcaa.Sx
