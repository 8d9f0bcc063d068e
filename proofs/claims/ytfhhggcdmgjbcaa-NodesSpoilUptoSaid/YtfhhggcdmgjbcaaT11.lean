/-
  A part of the walk of the seat: laws of a small proof system, and contracts of functions, each proved. Conditions: as each theorem says.
-/
import Derived.Test.YtfhhggcdmgjbcaaProg
import Derived.Test.YtfhhggcdmgjbcaaT10
namespace Go.Proofs.Ytfhhggcdmgjbcaa.Sx
open Go Go.RowKit Go.Proofs

def Odd (s : ByteArray) (odd : List Int) : Prop := ∃ k, k < odd.length ∧ ∃ i, i < s.size ∧ sb s i = odd.getD k 0
open Classical in
noncomputable def oddB (s : ByteArray) (odd : List Int) : Bool := decide (Odd s odd ∨ s = ⟨#[]⟩)
theorem oddB_t {s : ByteArray} {odd : List Int} (h : Odd s odd) : oddB s odd = true := by simp [oddB, h]
theorem oddB_e {s : ByteArray} {odd : List Int} (h : ¬ Odd s odd) : oddB s odd = decide (s = ⟨#[]⟩) := by simp [oddB, h]
noncomputable def statS (s : ByteArray) (odd : List Int) (mx : Int) : Int := if oddB s odd = true then 22 else if mx < (s.size : Int) then 63 else 0

set_option maxHeartbeats 8000000 in
theorem without1_calls {s : ByteArray} {bo c : Nat} {p : Option Addr} {odd : List Int} {w : World} (hO : w.heap[bo]? = some (.cells #[.slice p odd.length c] 29 (0, 0))) (hB : BytesAt (Low w) w p odd) (hol : odd.length ≤ 1024) (hs : s.size ≤ 140737488355328) :
  Calls Try.prog 170 #[.string s, .pointer (some ⟨bo, 0, none⟩)] w (Ret w (.bool (oddB s odd))) := by
 refine calls_ofQ (args := [_, _]) [base w (Low w)] Try.func170 (by kernel_rfl) (by kernel_rfl) (Heap.start w) ?_
 intro Q hQ
 refine Ev.sr 1 ?_
 refine Rg.ac 3 (.bool false) ?_
 refine Rg.nx (fun _ _ h => h) [3,1,0] rfl ?_
 refine Ev.sq ?_
 refine Ev.sr 3 ?_
 refine Rg.p 7 (.load 29 (.tmp 1)) (v := .slice p odd.length c) (pv_load_base 0 rfl rfl rfl hO (by kernel_rfl) rfl) ?_
 refine Rg.p 8 (.call { callee := .builtin .len, args := #[.tmp 7], argTypes := #[29] }) (pv_len_slice rfl (by kernel_rfl)) ?_
 refine Rg.mc 9 (.int .i64 0) ?_
 refine Rg.nx (fun _ _ h => h) [9,8,7,3,0] rfl ?_
 refine Ev.bk 0 ?_
 refine ev_loop (T := Nat) (fun k => [(0, .string s), (3, .bool false), (7, .slice p odd.length c), (8, .int .i64 (odd.length : Int)), (9, .int .i64 (k : Int))]) (fun k => [base w (Low w)]) (fun k => k ≤ odd.length ∧ ∀ k_, k_ < k → ∀ i_, i_ < s.size → sb s i_ ≠ odd.getD k_ 0) (fun k => odd.length - k) 0 [0] (by kernel_rfl) ⟨Nat.zero_le _, fun k_ h_ => absurd h_ (Nat.not_lt_zero _)⟩ (.cons (rfl) (.cons (rfl) (.cons (rfl) (.cons (rfl) (.cons (rfl) (.nil _)))))) rfl (by decide) ?_
 rintro k ⟨(hk : k ≤ odd.length), (hno : ∀ k_, k_ < k → ∀ i_, i_ < s.size → sb s i_ ≠ odd.getD k_ 0)⟩
 show Ev _ _ [(0, .string s), (3, .bool false), (7, .slice p odd.length c), (8, .int .i64 (odd.length : Int)), (9, .int .i64 (k : Int))] [base w (Low w)] _
 refine Ev.sr 1 ?_
 refine Rg.p 10 (.binOp .lss 3 (.tmp 9) (.tmp 8) 3) (pv_lss rfl rfl) ?_
 refine Rg.nx (fun _ _ h => h) [10,9,8,7,3,0] rfl ?_
 refine Ev.sq ?_
 refine Ev.cd 10 rfl (fun h1 => ?_) (fun h1 => ?_)
 ·
  have h2 := of_decide_eq_true h1
  refine Ev.sk ?_
  refine At.nx (fun _ _ h => h) [10,9,8,7,3,0] rfl ?_
  refine Ev.sq ?_
  refine Ev.bk 1 ?_
  refine Ev.sr 3 ?_
  have ⟨q1, o2, hp3⟩ := hB.adr (by omega)
  refine Rg.p 11 (.indexAddr 29 (.tmp 7) (.tmp 9)) (v := .pointer (some ⟨q1, o2 + ((k : Int)).toNat * 1, none⟩)) (pv_indexAddr' rfl hp3 rfl (e := 5) (sz := 1) (by kernel_rfl) (by omega) (by omega)) ?_
  refine Rg.p 12 (.load 5 (.tmp 11)) (v := .int .u8 ((odd).getD k 0)) (pv_load rfl (by kernel_rfl) (fun w hw => ((hB).keep (hw.at_ 0 rfl) (fun _ h => h)).cell _ _ hp3 _ (by omega) 0 (by decide))) ?_
  refine Rg.as 5 12 rfl ?_
  refine Rg.nx (fun _ _ h => h) [12,11,10,9,8,7,5,3,0] rfl ?_
  refine Ev.sr 3 ?_
  refine Rg.mv 13 0 rfl ?_
  refine Rg.p 14 (.call { callee := .builtin .len, args := #[.tmp 13], argTypes := #[9] }) (pv_len_string rfl (by kernel_rfl)) ?_
  refine Rg.mc 15 (.int .i64 0) ?_
  refine Rg.nx (fun _ _ h => h) [15,14,13,12,11,10,9,8,7,5,3,0] rfl ?_
  refine Ev.bk 2 ?_
  refine ev_loop (T := Nat) (fun i => [(0, .string s), (3, .bool false), (5, .int .u8 (odd.getD k 0)), (7, .slice p odd.length c), (8, .int .i64 (odd.length : Int)), (9, .int .i64 (k : Int)), (14, .int .i64 (s.size : Int)), (15, .int .i64 (i : Int))]) (fun i => [base w (Low w)]) (fun i => i ≤ s.size ∧ ∀ i_, i_ < i → sb s i_ ≠ odd.getD k 0) (fun i => s.size - i) 0 [0] (by kernel_rfl) ⟨Nat.zero_le _, fun i_ h_ => absurd h_ (Nat.not_lt_zero _)⟩ (.cons (rfl) (.cons (rfl) (.cons (rfl) (.cons (rfl) (.cons (rfl) (.cons (rfl) (.cons (rfl) (.cons (rfl) (.nil _))))))))) rfl (by decide) ?_
  rintro i ⟨(hi : i ≤ s.size), (hn2 : ∀ i_, i_ < i → sb s i_ ≠ odd.getD k 0)⟩
  show Ev _ _ [(0, .string s), (3, .bool false), (5, .int .u8 (odd.getD k 0)), (7, .slice p odd.length c), (8, .int .i64 (odd.length : Int)), (9, .int .i64 (k : Int)), (14, .int .i64 (s.size : Int)), (15, .int .i64 (i : Int))] [base w (Low w)] _
  refine Ev.sr 1 ?_
  refine Rg.p 16 (.binOp .lss 3 (.tmp 15) (.tmp 14) 3) (pv_lss rfl rfl) ?_
  refine Rg.nx (fun _ _ h => h) [16,15,14,9,8,7,5,3,0] rfl ?_
  refine Ev.sq ?_
  refine Ev.cd 16 rfl (fun h3 => ?_) (fun h3 => ?_)
  ·
   have h4 := of_decide_eq_true h3
   refine Ev.sk ?_
   refine At.nx (fun _ _ h => h) [16,15,14,9,8,7,5,3,0] rfl ?_
   refine Ev.sq ?_
   refine Ev.bk 3 ?_
   refine Ev.sr 2 ?_
   refine Rg.mv 17 15 rfl ?_
   refine Rg.as 6 17 rfl ?_
   refine Rg.nx (fun _ _ h => h) [17,16,15,14,9,8,7,6,5,3,0] rfl ?_
   refine Ev.sr 5 ?_
   refine Rg.mv 18 0 rfl ?_
   refine Rg.mv 19 6 rfl ?_
   refine Rg.p 20 (.index 9 (.tmp 18) (.tmp 19)) (v := .int .u8 (sb s ((i : Int)).toNat)) (pv_index_string rfl rfl (by kernel_rfl) (by omega) (by omega)) ?_
   refine Rg.mv 21 5 rfl ?_
   refine Rg.p 22 (.binOp .eql 5 (.tmp 20) (.tmp 21) 5) (pv_eql rfl rfl) ?_
   refine Rg.nx (fun _ _ h => h) [22,21,20,19,18,17,16,15,14,9,8,7,6,5,3,0] rfl ?_
   refine Ev.cd 22 rfl (fun h5 => ?_) (fun h5 => ?_)
   ·
    have h6 := of_decide_eq_true h5
    refine Ev.sr 1 ?_
    refine Rg.ac 3 (.bool true) ?_
    refine Rg.nx (fun _ _ h => h) [22,21,20,19,18,17,16,15,14,9,8,7,6,5,3,0] rfl ?_
    refine Ev.rt ?_
    refine At.via (Q := Q) hQ ?_
    refine At.ret1 rfl rfl rfl ?_
    exact fun w hw => ⟨(by rw [oddB_t ⟨k, by omega, i, by omega, by simpa using h5⟩]), hw.base_below 0 rfl⟩
   ·
    have h7 := of_decide_eq_false h5
    refine Ev.sk ?_
    refine At.nx (fun _ _ h => h) [22,21,20,19,18,17,16,15,14,9,8,7,6,5,3,0] rfl ?_
    refine Ev.rg 2 ?_
    refine Rg.p 23 (.binOp .add 3 (.tmp 15) (.const (.int .i64 1)) 3) (pv_addb rfl rfl (in_i64 (by omega) (by omega))) ?_
    refine Rg.mv 15 23 rfl ?_
    refine Rg.fin rfl ?_
    refine At.round (fun _ _ h => h) (i + 1) [0] ⟨(by omega), (fun i_ h_ => by rcases Nat.lt_succ_iff_lt_or_eq.1 h_ with h1_ | h1_; exact hn2 i_ h1_; subst h1_; simpa using h5)⟩ (by show s.size - (i + 1) < s.size - i; omega) (.cons (rfl) (.cons (rfl) (.cons (rfl) (.cons (rfl) (.cons (rfl) (.cons (rfl) (.cons (rfl) (.cons (rfl) (.nil _))))))))) rfl (by decide)
  ·
   have h8 := of_decide_eq_false h3
   refine Ev.xt 2 ?_
   refine At.nx (fun _ _ h => h) [16,15,14,9,8,7,5,3,0] rfl ?_
   refine Ev.rg 2 ?_
   refine Rg.p 24 (.binOp .add 3 (.tmp 9) (.const (.int .i64 1)) 3) (pv_addb rfl rfl (in_i64 (by omega) (by omega))) ?_
   refine Rg.mv 9 24 rfl ?_
   refine Rg.fin rfl ?_
   refine At.round (fun _ _ h => h) (k + 1) [0] ⟨(by omega), (fun k_ h_ i_ hi_ => by rcases Nat.lt_succ_iff_lt_or_eq.1 h_ with h1_ | h1_; exact hno k_ h1_ i_ hi_; subst h1_; exact hn2 i_ (by omega))⟩ (by show odd.length - (k + 1) < odd.length - k; omega) (.cons (rfl) (.cons (rfl) (.cons (rfl) (.cons (rfl) (.cons (rfl) (.nil _)))))) rfl (by decide)
 ·
  have h9 := of_decide_eq_false h1
  refine Ev.xt 0 ?_
  refine At.nx (fun _ _ h => h) [3,0] rfl ?_
  refine Ev.sr 3 ?_
  refine Rg.mv 25 0 rfl ?_
  refine Rg.p 26 (.binOp .eql 9 (.tmp 25) (.const (.string ⟨#[]⟩)) 9) (pv_eql_str rfl rfl) ?_
  refine Rg.as 3 26 rfl ?_
  refine Rg.nx (fun _ _ h => h) [3] rfl ?_
  refine Ev.rt ?_
  refine At.via (Q := Q) hQ ?_
  refine At.ret1 rfl rfl rfl ?_
  exact fun w hw => ⟨(by rw [oddB_e (fun ⟨k_, hk_, i_, hi_, e_⟩ => hno k_ (by omega) i_ hi_ e_)]), hw.base_below 0 rfl⟩

set_option maxHeartbeats 8000000 in
theorem without2_calls {s : ByteArray} {bm : Nat} {mx : Int} {w : World} (hM : w.heap[bm]? = some (.cells #[.int .i64 mx] 3 (0, 0))) (hs : s.size ≤ 140737488355328) :
  Calls Try.prog 171 #[.string s, .pointer (some ⟨bm, 0, none⟩)] w (Ret w (.bool (decide (mx < (s.size : Int))))) := by
 refine calls_ofQ (args := [_, _]) [base w (Low w)] Try.func171 (by kernel_rfl) (by kernel_rfl) (Heap.start w) ?_
 intro Q hQ
 refine Ev.sr 1 ?_
 refine Rg.ac 3 (.bool false) ?_
 refine Rg.nx (fun _ _ h => h) [3,1,0] rfl ?_
 refine Ev.sr 5 ?_
 refine Rg.mv 4 0 rfl ?_
 refine Rg.p 5 (.call { callee := .builtin .len, args := #[.tmp 4], argTypes := #[9] }) (pv_len_string rfl (by kernel_rfl)) ?_
 refine Rg.p 6 (.load 3 (.tmp 1)) (v := .int .i64 mx) (pv_load_base 0 rfl rfl rfl hM (by kernel_rfl) rfl) ?_
 refine Rg.p 7 (.binOp .gtr 3 (.tmp 5) (.tmp 6) 3) (pv_gtr rfl rfl) ?_
 refine Rg.as 3 7 rfl ?_
 refine Rg.nx (fun _ _ h => h) [3] rfl ?_
 refine Ev.rt ?_
 refine At.via (Q := Q) hQ ?_
 refine At.ret1 rfl rfl rfl ?_
 exact fun w hw => ⟨rfl, hw.base_below 0 rfl⟩

set_option maxHeartbeats 8000000 in
theorem is_str_calls {s : ByteArray} {bo bm c : Nat} {p : Option Addr} {odd : List Int} {mx : Int} {w : World} (hO : w.heap[bo]? = some (.cells #[.slice p odd.length c] 29 (0, 0))) (hB : BytesAt (Low w) w p odd) (hol : odd.length ≤ 1024) (hM : w.heap[bm]? = some (.cells #[.int .i64 mx] 3 (0, 0))) (hs : s.size ≤ 140737488355328) :
  Calls Try.prog 149 #[.string s, .agg #[.func (.func 170) #[] #[.pointer (some ⟨bo, 0, none⟩)], .int .u32 22, .func (.func 171) #[] #[.pointer (some ⟨bm, 0, none⟩)], .int .u32 63]] w (Ret w (.int .u32 (statS s odd mx))) := by
 refine calls_ofQ (args := [_, _]) [base w (Low w)] Try.func149 (by kernel_rfl) (by kernel_rfl) (Heap.start w) ?_
 intro Q hQ
 refine Ev.sr 2 ?_
 refine Rg.bx 3 231 (.tmp 1) rfl fun b1 => ?_
 refine Rg.ac 4 (.int .u32 0) ?_
 refine Rg.nx (fun _ _ h => h) [4,3,0] rfl ?_
 refine Ev.sq ?_
 refine Ev.sr 2 ?_
 refine Rg.p 7 (.load 231 (.tmp 3)) (v := .agg #[.func (.func 170) #[] #[.pointer (some ⟨bo, 0, none⟩)], .int .u32 22, .func (.func 171) #[] #[.pointer (some ⟨bm, 0, none⟩)], .int .u32 63]) (pv_load_blk_whole 0 rfl rfl (by kernel_rfl) (by kernel_rfl)) ?_
 refine Rg.mc 8 (.int .i64 0) ?_
 refine Rg.nx (fun _ _ h => h) [8,7,4,0] rfl ?_
 refine Ev.bk 0 ?_
 refine ev_loop (T := Nat) (fun k => [(0, .string s), (4, .int .u32 0), (7, .agg #[.func (.func 170) #[] #[.pointer (some ⟨bo, 0, none⟩)], .int .u32 22, .func (.func 171) #[] #[.pointer (some ⟨bm, 0, none⟩)], .int .u32 63]), (8, .int .i64 ((k : Nat) : Int))]) (fun k => [base w (Low w)]) (fun k => k ≤ 2 ∧ (1 ≤ k → oddB s odd = false) ∧ (2 ≤ k → decide (mx < (s.size : Int)) = false)) (fun k => 2 - k) 0 [1] (by kernel_rfl) ⟨by omega, fun h => by omega, fun h => by omega⟩ (.cons (rfl) (.cons (rfl) (.cons (rfl) (.cons (rfl) (.nil _))))) rfl (by decide) ?_
 rintro k (hk : k ≤ 2 ∧ (1 ≤ k → oddB s odd = false) ∧ (2 ≤ k → decide (mx < (s.size : Int)) = false))
 show Ev _ _ [(0, .string s), (4, .int .u32 0), (7, .agg #[.func (.func 170) #[] #[.pointer (some ⟨bo, 0, none⟩)], .int .u32 22, .func (.func 171) #[] #[.pointer (some ⟨bm, 0, none⟩)], .int .u32 63]), (8, .int .i64 ((k : Nat) : Int))] [base w (Low w)] _
 have hk0 := hk.1
 obtain rfl | rfl | rfl : k = 0 ∨ k = 1 ∨ k = 2 := by omega
 ·
  refine Ev.sr 1 ?_
  refine Rg.p 9 (.binOp .lss 3 (.tmp 8) (.const (.int .i64 2)) 3) (pv_lss rfl rfl) ?_
  refine Rg.know 9 (b := decide (((0 : Nat) : Int) < 2)) (c := true) rfl (by decide) ?_
  refine Rg.nx (fun _ _ h => h) [9,8,7,4,0] rfl ?_
  refine Ev.sq ?_
  refine ev_cond_t (t := 9) (by kernel_rfl) rfl ?_
  refine Ev.sk ?_
  refine At.nx (fun _ _ h => h) [9,8,7,4,0] rfl ?_
  refine Ev.sq ?_
  refine Ev.bk 1 ?_
  refine Ev.sr 3 ?_
  refine Rg.p 10 (.index 231 (.tmp 7) (.tmp 8)) (v := .agg #[.func (.func 170) #[] #[.pointer (some ⟨bo, 0, none⟩)], .int .u32 22]) (pv_index_agg (e := 230) (sz := 2) (n := 2) (cs' := #[.func (.func 170) #[] #[.pointer (some ⟨bo, 0, none⟩)], .int .u32 22]) rfl rfl (by kernel_rfl) (by kernel_rfl) (by kernel_rfl) (by decide) (by decide) (by kernel_rfl)) ?_
  refine Rg.al 6 230 (.agg #[.nilFunc, .int .u32 0]) fun b2 => ?_
  refine Rg.st 230 6 (.tmp 10) 0 #[.func (.func 170) #[] #[.pointer (some ⟨bo, 0, none⟩)], .int .u32 22] rfl rfl rfl ?_
  refine Rg.nx (fun _ _ h => h) [10,9,8,7,6,4,0] rfl ?_
  refine Ev.sr 4 ?_
  refine Rg.fa 11 230 6 0 0 rfl ?_
  refine Rg.ld 12 228 11 0 rfl rfl rfl ?_
  refine Rg.mv 13 0 rfl ?_
  refine rg_callD (d := some 14) (f := 170) (fo := .tmp 12) (caps := #[.pointer (some ⟨bo, 0, none⟩)]) (xs := #[.tmp 13]) (ts := #[9]) (g := none) (v := .bool (oddB s odd)) (by kernel_rfl) (by kernel_rfl) rfl (by kernel_rfl) rfl (fun w hw => without1_calls (base_heap hw 1 rfl hO) (((hB).keep (hw.at_ 1 rfl) (fun k hk => hw.lt 1 rfl hk))) (hol) hs) ?_
  refine Rg.nx (fun _ _ h => h) [14,13,12,11,10,9,8,7,6,4,0] rfl ?_
  refine Ev.cd 14 rfl (fun h1 => ?_) (fun h1 => ?_)
  ·
   refine Ev.sr 3 ?_
   refine Rg.fa 15 230 6 1 1 rfl ?_
   refine Rg.ld 16 45 15 0 rfl rfl rfl ?_
   refine Rg.as 4 16 rfl ?_
   refine Rg.nx (fun _ _ h => h) [16,15,14,13,12,11,10,9,8,7,6,4,0] rfl ?_
   refine Ev.rt ?_
   refine At.via (Q := Q) hQ ?_
   refine At.ret1 rfl rfl rfl ?_
   exact fun w hw => ⟨(by rw [statS, if_pos h1]), hw.base_below 1 rfl⟩
  ·
   refine Ev.sk ?_
   refine At.nx (fun _ _ h => h) [14,13,12,11,10,9,8,7,6,4,0] rfl ?_
   refine Ev.rg 2 ?_
   refine Rg.p 17 (.binOp .add 3 (.tmp 8) (.const (.int .i64 1)) 3) (pv_addb rfl rfl (in_i64 (by omega) (by omega))) ?_
   refine Rg.mv 8 17 rfl ?_
   refine Rg.fin rfl ?_
   refine At.round (t := 0) (fun _ _ h => h) 1 [1] ⟨by omega, fun _ => h1, fun h => by omega⟩ (by decide) (.cons rfl (.cons rfl (.cons rfl (.cons rfl (.nil _))))) rfl (by decide)
 ·
  refine Ev.sr 1 ?_
  refine Rg.p 9 (.binOp .lss 3 (.tmp 8) (.const (.int .i64 2)) 3) (pv_lss rfl rfl) ?_
  refine Rg.know 9 (b := decide (((1 : Nat) : Int) < 2)) (c := true) rfl (by decide) ?_
  refine Rg.nx (fun _ _ h => h) [9,8,7,4,0] rfl ?_
  refine Ev.sq ?_
  refine ev_cond_t (t := 9) (by kernel_rfl) rfl ?_
  refine Ev.sk ?_
  refine At.nx (fun _ _ h => h) [9,8,7,4,0] rfl ?_
  refine Ev.sq ?_
  refine Ev.bk 1 ?_
  refine Ev.sr 3 ?_
  refine Rg.p 10 (.index 231 (.tmp 7) (.tmp 8)) (v := .agg #[.func (.func 171) #[] #[.pointer (some ⟨bm, 0, none⟩)], .int .u32 63]) (pv_index_agg (e := 230) (sz := 2) (n := 2) (cs' := #[.func (.func 171) #[] #[.pointer (some ⟨bm, 0, none⟩)], .int .u32 63]) rfl rfl (by kernel_rfl) (by kernel_rfl) (by kernel_rfl) (by decide) (by decide) (by kernel_rfl)) ?_
  refine Rg.al 6 230 (.agg #[.nilFunc, .int .u32 0]) fun b3 => ?_
  refine Rg.st 230 6 (.tmp 10) 0 #[.func (.func 171) #[] #[.pointer (some ⟨bm, 0, none⟩)], .int .u32 63] rfl rfl rfl ?_
  refine Rg.nx (fun _ _ h => h) [10,9,8,7,6,4,0] rfl ?_
  refine Ev.sr 4 ?_
  refine Rg.fa 11 230 6 0 0 rfl ?_
  refine Rg.ld 12 228 11 0 rfl rfl rfl ?_
  refine Rg.mv 13 0 rfl ?_
  refine rg_callD (d := some 14) (f := 171) (fo := .tmp 12) (caps := #[.pointer (some ⟨bm, 0, none⟩)]) (xs := #[.tmp 13]) (ts := #[9]) (g := none) (v := .bool (decide (mx < (s.size : Int)))) (by kernel_rfl) (by kernel_rfl) rfl (by kernel_rfl) rfl (fun w hw => without2_calls (base_heap hw 1 rfl hM) hs) ?_
  refine Rg.nx (fun _ _ h => h) [14,13,12,11,10,9,8,7,6,4,0] rfl ?_
  refine Ev.cd 14 rfl (fun h2 => ?_) (fun h2 => ?_)
  ·
   have h3 := of_decide_eq_true h2
   refine Ev.sr 3 ?_
   refine Rg.fa 15 230 6 1 1 rfl ?_
   refine Rg.ld 16 45 15 0 rfl rfl rfl ?_
   refine Rg.as 4 16 rfl ?_
   refine Rg.nx (fun _ _ h => h) [16,15,14,13,12,11,10,9,8,7,6,4,0] rfl ?_
   refine Ev.rt ?_
   refine At.via (Q := Q) hQ ?_
   refine At.ret1 rfl rfl rfl ?_
   exact fun w hw => ⟨(by rw [statS, if_neg (by rw [(hk.2.1 (by omega))]; decide), if_pos (of_decide_eq_true h2)]), hw.base_below 1 rfl⟩
  ·
   have h4 := of_decide_eq_false h2
   refine Ev.sk ?_
   refine At.nx (fun _ _ h => h) [14,13,12,11,10,9,8,7,6,4,0] rfl ?_
   refine Ev.rg 2 ?_
   refine Rg.p 17 (.binOp .add 3 (.tmp 8) (.const (.int .i64 1)) 3) (pv_addb rfl rfl (in_i64 (by omega) (by omega))) ?_
   refine Rg.mv 8 17 rfl ?_
   refine Rg.fin rfl ?_
   refine At.round (t := 1) (fun _ _ h => h) 2 [1] ⟨by omega, fun _ => hk.2.1 (by omega), fun _ => h2⟩ (by decide) (.cons rfl (.cons rfl (.cons rfl (.cons rfl (.nil _))))) rfl (by decide)
 ·
  refine Ev.sr 1 ?_
  refine Rg.p 9 (.binOp .lss 3 (.tmp 8) (.const (.int .i64 2)) 3) (pv_lss rfl rfl) ?_
  refine Rg.know 9 (b := decide (((2 : Nat) : Int) < 2)) (c := false) rfl (by decide) ?_
  refine Rg.nx (fun _ _ h => h) [9,8,7,4,0] rfl ?_
  refine Ev.sq ?_
  refine ev_cond_f (t := 9) (by kernel_rfl) rfl ?_
  refine Ev.xt 0 ?_
  refine At.nx (fun _ _ h => h) [4] rfl ?_
  refine Ev.sr 1 ?_
  refine Rg.ac 4 (.int .u32 0) ?_
  refine Rg.nx (fun _ _ h => h) [4] rfl ?_
  refine Ev.rt ?_
  refine At.via (Q := Q) hQ ?_
  refine At.ret1 rfl rfl rfl ?_
  exact fun w hw => ⟨(by rw [statS, if_neg (by rw [(hk.2.1 (by omega))]; decide), if_neg (of_decide_eq_false (hk.2.2 (by omega)))]), hw.base_below 0 rfl⟩

set_option maxHeartbeats 8000000 in
theorem without_calls {mx : Int} {n c : Nat} {p : Option Addr} {w : World} :
  Calls Try.prog 150 #[.int .i64 mx, .slice p n c] w (RetN w (fun _ : Nat × Nat => True) (fun x => .agg #[.func (.func 170) #[] #[.pointer (some ⟨x.1, 0, none⟩)], .int .u32 22, .func (.func 171) #[] #[.pointer (some ⟨x.2, 0, none⟩)], .int .u32 63]) (fun x => [blk x.1 (.cells #[.slice p n c] 29 (0, 0)), blk x.2 (.cells #[.int .i64 mx] 3 (0, 0))])) := by
 refine calls_ofQ (args := [_, _]) [base w (Low w)] Try.func150 (by kernel_rfl) (by kernel_rfl) (Heap.start w) ?_
 intro Q hQ
 refine Ev.sr 3 ?_
 refine Rg.bx 2 3 (.tmp 0) rfl fun b1 => ?_
 refine Rg.bx 3 29 (.tmp 1) rfl fun b2 => ?_
 refine Rg.al 4 231 (.agg #[.nilFunc, .int .u32 0, .nilFunc, .int .u32 0]) fun b3 => ?_
 refine Rg.nx (fun _ _ h => h) [4,3,2] rfl ?_
 refine Ev.sr 6 ?_
 refine Rg.p 5 (.makeFunc (.func 170) #[] #[.tmp 3]) (v := .func (.func 170) #[] #[.pointer (some ⟨b2, 0, none⟩)]) (pv_makeFunc (xs := [.tmp 3]) rfl) ?_
 refine Rg.p 6 (.build 230 #[(0, .tmp 5), (1, .const (.int .u32 22))]) (v := .agg #[.func (.func 170) #[] #[.pointer (some ⟨b2, 0, none⟩)], .int .u32 22]) (pv_build (parts := [(0, .tmp 5), (1, .const (.int .u32 22))]) (vs := [.func (.func 170) #[] #[.pointer (some ⟨b2, 0, none⟩)], .int .u32 22]) (fs := [(0, 1), (1, 1)]) (zv := .agg #[.nilFunc, .int .u32 0]) (cs := #[.func (.func 170) #[] #[.pointer (some ⟨b2, 0, none⟩)], .int .u32 22]) rfl (by kernel_rfl) (by kernel_rfl) (by kernel_rfl)) ?_
 refine Rg.p 7 (.makeFunc (.func 171) #[] #[.tmp 2]) (v := .func (.func 171) #[] #[.pointer (some ⟨b1, 0, none⟩)]) (pv_makeFunc (xs := [.tmp 2]) rfl) ?_
 refine Rg.p 8 (.build 230 #[(0, .tmp 7), (1, .const (.int .u32 63))]) (v := .agg #[.func (.func 171) #[] #[.pointer (some ⟨b1, 0, none⟩)], .int .u32 63]) (pv_build (parts := [(0, .tmp 7), (1, .const (.int .u32 63))]) (vs := [.func (.func 171) #[] #[.pointer (some ⟨b1, 0, none⟩)], .int .u32 63]) (fs := [(0, 1), (1, 1)]) (zv := .agg #[.nilFunc, .int .u32 0]) (cs := #[.func (.func 171) #[] #[.pointer (some ⟨b1, 0, none⟩)], .int .u32 63]) rfl (by kernel_rfl) (by kernel_rfl) (by kernel_rfl)) ?_
 refine Rg.p 9 (.build 231 #[(0, .tmp 6), (1, .tmp 8)]) (v := .agg #[.func (.func 170) #[] #[.pointer (some ⟨b2, 0, none⟩)], .int .u32 22, .func (.func 171) #[] #[.pointer (some ⟨b1, 0, none⟩)], .int .u32 63]) (pv_buildArr (e := 230) (sz := 2) (n := 2) (parts := [(0, .tmp 6), (1, .tmp 8)]) (vs := [.agg #[.func (.func 170) #[] #[.pointer (some ⟨b2, 0, none⟩)], .int .u32 22], .agg #[.func (.func 171) #[] #[.pointer (some ⟨b1, 0, none⟩)], .int .u32 63]]) (zv := .agg #[.nilFunc, .int .u32 0, .nilFunc, .int .u32 0]) (cs := #[.func (.func 170) #[] #[.pointer (some ⟨b2, 0, none⟩)], .int .u32 22, .func (.func 171) #[] #[.pointer (some ⟨b1, 0, none⟩)], .int .u32 63]) rfl (by kernel_rfl) (by kernel_rfl) (by kernel_rfl) (by kernel_rfl)) ?_
 refine Rg.st 231 4 (.tmp 9) 0 #[.func (.func 170) #[] #[.pointer (some ⟨b2, 0, none⟩)], .int .u32 22, .func (.func 171) #[] #[.pointer (some ⟨b1, 0, none⟩)], .int .u32 63] rfl rfl rfl ?_
 refine Rg.nx (fun _ _ h => h) [4] rfl ?_
 refine Ev.rt ?_
 refine At.via (Q := Q) hQ ?_
 refine At.retCell rfl rfl (reads_cellA 0 rfl rfl (by kernel_rfl) (by kernel_rfl)) ?_
 exact fun w hw => ⟨(b2, b1), trivial, rfl, hw.pick [1, 2, 3] (by decide)⟩

noncomputable def nameS (s : ByteArray) : Int := statS s [0, 47] 255
noncomputable def pathS (s : ByteArray) : Int := statS s [0] 1024

set_option maxHeartbeats 8000000 in
theorem Name_calls {s : ByteArray} {w : World} (hs : s.size ≤ 140737488355328) :
  Calls Try.prog 113 #[.string s] w (Ret w (.int .u32 (nameS s))) := by
 refine calls_ofQ (args := [_]) [base w (Low w)] Try.func113 (by kernel_rfl) (by kernel_rfl) (Heap.start w) ?_
 intro Q hQ
 refine Ev.sr 1 ?_
 refine Rg.ac 2 (.int .u32 0) ?_
 refine Rg.nx (fun _ _ h => h) [2,0] rfl ?_
 refine Ev.sr 5 ?_
 refine Rg.mv 3 0 rfl ?_
 refine rg_buildSlice (d := 4) (t := 29) (e := 5) (sz := 1) (len := 2) (parts := [(0, .const (.int .u8 0)), (1, .const (.int .u8 47))]) (g := none) (vs := [.int .u8 0, .int .u8 47]) (cs := #[.int .u8 0, .int .u8 47]) (by kernel_rfl) (by kernel_rfl) rfl (by kernel_rfl) (.int .u8 0) (by kernel_rfl) (by kernel_rfl) (by kernel_rfl) ?_
 intro b1
 refine Rg.cn (T := Nat × Nat) (some 5) 150 #[.const (.int .i64 255), .tmp 4] #[3, 29] (v := fun ⟨b2, b3⟩ => .agg #[.func (.func 170) #[] #[.pointer (some ⟨b2, 0, none⟩)], .int .u32 22, .func (.func 171) #[] #[.pointer (some ⟨b3, 0, none⟩)], .int .u32 63]) (L := fun ⟨b2, b3⟩ => [blk b2 (.cells #[.slice (some ⟨b1, 0, none⟩) 2 2] 29 (0, 0)), blk b3 (.cells #[.int .i64 255] 3 (0, 0))]) rfl (fun w hw => without_calls) ?_
 rintro ⟨b2, b3⟩ _
 dsimp only [putE, List.append, HAppend.hAppend, Append.append]
 refine Rg.cl (some 6) 149 #[.tmp 3, .tmp 5] #[9, 231] (v := .int .u32 (statS s [0, 47] 255)) rfl (fun w hw => is_str_calls (hw.blk_at 0 rfl) (blk_bytes hw 2 [0, 47] rfl rfl) (by decide) (hw.blk_at 1 rfl) hs) ?_
 refine Rg.as 2 6 rfl ?_
 refine Rg.nx (fun _ _ h => h) [2] rfl ?_
 refine Ev.rt ?_
 refine At.via (Q := Q) hQ ?_
 refine At.ret1 rfl rfl rfl ?_
 exact fun w hw => ⟨rfl, hw.base_below 3 rfl⟩

set_option maxHeartbeats 8000000 in
theorem Path_calls {s : ByteArray} {w : World} (hs : s.size ≤ 140737488355328) :
  Calls Try.prog 111 #[.string s] w (Ret w (.int .u32 (pathS s))) := by
 refine calls_ofQ (args := [_]) [base w (Low w)] Try.func111 (by kernel_rfl) (by kernel_rfl) (Heap.start w) ?_
 intro Q hQ
 refine Ev.sr 1 ?_
 refine Rg.ac 2 (.int .u32 0) ?_
 refine Rg.nx (fun _ _ h => h) [2,0] rfl ?_
 refine Ev.sr 5 ?_
 refine Rg.mv 3 0 rfl ?_
 refine rg_buildSlice (d := 4) (t := 29) (e := 5) (sz := 1) (len := 1) (parts := [(0, .const (.int .u8 0))]) (g := none) (vs := [.int .u8 0]) (cs := #[.int .u8 0]) (by kernel_rfl) (by kernel_rfl) rfl (by kernel_rfl) (.int .u8 0) (by kernel_rfl) (by kernel_rfl) (by kernel_rfl) ?_
 intro b1
 refine Rg.cn (T := Nat × Nat) (some 5) 150 #[.const (.int .i64 1024), .tmp 4] #[3, 29] (v := fun ⟨b2, b3⟩ => .agg #[.func (.func 170) #[] #[.pointer (some ⟨b2, 0, none⟩)], .int .u32 22, .func (.func 171) #[] #[.pointer (some ⟨b3, 0, none⟩)], .int .u32 63]) (L := fun ⟨b2, b3⟩ => [blk b2 (.cells #[.slice (some ⟨b1, 0, none⟩) 1 1] 29 (0, 0)), blk b3 (.cells #[.int .i64 1024] 3 (0, 0))]) rfl (fun w hw => without_calls) ?_
 rintro ⟨b2, b3⟩ _
 dsimp only [putE, List.append, HAppend.hAppend, Append.append]
 refine Rg.cl (some 6) 149 #[.tmp 3, .tmp 5] #[9, 231] (v := .int .u32 (statS s [0] 1024)) rfl (fun w hw => is_str_calls (hw.blk_at 0 rfl) (blk_bytes hw 2 [0] rfl rfl) (by decide) (hw.blk_at 1 rfl) hs) ?_
 refine Rg.as 2 6 rfl ?_
 refine Rg.nx (fun _ _ h => h) [2] rfl ?_
 refine Ev.rt ?_
 refine At.via (Q := Q) hQ ?_
 refine At.ret1 rfl rfl rfl ?_
 exact fun w hw => ⟨rfl, hw.base_below 3 rfl⟩

end Go.Proofs.Ytfhhggcdmgjbcaa.Sx
