/-
  A part of the walk of the seat: laws of a small proof system, and contracts of functions, each proved. Conditions: as each theorem says.
-/
import Derived.Test.YtfhhggcdmgjbcaaProg
import Derived.Test.YtfhhggcdmgjbcaaT9
namespace Go.Proofs.Ytfhhggcdmgjbcaa.Sx
open Go Go.RowKit Go.Proofs

set_option maxHeartbeats 8000000 in
theorem Clone_calls {b o : Nat} {xs : List Int} {cap : Nat} {w : World} (hB : BytesAt (Low w) w (some ⟨b, o, none⟩) xs) (hl : xs.length ≤ 4294967296) :
  Calls Try.prog 104 #[.slice (some ⟨b, o, none⟩) xs.length cap] w (RetN w (fun x : Option Addr × Nat => xs.length ≤ x.2) (fun x => .slice x.1 xs.length x.2) (fun x => [own 5 1 x.1 xs.length x.2 (bv xs)])) := by
 refine calls_ofQ (args := [_]) [base w (Low w)] Try.func104 (by kernel_rfl) (by kernel_rfl) (Heap.start w) ?_
 intro Q hQ
 refine Ev.sr 1 ?_
 refine Rg.ac 2 (.slice none 0 0) ?_
 refine Rg.nx (fun _ _ h => h) [2,0] rfl ?_
 refine Ev.sq ?_
 refine Ev.sr 2 ?_
 refine Rg.mv 3 0 rfl ?_
 refine Rg.p 4 (.binOp .eql 29 (.tmp 3) (.const (.slice none 0 0)) 29) (v := .bool false) (pv_eql_nilslice (p := some ⟨b, o, none⟩) rfl rfl (by kernel_rfl)) ?_
 refine Rg.nx (fun _ _ h => h) [4,2,0] rfl ?_
 refine ev_cond_f (t := 4) (by kernel_rfl) rfl ?_
 refine Ev.sk ?_
 refine At.nx (fun _ _ h => h) [2,0] rfl ?_
 refine Ev.sr 4 ?_
 refine rg_buildSlice0 (d := 5) (t := 29) (e := 5) (sz := 1) (g := none) (by kernel_rfl) (by kernel_rfl) (by kernel_rfl) ?_
 intro b1
 refine Rg.mv 6 0 rfl ?_
 refine rg_append (d := 7) (t := 29) (e := 5) (sz := 1) (x := .tmp 5) (y := .tmp 6) (ty := 29) (g := none) (m := xs.length) (ys := bv xs) (zv := .int .u8 0) 0 (by kernel_rfl) (by kernel_rfl) rfl rfl (by kernel_rfl) (by kernel_rfl) (by kernel_rfl) (by kernel_rfl) (by kernel_rfl) rfl rfl (by rw [bv_length, Nat.mul_one]) (bv_one _) (fun w hw => firstCells_bytes ((hB).keep (hw.at_ 1 rfl) (fun _ h => h))) (by show (2 * (0 + xs.length) + 192) * bytesT Try.prog 5 ≤ 281474976710656; rw [show bytesT Try.prog 5 = 1 from by kernel_rfl]; omega) (by kernel_rfl) ?_
 intro p3 c4 hc_c4 he_c4
 refine Rg.as 2 7 rfl ?_
 refine Rg.nx (fun _ _ h => h) [2] rfl ?_
 refine Ev.rt ?_
 refine At.via (Q := Q) hQ ?_
 refine At.ret1 rfl rfl rfl ?_
 exact fun w hw => ⟨(p3, c4), (by have := hc_c4; rw [Nat.zero_add] at this; exact this), (by rw [Nat.zero_add]), (by have h := hw.pick [0, 1] (by decide); rw [Nat.zero_add] at h; exact h)⟩

def hd (node gen : Int) : List Int := [119, 104, 114, 102] ++ putB node ++ putB gen
def hB (node gen : Int) : List Int := hd node gen ++ putB (sumS (hd node gen))

set_option maxHeartbeats 8000000 in
theorem bytes_calls4 {node gen : Int} {w : World} :
  Calls Try.prog 114 #[.int .u32 node, .int .u32 gen] w (Ret w (.agg (bv (hB node gen)).toArray)) := by
 refine calls_ofQ (args := [_, _]) [base w (Low w)] Try.func114 (by kernel_rfl) (by kernel_rfl) (Heap.start w) ?_
 intro Q hQ
 refine Ev.sr 1 ?_
 refine Rg.al 4 195 (.agg #[.int .u8 0, .int .u8 0, .int .u8 0, .int .u8 0, .int .u8 0, .int .u8 0, .int .u8 0, .int .u8 0, .int .u8 0, .int .u8 0, .int .u8 0, .int .u8 0, .int .u8 0, .int .u8 0, .int .u8 0, .int .u8 0]) fun b1 => ?_
 refine Rg.nx (fun _ _ h => h) [4,1,0] rfl ?_
 refine Ev.sr 9 ?_
 refine rg_buildSlice (d := 6) (t := 29) (e := 5) (sz := 1) (len := 4) (parts := [(0, .const (.int .u8 119)), (1, .const (.int .u8 104)), (2, .const (.int .u8 114)), (3, .const (.int .u8 102))]) (g := none) (vs := [.int .u8 119, .int .u8 104, .int .u8 114, .int .u8 102]) (cs := #[.int .u8 119, .int .u8 104, .int .u8 114, .int .u8 102]) (by kernel_rfl) (by kernel_rfl) rfl (by kernel_rfl) (.int .u8 0) (by kernel_rfl) (by kernel_rfl) (by kernel_rfl) ?_
 intro b2
 refine rg_convert_row (d := 7) (t := 29) (e := 5) (x := .tmp 6) (g := none) 0 (by kernel_rfl) (by kernel_rfl) rfl (by kernel_rfl) (by kernel_rfl) rfl ?_
 refine Rg.mv 8 0 rfl ?_
 refine Rg.cn (T := Option Addr × Nat) (some 9) 84 #[.tmp 8] #[23] (v := fun ⟨p3, c4⟩ => .slice p3 4 c4) (L := fun ⟨p3, c4⟩ => [own 5 1 p3 4 c4 (bv (putB node))]) rfl (fun w hw => Put_calls) ?_
 rintro ⟨p3, c4⟩ hc_c4
 dsimp only [putE, List.append, HAppend.hAppend, Append.append]
 have hk_c4 : 4 ≤ c4 := hc_c4
 refine Rg.mv 10 1 rfl ?_
 refine Rg.cn (T := Option Addr × Nat) (some 11) 84 #[.tmp 10] #[23] (v := fun ⟨p6, c7⟩ => .slice p6 4 c7) (L := fun ⟨p6, c7⟩ => [own 5 1 p6 4 c7 (bv (putB gen))]) rfl (fun w hw => Put_calls) ?_
 rintro ⟨p6, c7⟩ hc_c7
 dsimp only [putE, List.append, HAppend.hAppend, Append.append]
 have hk_c7 : 4 ≤ c7 := hc_c7
 refine rg_buildSlice (d := 12) (t := 237) (e := 29) (sz := 1) (len := 3) (parts := [(0, .tmp 7), (1, .tmp 9), (2, .tmp 11)]) (g := none) (vs := [.slice (some ⟨b2, 0, none⟩) 4 4, .slice p3 4 c4, .slice p6 4 c7]) (cs := #[.slice (some ⟨b2, 0, none⟩) 4 4, .slice p3 4 c4, .slice p6 4 c7]) (by kernel_rfl) (by kernel_rfl) rfl (by kernel_rfl) (.slice none 0 0) (by kernel_rfl) (by kernel_rfl) (by kernel_rfl) ?_
 intro b9
 refine Rg.cn (T := Option Addr × Nat) (some 13) 123 #[.tmp 12] #[237] (v := fun ⟨p10, c11⟩ => .slice p10 12 c11) (L := fun ⟨p10, c11⟩ => [own 5 1 p10 12 c11 (bv (hd node gen))]) rfl (fun w hw => Concat_calls (slicesAt_of hw 0 [⟨some ⟨b2, 0, none⟩, 4, [119, 104, 114, 102]⟩, ⟨p3, c4, (putB node)⟩, ⟨p6, c7, (putB gen)⟩] rfl rfl (by intro r hr; simp only [List.mem_cons, List.not_mem_nil, or_false] at hr; rcases hr with rfl | rfl | rfl <;> first | exact blk_bytes hw 3 [119, 104, 114, 102] rfl rfl | exact own_bytes hw 2 rfl | exact own_bytes hw 1 rfl)) (by show 3 ≤ 1048576; omega) (by show 12 ≤ 1073741824; omega)) ?_
 rintro ⟨p10, c11⟩ hc_c11
 dsimp only [putE, List.append, HAppend.hAppend, Append.append]
 have hk_c11 : 12 ≤ c11 := hc_c11
 refine Rg.as 5 13 rfl ?_
 refine Rg.nx (fun _ _ h => h) [5,4] rfl ?_
 refine Ev.sr 9 ?_
 refine Rg.mv 14 5 rfl ?_
 refine Rg.mv 15 5 rfl ?_
 refine Rg.cl (some 16) 151 #[.tmp 15] #[29] (v := .int .u32 (sumS (hd node gen))) rfl (fun w hw => sum_calls (own_bytes hw 0 rfl) (by show 12 ≤ _; omega)) ?_
 refine Rg.cn (T := Option Addr × Nat) (some 17) 84 #[.tmp 16] #[23] (v := fun ⟨p13, c14⟩ => .slice p13 4 c14) (L := fun ⟨p13, c14⟩ => [own 5 1 p13 4 c14 (bv (putB (sumS (hd node gen))))]) rfl (fun w hw => Put_calls) ?_
 rintro ⟨p13, c14⟩ hc_c14
 dsimp only [putE, List.append, HAppend.hAppend, Append.append]
 have hk_c14 : 4 ≤ c14 := hc_c14
 refine rg_buildSlice (d := 18) (t := 237) (e := 29) (sz := 1) (len := 2) (parts := [(0, .tmp 14), (1, .tmp 17)]) (g := none) (vs := [.slice p10 12 c11, .slice p13 4 c14]) (cs := #[.slice p10 12 c11, .slice p13 4 c14]) (by kernel_rfl) (by kernel_rfl) rfl (by kernel_rfl) (.slice none 0 0) (by kernel_rfl) (by kernel_rfl) (by kernel_rfl) ?_
 intro b16
 refine Rg.cn (T := Option Addr × Nat) (some 19) 123 #[.tmp 18] #[237] (v := fun ⟨p17, c18⟩ => .slice p17 16 c18) (L := fun ⟨p17, c18⟩ => [own 5 1 p17 16 c18 (bv (hB node gen))]) rfl (fun w hw => Concat_calls (slicesAt_of hw 0 [⟨p10, c11, (hd node gen)⟩, ⟨p13, c14, (putB (sumS (hd node gen)))⟩] rfl rfl (by intro r hr; simp only [List.mem_cons, List.not_mem_nil, or_false] at hr; rcases hr with rfl | rfl <;> first | exact own_bytes hw 2 rfl | exact own_bytes hw 1 rfl)) (by show 2 ≤ 1048576; omega) (by show 16 ≤ 1073741824; omega)) ?_
 rintro ⟨p17, c18⟩ hc_c18
 dsimp only [putE, List.append, HAppend.hAppend, Append.append]
 have hk_c18 : 16 ≤ c18 := hc_c18
 refine Rg.p 20 (.sliceToArrayPointer 195 (.tmp 19)) (v := .pointer p17) (pv_arrPtr (m := 16) (e := 5) rfl (by kernel_rfl) (by omega)) ?_
 refine Rg.p 21 (.load 195 (.tmp 20)) (v := .agg ((bv (hB node gen)).toArray)) (pv_load_arr (m := 16) rfl (by omega) (rfl) (by kernel_rfl) (by kernel_rfl) (fun w hw => own_bytes hw 0 rfl)) ?_
 refine Rg.st 195 4 (.tmp 21) 8 ((bv (hB node gen)).toArray) rfl rfl rfl ?_
 refine Rg.nx (fun _ _ h => h) [4] rfl ?_
 refine Ev.rt ?_
 refine At.via (Q := Q) hQ ?_
 refine At.retCell rfl rfl (reads_cellA 8 rfl rfl (by kernel_rfl) (by kernel_rfl)) ?_
 exact fun w hw => ⟨rfl, hw.base_below 9 rfl⟩

set_option maxHeartbeats 8000000 in
theorem hPut_calls {n gen : Int} {w : World} (hn1 : 1 ≤ n) (hn2 : n ≤ 1024) :
  Calls Try.prog 61 #[.agg #[.int .i64 n, .int .u32 gen]] w (RetN w (fun x : Option Addr × Nat => 16 ≤ x.2) (fun x => .tuple #[.slice x.1 16 x.2, .int .i64 0]) (fun x => [own 5 1 x.1 16 x.2 (bv (hB n gen))])) := by
 refine calls_ofQ (args := [_]) [base w (Low w)] Try.func61 (by kernel_rfl) (by kernel_rfl) (Heap.start w) ?_
 intro Q hQ
 refine Ev.sr 3 ?_
 refine Rg.bx 1 132 (.tmp 0) rfl fun b1 => ?_
 refine Rg.ac 2 (.slice none 0 0) ?_
 refine Rg.ac 3 (.int .i64 0) ?_
 refine Rg.nx (fun _ _ h => h) [3,2,1] rfl ?_
 refine Ev.sq ?_
 refine Ev.sr 8 ?_
 refine Rg.fa 5 132 1 0 0 rfl ?_
 refine Rg.ld 6 3 5 0 rfl rfl rfl ?_
 refine Rg.p 7 (.binOp .lss 3 (.tmp 6) (.const (.int .i64 1)) 3) (pv_lss rfl rfl) ?_
 refine Rg.know 7 (b := decide (n < 1)) (c := false) rfl (decide_eq_false (by omega)) ?_
 refine Rg.mv 8 7 rfl ?_
 refine Rg.pg 3 false 9 (.fieldAddr 132 (.tmp 1) 0) (pv_fieldAddr rfl (n := 0) (by kernel_rfl)) ?_
 refine Rg.pg 3 false 10 (.load 3 (.tmp 9)) (v := .int .i64 n) (pv_load_blk 0 rfl rfl (by kernel_rfl) rfl) ?_
 refine Rg.pg 3 false 11 (.binOp .gtr 3 (.tmp 10) (.const (.int .i64 1024)) 3) (pv_gtr rfl rfl) ?_
 refine Rg.know 11 (b := decide (1024 < n)) (c := false) rfl (decide_eq_false (by omega)) ?_
 refine Rg.p 12 (.pick (.tmp 8) (.const (.bool true)) (.tmp 11)) (pv_pick_f rfl rfl) ?_
 refine Rg.nx (fun _ _ h => h) [12,3,2,1] rfl ?_
 refine ev_cond_f (t := 12) (by kernel_rfl) rfl ?_
 refine Ev.sk ?_
 refine At.nx (fun _ _ h => h) [3,2,1] rfl ?_
 refine Ev.sr 8 ?_
 refine Rg.fa 13 132 1 0 0 rfl ?_
 refine Rg.ld 14 3 13 0 rfl rfl rfl ?_
 refine Rg.p 15 (.convert 3 23 (.tmp 14)) (pv_convertb (q' := .u32) rfl (by kernel_rfl) (by kernel_rfl) (in_u32 (by omega) (by omega))) ?_
 refine Rg.fa 16 132 1 1 1 rfl ?_
 refine Rg.ld 17 23 16 0 rfl rfl rfl ?_
 refine Rg.cl (some 18) 114 #[.tmp 15, .tmp 17] #[23, 23] (v := .agg ((bv (hB n gen)).toArray)) rfl (fun w hw => bytes_calls4) ?_
 refine Rg.al 4 195 (.agg #[.int .u8 0, .int .u8 0, .int .u8 0, .int .u8 0, .int .u8 0, .int .u8 0, .int .u8 0, .int .u8 0, .int .u8 0, .int .u8 0, .int .u8 0, .int .u8 0, .int .u8 0, .int .u8 0, .int .u8 0, .int .u8 0]) fun b2 => ?_
 refine Rg.st 195 4 (.tmp 18) 0 ((bv (hB n gen)).toArray) rfl rfl rfl ?_
 refine Rg.nx (fun _ _ h => h) [4,3,2] rfl ?_
 refine Ev.sr 4 ?_
 refine Rg.p 19 (.slice 195 (.tmp 4) none none none) (v := .slice (some ⟨b2, 0, none⟩) 16 16) (pv_slice_arr (e := 5) rfl (by kernel_rfl) (by kernel_rfl)) ?_
 refine Rg.cn (T := Option Addr × Nat) (some 20) 104 #[.tmp 19] #[29] (v := fun ⟨p3, c4⟩ => .slice p3 16 c4) (L := fun ⟨p3, c4⟩ => [own 5 1 p3 16 c4 (bv (hB n gen))]) rfl (fun w hw => Clone_calls (blk_bytes hw 0 (hB n gen) rfl rfl) (by show 16 ≤ _; omega)) ?_
 rintro ⟨p3, c4⟩ hc_c4
 dsimp only [putE, List.append, HAppend.hAppend, Append.append]
 have hk_c4 : 16 ≤ c4 := hc_c4
 refine Rg.as 2 20 rfl ?_
 refine Rg.ac 3 (.int .i64 0) ?_
 refine Rg.nx (fun _ _ h => h) [3,2] rfl ?_
 refine Ev.rt ?_
 refine At.via (Q := Q) hQ ?_
 refine At.ret2 rfl rfl rfl rfl ?_
 exact fun w hw => ⟨(p3, c4), by first | assumption | (show _ ≤ _; omega), rfl, hw.pick [0, 3] (by decide)⟩

def getH (xs : List Int) : Int × Int × Int :=
  if xs.length ≠ 16 then (0, 0, 5) else
  if getN (xs.drop 4) < 1 ∨ 1024 < getN (xs.drop 4) ∨ hB (getN (xs.drop 4)) (getN (xs.drop 8)) ≠ xs then (0, 0, 5) else (getN (xs.drop 4), getN (xs.drop 8), 0)

set_option maxHeartbeats 8000000 in
theorem hGet_calls {p : Option Addr} {xs : List Int} {cap : Nat} {w : World} (hB_ : BytesAt (Low w) w p xs) (hl : xs.length ≤ 4294967296) (hc : xs.length ≤ cap) :
  Calls Try.prog 62 #[.slice p xs.length cap] w (Ret w (.tuple #[.agg #[.int .i64 (getH xs).1, .int .u32 (getH xs).2.1], .int .i64 (getH xs).2.2])) := by
 refine calls_ofQ (args := [_]) [base w (Low w)] Try.func62 (by kernel_rfl) (by kernel_rfl) (Heap.start w) ?_
 intro Q hQ
 refine Ev.sr 2 ?_
 refine Rg.al 2 132 (.agg #[.int .i64 0, .int .u32 0]) fun b1 => ?_
 refine Rg.ac 3 (.int .i64 0) ?_
 refine Rg.nx (fun _ _ h => h) [3,2,0] rfl ?_
 refine Ev.sq ?_
 refine Ev.sr 3 ?_
 refine Rg.mv 8 0 rfl ?_
 refine Rg.p 9 (.call { callee := .builtin .len, args := #[.tmp 8], argTypes := #[29] }) (pv_len_slice rfl (by kernel_rfl)) ?_
 refine Rg.p 10 (.binOp .neq 3 (.tmp 9) (.const (.int .i64 16)) 3) (pv_neq rfl rfl) ?_
 refine Rg.nx (fun _ _ h => h) [10,3,2,0] rfl ?_
 refine Ev.cd 10 rfl (fun h1 => ?_) (fun h1 => ?_)
 ·
  have h2 := of_decide_eq_false (not_t h1)
  refine Ev.sr 3 ?_
  refine Rg.p 11 (.build 132 #[]) (v := .agg #[.int .i64 0, .int .u32 0]) (pv_build (parts := []) (vs := []) (fs := [(0, 1), (1, 1)]) (zv := .agg #[.int .i64 0, .int .u32 0]) (cs := #[.int .i64 0, .int .u32 0]) rfl (by kernel_rfl) (by kernel_rfl) (by kernel_rfl)) ?_
  refine Rg.st 132 2 (.tmp 11) 0 #[.int .i64 0, .int .u32 0] rfl rfl rfl ?_
  refine Rg.ac 3 (.int .i64 5) ?_
  refine Rg.nx (fun _ _ h => h) [3,2,0] rfl ?_
  refine Ev.rt ?_
  refine At.via (Q := Q) hQ ?_
  refine At.retCell2 rfl rfl (reads_cellA 0 rfl rfl (by kernel_rfl) (by kernel_rfl)) (reads_tmp rfl) ?_
  exact fun w hw => ⟨(by unfold getH; rw [if_pos (by omega)]), hw.base_below 1 rfl⟩
 ·
  have h3 := of_decide_eq_true (not_f h1)
  refine Ev.sk ?_
  refine At.nx (fun _ _ h => h) [3,2,0] rfl ?_
  refine Ev.sr 8 ?_
  refine Rg.mv 13 0 rfl ?_
  refine Rg.p 14 (.slice 29 (.tmp 13) (some (.const (.int .i64 4))) none none) (v := .slice (subP p cap ((4 : Int).toNat) 1) (xs.length - ((4 : Int).toNat)) (cap - ((4 : Int).toNat))) (pv_slice_lo rfl rfl (e := 5) (sz := 1) (by kernel_rfl) (by omega) (by omega)) ?_
  refine Rg.cl (some 15) 115 #[.tmp 14] #[29] (v := .tuple #[.int .u32 (getN (xs.drop 4)), .int .i64 (getE (xs.drop 4))]) rfl (fun w hw => (by have h := Get_calls (cap := cap - 4) (BytesAt.drop (l := 4) (((hB_).keep (hw.at_ 1 rfl) (fun k hk => hw.lt 1 rfl hk))) (by omega)) (by rw [List.length_drop]; omega) (by rw [List.length_drop]; omega); rw [List.length_drop] at h; exact h)) ?_
  refine Rg.mv 12 15 rfl ?_
  refine Rg.ex 16 12 0 rfl rfl ?_
  refine Rg.ex 17 12 1 rfl rfl ?_
  refine Rg.as 4 16 rfl ?_
  refine Rg.as 5 17 rfl ?_
  refine Rg.nx (fun _ _ h => h) [4,3,2,0] rfl ?_
  refine Ev.sr 8 ?_
  refine Rg.mv 19 0 rfl ?_
  refine Rg.p 20 (.slice 29 (.tmp 19) (some (.const (.int .i64 8))) none none) (v := .slice (subP p cap ((8 : Int).toNat) 1) (xs.length - ((8 : Int).toNat)) (cap - ((8 : Int).toNat))) (pv_slice_lo rfl rfl (e := 5) (sz := 1) (by kernel_rfl) (by omega) (by omega)) ?_
  refine Rg.cl (some 21) 115 #[.tmp 20] #[29] (v := .tuple #[.int .u32 (getN (xs.drop 8)), .int .i64 (getE (xs.drop 8))]) rfl (fun w hw => (by have h := Get_calls (cap := cap - 8) (BytesAt.drop (l := 8) (((hB_).keep (hw.at_ 1 rfl) (fun k hk => hw.lt 1 rfl hk))) (by omega)) (by rw [List.length_drop]; omega) (by rw [List.length_drop]; omega); rw [List.length_drop] at h; exact h)) ?_
  refine Rg.mv 18 21 rfl ?_
  refine Rg.ex 22 18 0 rfl rfl ?_
  refine Rg.ex 23 18 1 rfl rfl ?_
  refine Rg.as 6 22 rfl ?_
  refine Rg.as 7 23 rfl ?_
  refine Rg.nx (fun _ _ h => h) [6,4,3,2,0] rfl ?_
  refine Ev.sq ?_
  refine Ev.sq ?_
  refine ev_quiet (n := 15) (E' := [(2, .pointer (some ⟨b1, 0, none⟩)), (3, .int .i64 0), (4, .int .u32 (getN (xs.drop 4))), (6, .int .u32 (getN (xs.drop 8))), (38, .bool (((decide ((getN (xs.drop 4)) < 1)) || (decide (1024 < (getN (xs.drop 4))))) || (!(decide ((hB (getN (xs.drop 4)) (getN (xs.drop 8))) = xs)))))]) (by kernel_rfl) (by kernel_rfl) ?_ ?_
  ·
   refine Qg.pure (d := 24) (op := .move (.tmp 4)) (g := none) (v := .int .u32 (getN (xs.drop 4))) (by kernel_rfl) (by kernel_rfl) (pv_move rfl) ?_
   refine Qg.pure (d := 25) (op := .binOp .lss 23 (.tmp 24) (.const (.int .u32 1)) 23) (g := none) (v := .bool (decide ((getN (xs.drop 4)) < 1))) (by kernel_rfl) (by kernel_rfl) (pv_lss rfl rfl) ?_
   refine Qg.pure (d := 26) (op := .move (.tmp 25)) (g := none) (v := .bool (decide ((getN (xs.drop 4)) < 1))) (by kernel_rfl) (by kernel_rfl) (pv_move rfl) ?_
   refine Qg.split 6 [(29, .bool ((decide ((getN (xs.drop 4)) < 1)) || (decide (1024 < (getN (xs.drop 4)))))), (0, .slice p xs.length cap), (2, .pointer (some ⟨b1, 0, none⟩)), (3, .int .i64 0), (4, .int .u32 (getN (xs.drop 4))), (6, .int .u32 (getN (xs.drop 8)))] [blk b1 (.cells #[.int .i64 0, .int .u32 0] 132 (0, 0)), base w (Low w)] (s := 26) (g := decide ((getN (xs.drop 4)) < 1)) rfl (by decide) (fun h4 => ?_) (fun h4 => ?_) ?_
   ·
    refine Qg.skips 5 (by kernel_rfl) ?_
    refine Qg.pure (d := 29) (op := .pick (.tmp 26) (.const (.bool true)) (.tmp 28)) (g := none) (v := .bool true) (by kernel_rfl) (by kernel_rfl) (pv_pick_t rfl rfl) ?_
    exact Qg.mid (.cons (or_of_t h4 rfl) (.cons (rfl) (.cons (rfl) (.cons (rfl) (.cons (rfl) (.cons (rfl) (.nil _))))))) rfl
   ·
    have h5 := of_decide_eq_false h4
    refine Qg.pure (d := 27) (op := .move (.tmp 4)) (g := some (2, false)) (v := .int .u32 (getN (xs.drop 4))) (by kernel_rfl) (by kernel_rfl) (pv_move rfl) ?_
    refine Qg.pure (d := 28) (op := .binOp .gtr 23 (.tmp 27) (.const (.int .u32 1024)) 23) (g := some (2, false)) (v := .bool (decide (1024 < (getN (xs.drop 4))))) (by kernel_rfl) (by kernel_rfl) (pv_gtr rfl rfl) ?_
    refine Qg.pure (d := 29) (op := .pick (.tmp 26) (.const (.bool true)) (.tmp 28)) (g := none) (v := .bool (decide (1024 < (getN (xs.drop 4))))) (by kernel_rfl) (by kernel_rfl) (pv_pick_f rfl rfl) ?_
    exact Qg.mid (.cons (or_of_f h4 rfl) (.cons (rfl) (.cons (rfl) (.cons (rfl) (.cons (rfl) (.cons (rfl) (.nil _))))))) rfl
   refine Qg.pure (d := 30) (op := .move (.tmp 29)) (g := none) (v := .bool ((decide ((getN (xs.drop 4)) < 1)) || (decide (1024 < (getN (xs.drop 4)))))) (by kernel_rfl) (by kernel_rfl) (pv_move rfl) ?_
   refine Qg.split 15 [(38, .bool (((decide ((getN (xs.drop 4)) < 1)) || (decide (1024 < (getN (xs.drop 4))))) || (!(decide ((hB (getN (xs.drop 4)) (getN (xs.drop 8))) = xs))))), (2, .pointer (some ⟨b1, 0, none⟩)), (3, .int .i64 0), (4, .int .u32 (getN (xs.drop 4))), (6, .int .u32 (getN (xs.drop 8)))] [blk b1 (.cells #[.int .i64 0, .int .u32 0] 132 (0, 0)), base w (Low w)] (s := 30) (g := (decide ((getN (xs.drop 4)) < 1)) || (decide (1024 < (getN (xs.drop 4))))) rfl (by decide) (fun h6 => ?_) (fun h6 => ?_) ?_
   ·
    refine Qg.skips 14 (by kernel_rfl) ?_
    refine Qg.pure (d := 38) (op := .pick (.tmp 30) (.const (.bool true)) (.tmp 37)) (g := none) (v := .bool true) (by kernel_rfl) (by kernel_rfl) (pv_pick_t rfl rfl) ?_
    exact Qg.mid (.cons (or_of_t h6 rfl) (.cons (rfl) (.cons (rfl) (.cons (rfl) (.cons (rfl) (.nil _)))))) rfl
   ·
    have ⟨h7, h8⟩ := or_f h6
    have h9 := of_decide_eq_false h7
    have h10 := of_decide_eq_false h8
    refine Qg.pure (d := 31) (op := .move (.tmp 4)) (g := some (6, false)) (v := .int .u32 (getN (xs.drop 4))) (by kernel_rfl) (by kernel_rfl) (pv_move rfl) ?_
    refine Qg.pure (d := 32) (op := .move (.tmp 6)) (g := some (6, false)) (v := .int .u32 (getN (xs.drop 8))) (by kernel_rfl) (by kernel_rfl) (pv_move rfl) ?_
    refine qg_call (d := some 33) (f := 114) (xs := #[.tmp 31, .tmp 32]) (ts := #[23, 23]) (g := some (6, false)) (v := .agg ((bv (hB (getN (xs.drop 4)) (getN (xs.drop 8)))).toArray)) (by kernel_rfl) (by kernel_rfl) (by kernel_rfl) rfl (fun w hw => bytes_calls4) ?_
    refine Qg.pure (d := 34) (op := .move (.tmp 0)) (g := some (6, false)) (v := .slice p xs.length cap) (by kernel_rfl) (by kernel_rfl) (pv_move rfl) ?_
    refine Qg.pure (d := 35) (op := .sliceToArrayPointer 195 (.tmp 34)) (g := some (6, false)) (v := .pointer p) (by kernel_rfl) (by kernel_rfl) (pv_arrPtr (m := 16) (e := 5) rfl (by kernel_rfl) (by omega)) ?_
    refine Qg.pure (d := 36) (op := .load 195 (.tmp 35)) (g := some (6, false)) (v := .agg ((bv xs).toArray)) (by kernel_rfl) (by kernel_rfl) (pv_load_arr (m := 16) rfl (by omega) (by omega) (by kernel_rfl) (by kernel_rfl) (fun w hw => ((hB_).keep (hw.at_ 1 rfl) (fun k hk => hw.lt 1 rfl hk)))) ?_
    refine Qg.pure (d := 37) (op := .binOp .neq 195 (.tmp 33) (.tmp 36) 195) (g := some (6, false)) (v := .bool (!(decide ((hB (getN (xs.drop 4)) (getN (xs.drop 8))) = xs)))) (by kernel_rfl) (by kernel_rfl) (pv_neq_arr (n := 16) (e := 5) (q := .u8) rfl rfl (by kernel_rfl) (by kernel_rfl) (by kernel_rfl) (by kernel_rfl) (rfl) (by omega)) ?_
    refine Qg.pure (d := 38) (op := .pick (.tmp 30) (.const (.bool true)) (.tmp 37)) (g := none) (v := .bool (!(decide ((hB (getN (xs.drop 4)) (getN (xs.drop 8))) = xs)))) (by kernel_rfl) (by kernel_rfl) (pv_pick_f rfl rfl) ?_
    exact Qg.mid (.cons (or_of_f h6 rfl) (.cons (rfl) (.cons (rfl) (.cons (rfl) (.cons (rfl) (.nil _)))))) rfl
   exact Qg.mid (.cons rfl (.cons rfl (.cons rfl (.cons rfl (.cons rfl (.nil _)))))) rfl
  refine At.nx (fun _ _ h => h) [38,6,4,3,2] rfl ?_
  refine Ev.cd 38 rfl (fun h11 => ?_) (fun h11 => ?_)
  ·
   refine Ev.sr 3 ?_
   refine Rg.p 39 (.build 132 #[]) (v := .agg #[.int .i64 0, .int .u32 0]) (pv_build (parts := []) (vs := []) (fs := [(0, 1), (1, 1)]) (zv := .agg #[.int .i64 0, .int .u32 0]) (cs := #[.int .i64 0, .int .u32 0]) rfl (by kernel_rfl) (by kernel_rfl) (by kernel_rfl)) ?_
   refine Rg.st 132 2 (.tmp 39) 0 #[.int .i64 0, .int .u32 0] rfl rfl rfl ?_
   refine Rg.ac 3 (.int .i64 5) ?_
   refine Rg.nx (fun _ _ h => h) [6,4,3,2] rfl ?_
   refine Ev.rt ?_
   refine At.via (Q := Q) hQ ?_
   refine At.retCell2 rfl rfl (reads_cellA 0 rfl rfl (by kernel_rfl) (by kernel_rfl)) (reads_tmp rfl) ?_
   exact fun w hw => ⟨(by unfold getH; rw [if_neg (by omega), if_pos (by simpa [or_assoc] using h11)]), hw.base_below 1 rfl⟩
  ·
   have ⟨h12, h13⟩ := or_f h11
   have ⟨h14, h15⟩ := or_f h12
   have h16 := of_decide_eq_false h14
   have h17 := of_decide_eq_false h15
   have h18 := of_decide_eq_true (not_f h13)
   refine Ev.sk ?_
   refine At.nx (fun _ _ h => h) [6,4,3,2] rfl ?_
   refine Ev.sr 6 ?_
   refine Rg.mv 40 4 rfl ?_
   refine Rg.p 41 (.convert 23 3 (.tmp 40)) (pv_convertb (q' := .i64) rfl (by kernel_rfl) (by kernel_rfl) (in_i64 (by omega) (by omega))) ?_
   refine Rg.mv 42 6 rfl ?_
   refine Rg.p 43 (.build 132 #[(0, .tmp 41), (1, .tmp 42)]) (v := .agg #[.int .i64 (getN (xs.drop 4)), .int .u32 (getN (xs.drop 8))]) (pv_build (parts := [(0, .tmp 41), (1, .tmp 42)]) (vs := [.int .i64 (getN (xs.drop 4)), .int .u32 (getN (xs.drop 8))]) (fs := [(0, 1), (1, 1)]) (zv := .agg #[.int .i64 0, .int .u32 0]) (cs := #[.int .i64 (getN (xs.drop 4)), .int .u32 (getN (xs.drop 8))]) rfl (by kernel_rfl) (by kernel_rfl) (by kernel_rfl)) ?_
   refine Rg.st 132 2 (.tmp 43) 0 #[.int .i64 (getN (xs.drop 4)), .int .u32 (getN (xs.drop 8))] rfl rfl rfl ?_
   refine Rg.ac 3 (.int .i64 0) ?_
   refine Rg.nx (fun _ _ h => h) [3,2] rfl ?_
   refine Ev.rt ?_
   refine At.via (Q := Q) hQ ?_
   refine At.retCell2 rfl rfl (reads_cellA 0 rfl rfl (by kernel_rfl) (by kernel_rfl)) (reads_tmp rfl) ?_
   exact fun w hw => ⟨(by unfold getH; rw [if_neg (by omega), if_neg (by simpa [not_or, and_assoc] using h11)]), hw.base_below 1 rfl⟩

end Go.Proofs.Ytfhhggcdmgjbcaa.Sx
