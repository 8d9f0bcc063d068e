/-
  A part of the walk of the seat: laws of a small proof system, and contracts of functions, each proved. Conditions: as each theorem says.
-/
import Derived.Test.YtfhhggcdmgjbcaaProg
import Derived.Test.YtfhhggcdmgjbcaaT8
namespace Go.Proofs.Ytfhhggcdmgjbcaa.Sx
open Go Go.RowKit Go.Proofs

def putB (n : Int) : List Int := [byteAt (IntKind.u64.wrap n) 4 0, byteAt (IntKind.u64.wrap n) 4 1, byteAt (IntKind.u64.wrap n) 4 2, byteAt (IntKind.u64.wrap n) 4 3]

set_option maxHeartbeats 8000000 in
theorem Put_calls {n : Int} {w : World} :
  Calls Try.prog 84 #[.int .u32 n] w (RetN w (fun x : Option Addr × Nat => 4 ≤ x.2) (fun x => .slice x.1 4 x.2) (fun x => [own 5 1 x.1 4 x.2 (bv (putB n))])) := by
 refine calls_ofQ (args := [_]) [base w (Low w)] Try.func84 (by kernel_rfl) (by kernel_rfl) (Heap.start w) ?_
 intro Q hQ
 refine Ev.sr 1 ?_
 refine Rg.ac 2 (.slice none 0 0) ?_
 refine Rg.nx (fun _ _ h => h) [2,0] rfl ?_
 refine Ev.sr 4 ?_
 refine Rg.mv 3 0 rfl ?_
 refine Rg.p 4 (.convert 23 34 (.tmp 3)) (pv_convert (q' := .u64) rfl (by kernel_rfl) (by kernel_rfl)) ?_
 refine Rg.cn (T := Option Addr × Nat) (some 5) 122 #[.tmp 4, .const (.int .i64 4)] #[34, 3] (v := fun ⟨p1, c2⟩ => .slice p1 4 c2) (L := fun ⟨p1, c2⟩ => [own 5 1 p1 4 c2 (putV (IntKind.u64.wrap n) 4 4)]) rfl (fun w hw => put_calls (m := 4) (by omega)) ?_
 rintro ⟨p1, c2⟩ hc_c2
 dsimp only [putE, List.append, HAppend.hAppend, Append.append]
 have hk_c2 : 4 ≤ c2 := hc_c2
 refine Rg.as 2 5 rfl ?_
 refine Rg.nx (fun _ _ h => h) [2] rfl ?_
 refine Ev.rt ?_
 refine At.via (Q := Q) hQ ?_
 refine At.ret1 rfl rfl rfl ?_
 exact fun w hw => ⟨(p1, c2), by first | assumption | (show _ ≤ _; omega), rfl, hw.pick [0, 1] (by decide)⟩

set_option maxHeartbeats 8000000 in
theorem Grow_calls {n : Int} {w : World} (hn0 : 0 ≤ n) (hn1 : n ≤ 4294967296) :
  Calls Try.prog 155 #[.slice none 0 0, .int .i64 n] w (RetN w (fun x : Option Addr × Nat => n.toNat ≤ x.2) (fun x => .slice x.1 0 x.2) (fun x => [own 5 1 x.1 0 x.2 []])) := by
 refine calls_ofQ (args := [_, _]) [base w (Low w)] Try.func155 (by kernel_rfl) (by kernel_rfl) (Heap.start w) ?_
 intro Q hQ
 refine Ev.sr 1 ?_
 refine Rg.ac 4 (.slice none 0 0) ?_
 refine Rg.nx (fun _ _ h => h) [4,1,0] rfl ?_
 refine Ev.sq ?_
 refine Ev.sr 2 ?_
 refine Rg.mv 5 1 rfl ?_
 refine Rg.p 6 (.binOp .lss 3 (.tmp 5) (.const (.int .i64 0)) 3) (pv_lss rfl rfl) ?_
 refine Rg.nx (fun _ _ h => h) [6,4,1,0] rfl ?_
 refine Ev.cd 6 rfl (fun h1 => ?_) (fun h1 => ?_)
 ·
  have h2 := of_decide_eq_true h1
  exact (show False from by omega).elim
 ·
  have h3 := of_decide_eq_false h1
  refine Ev.sk ?_
  refine At.nx (fun _ _ h => h) [4,1,0] rfl ?_
  refine Ev.sq ?_
  refine Ev.sr 8 ?_
  refine Rg.mv 8 1 rfl ?_
  refine Rg.mv 9 0 rfl ?_
  refine Rg.p 10 (.call { callee := .builtin .cap, args := #[.tmp 9], argTypes := #[29] }) (v := .int .i64 0) (pv_cap_slice rfl (by kernel_rfl)) ?_
  refine Rg.mv 11 0 rfl ?_
  refine Rg.p 12 (.call { callee := .builtin .len, args := #[.tmp 11], argTypes := #[29] }) (v := .int .i64 (0 : Int)) (pv_len_slice rfl (by kernel_rfl)) ?_
  refine Rg.p 13 (.binOp .sub 3 (.tmp 10) (.tmp 12) 3) (pv_subb rfl rfl (in_i64 (by omega) (by omega))) ?_
  refine Rg.p 14 (.binOp .sub 3 (.tmp 8) (.tmp 13) 3) (pv_subb rfl rfl (in_i64 (by omega) (by omega))) ?_
  refine Rg.as 1 14 rfl ?_
  refine Rg.nx (fun _ _ h => h) [4,1,0] rfl ?_
  refine Ev.sr 2 ?_
  refine Rg.mv 15 1 rfl ?_
  refine Rg.p 16 (.binOp .gtr 3 (.tmp 15) (.const (.int .i64 0)) 3) (pv_gtr rfl rfl) ?_
  refine Rg.nx (fun _ _ h => h) [16,4,1,0] rfl ?_
  refine Ev.cd 16 rfl (fun h4 => ?_) (fun h4 => ?_)
  ·
   have h5 := of_decide_eq_true h4
   refine Ev.rg 10 ?_
   refine Rg.mv 17 0 rfl ?_
   refine Rg.mv 18 0 rfl ?_
   refine Rg.p 19 (.call { callee := .builtin .cap, args := #[.tmp 18], argTypes := #[29] }) (v := .int .i64 0) (pv_cap_slice rfl (by kernel_rfl)) ?_
   refine Rg.p 20 (.slice 29 (.tmp 17) none (some (.tmp 19)) none) (v := .slice none ((0 : Int).toNat) 0) (pv_slice_hi rfl rfl (e := 5) (sz := 1) (by kernel_rfl) (by omega) (by omega)) ?_
   refine Rg.mv 21 1 rfl ?_
   refine rg_appendZ (d := 22) (t := 29) (e := 5) (x := .tmp 20) (y := .tmp 21) (ty := 3) (g := none) (q := .i64) (by kernel_rfl) (by kernel_rfl) rfl rfl (by kernel_rfl) (zv := .int .u8 0) (by kernel_rfl) (by kernel_rfl) (by kernel_rfl) (by omega) (by omega) (by show bytesT Try.prog 5 ≤ 4096; rw [show bytesT Try.prog 5 = 1 from by kernel_rfl]; omega) ?_
   intro p1 c2 hc_c2
   refine Rg.mv 23 0 rfl ?_
   refine Rg.p 24 (.call { callee := .builtin .len, args := #[.tmp 23], argTypes := #[29] }) (v := .int .i64 (0 : Int)) (pv_len_slice rfl (by kernel_rfl)) ?_
   refine Rg.p 25 (.slice 29 (.tmp 22) none (some (.tmp 24)) none) (v := .slice p1 (((0 : Int)).toNat) c2) (pv_slice_hi rfl rfl (e := 5) (sz := 1) (by kernel_rfl) (by omega) (by omega)) ?_
   refine Rg.as 0 25 rfl ?_
   refine Rg.nx (fun _ _ h => h) [4,0] rfl ?_
   refine Ev.sr 2 ?_
   refine Rg.mv 26 0 rfl ?_
   refine Rg.as 4 26 rfl ?_
   refine Rg.nx (fun _ _ h => h) [4] rfl ?_
   refine Ev.rt ?_
   refine At.via (Q := Q) hQ ?_
   refine At.ret1 rfl rfl rfl ?_
   exact fun w hw => ⟨(p1, c2), by show n.toNat ≤ c2; (have := hc_c2; rw [show n - (0 - 0) = n by omega] at this; exact this), rfl, hw.pick [0, 1] (by decide)⟩
  ·
   have h6 := of_decide_eq_false h4
   refine Ev.sk ?_
   refine At.nx (fun _ _ h => h) [4,0] rfl ?_
   refine Ev.sr 2 ?_
   refine Rg.mv 26 0 rfl ?_
   refine Rg.as 4 26 rfl ?_
   refine Rg.nx (fun _ _ h => h) [4] rfl ?_
   refine Ev.rt ?_
   refine At.via (Q := Q) hQ ?_
   refine At.ret1 rfl rfl rfl ?_
   exact fun w hw => ⟨(none, 0), by show n.toNat ≤ 0; omega, rfl, (hw.ownNil 5 1).pick [0, 1] (by decide)⟩

set_option maxHeartbeats 8000000 in
theorem Concat_calls {p : Option Addr} {rs : List Row} {cap : Nat} {w : World} (hR : SlicesAt (Low w) w p rs) (hl : rs.length ≤ 1048576) (ht : lenTo rs rs.length ≤ 1073741824) :
  Calls Try.prog 123 #[.slice p rs.length cap] w (RetN w (fun x : Option Addr × Nat => lenTo rs rs.length ≤ x.2) (fun x => .slice x.1 (lenTo rs rs.length) x.2) (fun x => [own 5 1 x.1 (lenTo rs rs.length) x.2 (bv (catB rs rs.length))])) := by
 refine calls_ofQ (args := [_]) [base w (Low w)] Try.func123 (by kernel_rfl) (by kernel_rfl) (Heap.start w) ?_
 intro Q hQ
 refine Ev.sr 1 ?_
 refine Rg.ac 2 (.slice none 0 0) ?_
 refine Rg.nx (fun _ _ h => h) [2,0] rfl ?_
 refine Ev.sr 1 ?_
 refine Rg.ac 3 (.int .i64 0) ?_
 refine Rg.nx (fun _ _ h => h) [3,2,0] rfl ?_
 refine Ev.sq ?_
 refine Ev.sr 3 ?_
 refine Rg.mv 9 0 rfl ?_
 refine Rg.p 10 (.call { callee := .builtin .len, args := #[.tmp 9], argTypes := #[237] }) (pv_len_slice rfl (by kernel_rfl)) ?_
 refine Rg.mc 11 (.int .i64 0) ?_
 refine Rg.nx (fun _ _ h => h) [11,10,9,3,2,0] rfl ?_
 refine Ev.bk 0 ?_
 refine ev_loop (T := Nat) (fun k => [(2, .slice none 0 0), (0, .slice p rs.length cap), (3, .int .i64 (lenTo rs k : Int)), (9, .slice p rs.length cap), (10, .int .i64 (rs.length : Int)), (11, .int .i64 (k : Int))]) (fun k => [base w (Low w)]) (fun k => k ≤ rs.length) (fun k => rs.length - k) 0 [0] (by kernel_rfl) (by omega) (.cons (rfl) (.cons (rfl) (.cons (rfl) (.cons (rfl) (.cons (rfl) (.cons (rfl) (.nil _))))))) rfl (by decide) ?_
 rintro k (hk : k ≤ rs.length)
 show Ev _ _ [(2, .slice none 0 0), (0, .slice p rs.length cap), (3, .int .i64 (lenTo rs k : Int)), (9, .slice p rs.length cap), (10, .int .i64 (rs.length : Int)), (11, .int .i64 (k : Int))] [base w (Low w)] _
 have hb1 := lenTo_all rs k
 have hb2 := lenTo_all rs (k + 1)
 simp only [lenTo] at hb2
 refine Ev.sr 1 ?_
 refine Rg.p 12 (.binOp .lss 3 (.tmp 11) (.tmp 10) 3) (pv_lss rfl rfl) ?_
 refine Rg.nx (fun _ _ h => h) [12,11,10,9,3,2,0] rfl ?_
 refine Ev.sq ?_
 refine Ev.cd 12 rfl (fun h1 => ?_) (fun h1 => ?_)
 ·
  have h2 := of_decide_eq_true h1
  refine Ev.sk ?_
  refine At.nx (fun _ _ h => h) [12,11,10,9,3,2,0] rfl ?_
  refine Ev.sq ?_
  refine Ev.bk 1 ?_
  refine Ev.sr 3 ?_
  have ⟨q1, o2, hp3⟩ := hR.rows.adr (by omega)
  refine Rg.p 13 (.indexAddr 237 (.tmp 9) (.tmp 11)) (v := .pointer (some ⟨q1, o2 + ((k : Int)).toNat * 1, none⟩)) (pv_indexAddr' rfl hp3 rfl (e := 29) (sz := 1) (by kernel_rfl) (by omega) (by omega)) ?_
  refine Rg.p 14 (.load 29 (.tmp 13)) (v := .slice ((rw_ rs k).p) ((rw_ rs k).xs.length) ((rw_ rs k).cap)) (pv_load rfl (by kernel_rfl) (fun w hw => ((hR).keep (hw.at_ 0 rfl) (fun _ h => h)).rows.cell _ _ hp3 _ (by omega) 0 (by decide))) ?_
  refine Rg.as 5 14 rfl ?_
  refine Rg.nx (fun _ _ h => h) [14,13,12,11,10,9,5,3,2,0] rfl ?_
  refine Ev.sr 5 ?_
  refine Rg.mv 15 3 rfl ?_
  refine Rg.mv 16 5 rfl ?_
  refine Rg.p 17 (.call { callee := .builtin .len, args := #[.tmp 16], argTypes := #[29] }) (pv_len_slice rfl (by kernel_rfl)) ?_
  refine Rg.p 18 (.binOp .add 3 (.tmp 15) (.tmp 17) 3) (pv_addb rfl rfl (in_i64 (by omega) (by omega))) ?_
  refine Rg.as 3 18 rfl ?_
  refine Rg.nx (fun _ _ h => h) [18,17,16,15,14,13,12,11,10,9,5,3,2,0] rfl ?_
  refine Ev.sr 2 ?_
  refine Rg.mv 19 3 rfl ?_
  refine Rg.p 20 (.binOp .lss 3 (.tmp 19) (.const (.int .i64 0)) 3) (pv_lss rfl rfl) ?_
  refine Rg.nx (fun _ _ h => h) [20,19,18,17,16,15,14,13,12,11,10,9,5,3,2,0] rfl ?_
  refine Ev.cd 20 rfl (fun h3 => ?_) (fun h3 => ?_)
  ·
   have h4 := of_decide_eq_true h3
   exact (show False from by omega).elim
  ·
   have h5 := of_decide_eq_false h3
   refine Ev.sk ?_
   refine At.nx (fun _ _ h => h) [20,19,18,17,16,15,14,13,12,11,10,9,5,3,2,0] rfl ?_
   refine Ev.rg 2 ?_
   refine Rg.p 22 (.binOp .add 3 (.tmp 11) (.const (.int .i64 1)) 3) (pv_addb rfl rfl (in_i64 (by omega) (by omega))) ?_
   refine Rg.mv 11 22 rfl ?_
   refine Rg.fin rfl ?_
   refine At.round (fun _ _ h => h) (k + 1) [0] (by omega) (by show rs.length - (k + 1) < rs.length - k; omega) (.cons (rfl) (.cons (rfl) (.cons (rfl) (.cons (rfl) (.cons (rfl) (.cons (rfl) (.nil _))))))) rfl (by decide)
 ·
  have h6 := of_decide_eq_false h1
  refine Ev.xt 0 ?_
  refine At.nx (fun _ _ h => h) [3,2,0] rfl ?_
  refine Ev.sr 3 ?_
  refine Rg.mv 23 3 rfl ?_
  refine Rg.cn (T := Option Addr × Nat) (some 24) 155 #[.const (.slice none 0 0), .tmp 23] #[29, 3] (v := fun ⟨p4, c5⟩ => .slice p4 0 c5) (L := fun ⟨p4, c5⟩ => [own 5 1 p4 0 c5 []]) rfl (fun w hw => Grow_calls (by omega) (by omega)) ?_
  rintro ⟨p4, c5⟩ hc_c5
  dsimp only [putE, List.append, HAppend.hAppend, Append.append]
  refine Rg.as 6 24 rfl ?_
  refine Rg.nx (fun _ _ h => h) [6,2,0] rfl ?_
  refine Ev.sq ?_
  refine Ev.sr 3 ?_
  refine Rg.mv 25 0 rfl ?_
  refine Rg.p 26 (.call { callee := .builtin .len, args := #[.tmp 25], argTypes := #[237] }) (pv_len_slice rfl (by kernel_rfl)) ?_
  refine Rg.mc 27 (.int .i64 0) ?_
  refine Rg.nx (fun _ _ h => h) [27,26,25,6,2] rfl ?_
  refine Ev.bk 2 ?_
  refine ev_loop (T := Nat × Option Addr × Nat) (fun x_ => (fun k p1 c1 => [(2, .slice none 0 0), (6, .slice p1 (lenTo rs k) c1), (25, .slice p rs.length cap), (26, .int .i64 (rs.length : Int)), (27, .int .i64 (k : Int))]) x_.1 x_.2.1 x_.2.2) (fun x_ => (fun k p1 c1 => [own 5 1 p1 (lenTo rs k) c1 (catV rs k), base w (Low w)]) x_.1 x_.2.1 x_.2.2) (fun x_ => (fun k p1 c1 => k ≤ rs.length ∧ lenTo rs k ≤ c1) x_.1 x_.2.1 x_.2.2) (fun x_ => (fun k p1 c1 => rs.length - k) x_.1 x_.2.1 x_.2.2) (0, p4, c5) [0, 1] (by kernel_rfl) ⟨Nat.zero_le _, Nat.zero_le _⟩ (.cons (rfl) (.cons (rfl) (.cons (rfl) (.cons (rfl) (.cons (rfl) (.nil _)))))) rfl (by decide) ?_
  rintro ⟨k, p1, c1⟩ ⟨(hk : k ≤ rs.length), (hk2 : lenTo rs k ≤ c1)⟩
  show Ev _ _ [(2, .slice none 0 0), (6, .slice p1 (lenTo rs k) c1), (25, .slice p rs.length cap), (26, .int .i64 (rs.length : Int)), (27, .int .i64 (k : Int))] [own 5 1 p1 (lenTo rs k) c1 (catV rs k), base w (Low w)] _
  have hb1 := lenTo_all rs k
  have hb2 := lenTo_all rs (k + 1)
  simp only [lenTo] at hb2
  refine Ev.sr 1 ?_
  refine Rg.p 28 (.binOp .lss 3 (.tmp 27) (.tmp 26) 3) (pv_lss rfl rfl) ?_
  refine Rg.nx (fun _ _ h => h) [28,27,26,25,6,2] rfl ?_
  refine Ev.sq ?_
  refine Ev.cd 28 rfl (fun h7 => ?_) (fun h7 => ?_)
  ·
   have h8 := of_decide_eq_true h7
   refine Ev.sk ?_
   refine At.nx (fun _ _ h => h) [28,27,26,25,6,2] rfl ?_
   refine Ev.sq ?_
   refine Ev.bk 3 ?_
   refine Ev.sr 3 ?_
   have ⟨q6, o7, hp8⟩ := hR.rows.adr (by omega)
   refine Rg.p 29 (.indexAddr 237 (.tmp 25) (.tmp 27)) (v := .pointer (some ⟨q6, o7 + ((k : Int)).toNat * 1, none⟩)) (pv_indexAddr' rfl hp8 rfl (e := 29) (sz := 1) (by kernel_rfl) (by omega) (by omega)) ?_
   refine Rg.p 30 (.load 29 (.tmp 29)) (v := .slice ((rw_ rs k).p) ((rw_ rs k).xs.length) ((rw_ rs k).cap)) (pv_load rfl (by kernel_rfl) (fun w hw => ((hR).keep (hw.at_ 1 rfl) (fun _ h => h)).rows.cell _ _ hp8 _ (by omega) 0 (by decide))) ?_
   refine Rg.as 8 30 rfl ?_
   refine Rg.nx (fun _ _ h => h) [30,29,28,27,26,25,8,6,2] rfl ?_
   refine Ev.rg 4 ?_
   refine Rg.mv 31 6 rfl ?_
   refine Rg.mv 32 8 rfl ?_
   refine rg_append (d := 33) (t := 29) (e := 5) (sz := 1) (x := .tmp 31) (y := .tmp 32) (ty := 29) (g := none) (m := (rw_ rs k).xs.length) (ys := bv ((rw_ rs k).xs)) (zv := .int .u8 0) 0 (by kernel_rfl) (by kernel_rfl) rfl rfl (by kernel_rfl) (by kernel_rfl) (by kernel_rfl) (by kernel_rfl) (by kernel_rfl) rfl rfl (by rw [bv_length, Nat.mul_one]) (bv_one _) (fun w hw => firstCells_bytes (((hR.row k)).keep (hw.at_ 1 rfl) (fun _ h => h))) (by show (2 * ((lenTo rs k) + ((rw_ rs k).xs.length)) + 192) * bytesT Try.prog 5 ≤ 281474976710656; rw [show bytesT Try.prog 5 = 1 from by kernel_rfl]; omega) (by kernel_rfl) ?_
   intro p9 c10 hc_c10 he_c10
   refine Rg.as 6 33 rfl ?_
   refine Rg.nx (fun _ _ h => h) [33,32,31,30,29,28,27,26,25,8,6,2] rfl ?_
   refine Ev.rg 2 ?_
   refine Rg.p 34 (.binOp .add 3 (.tmp 27) (.const (.int .i64 1)) 3) (pv_addb rfl rfl (in_i64 (by omega) (by omega))) ?_
   refine Rg.mv 27 34 rfl ?_
   refine Rg.fin rfl ?_
   refine At.round (t := (k, p1, c1)) (fun _ _ h => h) (k + 1, p9, c10) [0, 1] ⟨(by show k + 1 ≤ rs.length; omega), (by show lenTo rs k + _ ≤ _; exact hc_c10)⟩ (by show rs.length - (k + 1) < rs.length - k; omega) (.cons (rfl) (.cons (rfl) (.cons (rfl) (.cons (rfl) (.cons (rfl) (.nil _)))))) rfl (by decide)
  ·
   have h9 := of_decide_eq_false h7
   refine Ev.xt 2 ?_
   refine At.nx (fun _ _ h => h) [6,2] rfl ?_
   refine Ev.sr 2 ?_
   refine Rg.mv 35 6 rfl ?_
   refine Rg.as 2 35 rfl ?_
   refine Rg.nx (fun _ _ h => h) [2] rfl ?_
   refine Ev.rt ?_
   refine At.via (Q := Q) hQ ?_
   refine At.ret1 rfl rfl rfl ?_
   exact fun w hw => ⟨(p1, c1), (by show lenTo rs rs.length ≤ c1; have e : k = rs.length := (by omega); subst e; exact hk2), (by have e : k = rs.length := (by omega); subst e; rfl), (by have e : k = rs.length := (by omega); subst e; rw [← catV_eq]; exact hw.pick [0, 1] (by decide))⟩

end Go.Proofs.Ytfhhggcdmgjbcaa.Sx
