/-
  A part of the walk of the seat: laws of a small proof system, and contracts of functions, each proved. Conditions: as each theorem says.
-/
import Derived.Test.YtfhhggcdmgjbcaaProg
import Derived.Test.YtfhhggcdmgjbcaaT15
namespace Go.Proofs.Ytfhhggcdmgjbcaa.Sx
open Go Go.RowKit Go.Proofs

def upL (ns : List Node) : Nat → Int → List Int
  | 0, _ => []
  | f + 1, d => cond (isS ns d 2) (d :: cond (decide (d = 1)) [] (upL ns f (nd ns d.toNat).parent)) []
def ups (ns : List Node) (dir : Int) : List Int := upL ns (ns.length + 1) dir
def upRows (ns : List Node) (dir : Int) : List (List Value) := (ups ns dir).map fun d => [.int .i64 d]
theorem upRows_length (ns : List Node) (dir : Int) : (upRows ns dir).length = (ups ns dir).length := by simp [upRows]
theorem upRows_get {ns : List Node} {dir : Int} {n : Nat} (h : n < (ups ns dir).length) : (upRows ns dir).getD n [] = [.int .i64 ((ups ns dir).getD n 0)] := by
  simp [upRows, List.getD_eq_getElem?_getD, List.getElem?_map, List.getElem?_eq_getElem h]
section
variable {ns : List Node} {dir d : Int} {j : Nat}
theorem up_step (hj : j < ns.length + 1) : upL ns (ns.length + 1 - j) d = cond (isS ns d 2) (d :: cond (decide (d = 1)) [] (upL ns (ns.length + 1 - (j + 1)) (nd ns d.toNat).parent)) [] := by
  rw [show ns.length + 1 - j = (ns.length + 1 - (j + 1)) + 1 by omega]; rfl
theorem upA (hj : j < ns.length + 1) (hd : (ups ns dir).drop j = upL ns (ns.length + 1 - j) d) (hl : j ≤ (ups ns dir).length) (h : isS ns d 2 = false) : (upRows ns dir).length = j := by
  rw [up_step hj, h] at hd
  have := List.drop_eq_nil_iff.1 hd
  rw [upRows_length]; omega
theorem upB (hj : j < ns.length + 1) (hd : (ups ns dir).drop j = upL ns (ns.length + 1 - j) d) (h : isS ns d 2 = true) : j < (upRows ns dir).length ∧ (upRows ns dir).getD j [] = [.int .i64 d] := by
  rw [up_step hj, h] at hd
  have hlt : j < (ups ns dir).length := by
    rcases Nat.lt_or_ge j (ups ns dir).length with h1 | h1
    · exact h1
    · rw [List.drop_eq_nil_iff.2 h1] at hd; simp at hd
  rw [upRows_length, upRows_get hlt]
  refine ⟨hlt, ?_⟩
  rw [List.drop_eq_getElem_cons hlt] at hd
  simp only [cond_true, List.cons.injEq] at hd
  rw [List.getD_eq_getElem?_getD, List.getElem?_eq_getElem hlt, ← hd.1]; rfl
theorem upD (hj : j < ns.length + 1) (hd : (ups ns dir).drop j = upL ns (ns.length + 1 - j) d) (h : isS ns d 2 = true) : (ups ns dir).drop (j + 1) = cond (decide (d = 1)) [] (upL ns (ns.length + 1 - (j + 1)) (nd ns d.toNat).parent) := by
  have hlt := (upB hj hd h).1
  rw [upRows_length] at hlt
  rw [up_step hj, h, List.drop_eq_getElem_cons hlt] at hd
  simp only [cond_true, List.cons.injEq] at hd
  exact hd.2
theorem upC (hj : j < ns.length + 1) (hd : (ups ns dir).drop j = upL ns (ns.length + 1 - j) d) (h : isS ns d 2 = true) (h1 : decide (d = 1) = true) : (upRows ns dir).length = j + 1 := by
  have h2 := upD hj hd h
  have hlt := (upB hj hd h).1
  rw [h1, cond_true] at h2
  have := List.drop_eq_nil_iff.1 h2
  rw [upRows_length] at hlt ⊢; omega
theorem upE (hj : j = ns.length + 1) (hd : (ups ns dir).drop j = upL ns (ns.length + 1 - j) d) (hl : j ≤ (ups ns dir).length) : (upRows ns dir).length = j := by
  subst hj
  rw [Nat.sub_self] at hd
  have := List.drop_eq_nil_iff.1 hd
  rw [upRows_length]; omega
end

set_option maxHeartbeats 8000000 in
theorem up_calls {p : Option Addr} {n cap : Nat} {gen dir : Int} {w : World} :
  Calls Try.prog 63 #[.agg #[.slice p n cap, .int .u32 gen], .int .i64 dir] w (RetN w (fun _ : Nat × Nat => True) (fun x => .func (.func 116) #[] #[.pointer (some ⟨x.1, 0, none⟩), .pointer (some ⟨x.2, 0, none⟩)]) (fun x => [blk x.1 (.cells #[.slice p n cap, .int .u32 gen] 25 (0, 0)), blk x.2 (.cells #[.int .i64 dir] 3 (0, 0))])) := by
 refine calls_ofQ (args := [_, _]) [base w (Low w)] Try.func63 (by kernel_rfl) (by kernel_rfl) (Heap.start w) ?_
 intro Q hQ
 refine Ev.sr 3 ?_
 refine Rg.bx 2 25 (.tmp 0) rfl fun b1 => ?_
 refine Rg.bx 3 3 (.tmp 1) rfl fun b2 => ?_
 refine Rg.ac 4 (.nilFunc) ?_
 refine Rg.nx (fun _ _ h => h) [4,3,2] rfl ?_
 refine Ev.sr 2 ?_
 refine Rg.p 5 (.makeFunc (.func 116) #[] #[.tmp 2, .tmp 3]) (v := .func (.func 116) #[] #[.pointer (some ⟨b1, 0, none⟩), .pointer (some ⟨b2, 0, none⟩)]) (pv_makeFunc (xs := [.tmp 2, .tmp 3]) rfl) ?_
 refine Rg.as 4 5 rfl ?_
 refine Rg.nx (fun _ _ h => h) [4] rfl ?_
 refine Ev.rt ?_
 refine At.via (Q := Q) hQ ?_
 refine At.ret1 rfl rfl rfl ?_
 exact fun w hw => ⟨(b1, b2), trivial, rfl, hw.pick [1, 0, 2] (by decide)⟩

set_option maxHeartbeats 8000000 in
theorem up1_iter {b bd cap : Nat} {p : Option Addr} {ns : List Node} {al : List Loc} {gen dir : Int} {w0 : World} (hT : NodesAt (Low w0) w0 p ns al) (hlen : ns.length ≤ 140737488355328) :
  IterAt Try.prog 116 #[.pointer (some ⟨b, 0, none⟩), .pointer (some ⟨bd, 0, none⟩)] (upRows ns dir) w0 [blk b (.cells #[.slice p ns.length cap, .int .u32 gen] 25 (0, 0)), blk bd (.cells #[.int .i64 dir] 3 (0, 0))] [base w0 (Low w0)] := by
 intro T J Jx l t0 w fr h hY
 refine calls_ofQ (args := [.func (.yield l) #[] #[], .pointer (some ⟨b, 0, none⟩), .pointer (some ⟨bd, 0, none⟩)]) [blk b (.cells #[.slice p ns.length cap, .int .u32 gen] 25 (0, 0)), blk bd (.cells #[.int .i64 dir] 3 (0, 0)), J 0 t0, fr, base w0 (Low w0)] Try.func116 (by kernel_rfl) (by kernel_rfl) h ?_
 intro Q hQ
 refine Ev.sr 5 ?_
 refine Rg.fa 4 25 1 0 0 rfl ?_
 refine Rg.ld 5 22 4 0 rfl rfl rfl ?_
 refine Rg.p 6 (.call { callee := .builtin .len, args := #[.tmp 5], argTypes := #[22] }) (pv_len_slice rfl (by kernel_rfl)) ?_
 refine Rg.p 7 (.binOp .add 3 (.tmp 6) (.const (.int .i64 1)) 3) (pv_addb rfl rfl (in_i64 (by omega) (by omega))) ?_
 refine Rg.mc 8 (.int .i64 0) ?_
 refine Rg.nx (fun _ _ h => h) [8,7,2,1,0] rfl ?_
 refine Ev.bk 0 ?_
 refine ev_loop (T := Nat × Int × T) (fun x_ => (fun j d t => [(0, .func (.yield l) #[] #[]), (1, .pointer (some ⟨b, 0, none⟩)), (2, .pointer (some ⟨bd, 0, none⟩)), (7, .int .i64 ((ns.length : Int) + 1)), (8, .int .i64 (j : Int))]) x_.1 x_.2.1 x_.2.2) (fun x_ => (fun j d t => [blk b (.cells #[.slice p ns.length cap, .int .u32 gen] 25 (0, 0)), blk bd (.cells #[.int .i64 d] 3 (0, 0)), J j t, fr, base w0 (Low w0)]) x_.1 x_.2.1 x_.2.2) (fun x_ => (fun j d t => j ≤ ns.length + 1 ∧ (ups ns dir).drop j = upL ns (ns.length + 1 - j) d ∧ j ≤ (ups ns dir).length) x_.1 x_.2.1 x_.2.2) (fun x_ => (fun j d t => ns.length + 1 - j) x_.1 x_.2.1 x_.2.2) (0, dir, t0) [0, 1, 2, 3, 4] (by kernel_rfl) ⟨Nat.zero_le _, rfl, Nat.zero_le _⟩ (.cons (rfl) (.cons (rfl) (.cons (rfl) (.cons (rfl) (.cons (rfl) (.nil _)))))) rfl (by decide) ?_
 rintro ⟨j, d, t⟩ ⟨(hj : j ≤ ns.length + 1), (hd : (ups ns dir).drop j = upL ns (ns.length + 1 - j) d), (hl : j ≤ (ups ns dir).length)⟩
 show Ev _ _ [(0, .func (.yield l) #[] #[]), (1, .pointer (some ⟨b, 0, none⟩)), (2, .pointer (some ⟨bd, 0, none⟩)), (7, .int .i64 ((ns.length : Int) + 1)), (8, .int .i64 (j : Int))] [blk b (.cells #[.slice p ns.length cap, .int .u32 gen] 25 (0, 0)), blk bd (.cells #[.int .i64 d] 3 (0, 0)), J j t, fr, base w0 (Low w0)] _
 refine Ev.sr 1 ?_
 refine Rg.p 9 (.binOp .lss 3 (.tmp 8) (.tmp 7) 3) (pv_lss rfl rfl) ?_
 refine Rg.nx (fun _ _ h => h) [9,8,7,2,1,0] rfl ?_
 refine Ev.sq ?_
 refine Ev.cd 9 rfl (fun h1 => ?_) (fun h1 => ?_)
 ·
  have h2 := of_decide_eq_true h1
  refine Ev.sk ?_
  refine At.nx (fun _ _ h => h) [9,8,7,2,1,0] rfl ?_
  refine Ev.sq ?_
  refine Ev.bk 1 ?_
  refine Ev.sq ?_
  refine Ev.sr 14 ?_
  refine Rg.p 10 (.load 25 (.tmp 1)) (v := .agg #[.slice p ns.length cap, .int .u32 gen]) (pv_load_blk_whole 0 rfl rfl (by kernel_rfl) (by kernel_rfl)) ?_
  refine Rg.ld 11 3 2 1 rfl rfl rfl ?_
  refine Rg.cl (some 12) 53 #[.tmp 10, .tmp 11, .const (.int .u32 2)] #[25, 3, 33] (v := .bool (isS ns d 2)) rfl (fun w hw => is_calls ((hT).keep (hw.at_ 4 rfl) (fun k hk => hw.lt 4 rfl hk))) ?_
  refine Rg.p 13 (.unOp .not 4 (.tmp 12)) (pv_not (b := isS ns d 2) rfl) ?_
  refine Rg.mv 14 13 rfl ?_
  refine Rg.fork 14 (g := !(isS ns d 2)) rfl (fun h3 => ?_) (fun h3 => ?_)
  ·
   have h4 := not_t h3
   refine Rg.skips 9 (by kernel_rfl) ?_
   refine Rg.p 19 (.pick (.tmp 14) (.const (.bool true)) (.tmp 18)) (pv_pick_t rfl rfl) ?_
   refine Rg.mv 20 19 rfl ?_
   refine Rg.skips 13 (by kernel_rfl) ?_
   refine Rg.p 23 (.pick (.tmp 20) (.const (.bool true)) (.tmp 22)) (pv_pick_t rfl rfl) ?_
   refine Rg.nx (fun _ _ h => h) [23,20,19,14,13,12,11,10,9,8,7,2,1,0] rfl ?_
   refine ev_cond_t (t := 23) (by kernel_rfl) rfl ?_
   refine Ev.rt ?_
   refine At.via (Q := Q) hQ ?_
   refine At.ret0 ?_ ?_ ?_
   ·
    rfl
   ·
    rfl
   exact fun w hw => ⟨⟨_, rfl⟩, .inl ⟨t, (by rw [upA (by omega) hd hl (show isS ns d 2 = false by simpa using h3)]; exact hw.pick [2, 3, 4] (by decide))⟩⟩
  ·
   have h5 := not_f h3
   have ⟨h6, h7, h8, h9⟩ := isS_t h5
   refine Rg.pg 4 false 15 (.move (.tmp 0)) (pv_move rfl) ?_
   refine Rg.pg 4 false 16 (.load 3 (.tmp 2)) (v := .int .i64 d) (pv_load_blk 1 rfl rfl (by kernel_rfl) rfl) ?_
   refine rg_yield (T := T) (d := 17) (l := l) (fo := .tmp 15) (xs := #[.tmp 16]) (ts := #[3]) (g := some (4, false)) (S1 := fun t1 => [blk b (.cells #[.slice p ns.length cap, .int .u32 gen] 25 (0, 0)), blk bd (.cells #[.int .i64 d] 3 (0, 0)), J (j + 1) t1, fr, base w0 (Low w0)]) (S2 := fun t1 => [blk b (.cells #[.slice p ns.length cap, .int .u32 gen] 25 (0, 0)), blk bd (.cells #[.int .i64 d] 3 (0, 0)), Jx (j + 1) t1, fr, base w0 (Low w0)]) rfl (by kernel_rfl) (by kernel_rfl) rfl rfl (yield_own hY [blk b (.cells #[.slice p ns.length cap, .int .u32 gen] 25 (0, 0)), blk bd (.cells #[.int .i64 d] 3 (0, 0))] (j) t (upB (by omega) hd (show isS ns d 2 = true by simpa using h3)).1 (upB (by omega) hd (show isS ns d 2 = true by simpa using h3)).2) (fun t1 => ?_) (fun t1 => ?_)
   ·
    refine Rg.pg 4 false 18 (.unOp .not 4 (.tmp 17)) (pv_not (b := true) rfl) ?_
    refine Rg.p 19 (.pick (.tmp 14) (.const (.bool true)) (.tmp 18)) (pv_pick_f rfl rfl) ?_
    refine Rg.mv 20 19 rfl ?_
    refine Rg.pg 10 false 21 (.load 3 (.tmp 2)) (v := .int .i64 d) (pv_load_blk 1 rfl rfl (by kernel_rfl) rfl) ?_
    refine Rg.pg 10 false 22 (.binOp .eql 3 (.tmp 21) (.const (.int .i64 1)) 3) (pv_eql rfl rfl) ?_
    refine Rg.p 23 (.pick (.tmp 20) (.const (.bool true)) (.tmp 22)) (pv_pick_f rfl rfl) ?_
    refine Rg.nx (fun _ _ h => h) [23,22,21,20,19,18,17,16,15,14,13,12,11,10,9,8,7,2,1,0] rfl ?_
    refine Ev.cd 23 rfl (fun h10 => ?_) (fun h10 => ?_)
    ·
     have h11 := of_decide_eq_true h10
     refine Ev.rt ?_
     refine At.via (Q := Q) hQ ?_
     refine At.ret0 ?_ ?_ ?_
     ·
      rfl
     ·
      rfl
     exact fun w hw => ⟨⟨_, rfl⟩, .inl ⟨t1, (by rw [upC (by omega) hd (show isS ns d 2 = true by simpa using h3) h10]; exact hw.pick [2, 3, 4] (by decide))⟩⟩
    ·
     have h12 := of_decide_eq_false h10
     refine Ev.sk ?_
     refine At.nx (fun _ _ h => h) [23,22,21,20,19,18,17,16,15,14,13,12,11,10,9,8,7,2,1,0] rfl ?_
     refine Ev.rg 7 ?_
     refine Rg.fa 24 25 1 0 0 rfl ?_
     refine Rg.ld 25 22 24 0 rfl rfl rfl ?_
     refine Rg.ld 26 3 2 1 rfl rfl rfl ?_
     have ⟨q2, o3, hp4⟩ := hT.rows.adr (by omega)
     refine Rg.p 27 (.indexAddr 22 (.tmp 25) (.tmp 26)) (v := .pointer (some ⟨q2, o3 + (d).toNat * 25, none⟩)) (pv_indexAddr' rfl hp4 rfl (e := 44) (sz := 25) (by kernel_rfl) (by omega) (by omega)) ?_
     refine Rg.fa 28 44 27 13 23 rfl ?_
     refine Rg.p 29 (.load 3 (.tmp 28)) (v := .int .i64 ((nd ns ((d).toNat)).parent)) (pv_load rfl (by kernel_rfl) (fun w hw => ((hT).keep (hw.at_ 4 rfl) (fun _ h => h)).rows.cell _ _ hp4 _ (by omega) 23 (by decide))) ?_
     refine Rg.st 3 2 (.tmp 29) 1 #[.int .i64 ((nd ns ((d).toNat)).parent)] rfl rfl rfl ?_
     refine Rg.nx (fun _ _ h => h) [29,28,27,26,25,24,23,22,21,20,19,18,17,16,15,14,13,12,11,10,9,8,7,2,1,0] rfl ?_
     refine Ev.rg 2 ?_
     refine Rg.p 30 (.binOp .add 3 (.tmp 8) (.const (.int .i64 1)) 3) (pv_addb rfl rfl (in_i64 (by omega) (by omega))) ?_
     refine Rg.mv 8 30 rfl ?_
     refine Rg.fin rfl ?_
     refine At.round (t := (j, d, t)) (fun _ _ h => h) (j + 1, (nd ns ((d).toNat)).parent, t1) [0, 1, 2, 3, 4] ⟨(by show j + 1 ≤ ns.length + 1; omega), (by have e := upD (by omega) hd (show isS ns d 2 = true by simpa using h3); rw [h10] at e; exact e), (by have e := (upB (by omega) hd (show isS ns d 2 = true by simpa using h3)).1; rw [upRows_length] at e; exact e)⟩ (by show ns.length + 1 - (j + 1) < ns.length + 1 - j; omega) (.cons (rfl) (.cons (rfl) (.cons (rfl) (.cons (rfl) (.cons (rfl) (.nil _)))))) rfl (by decide)
   ·
    refine Rg.pg 4 false 18 (.unOp .not 4 (.tmp 17)) (pv_not (b := false) rfl) ?_
    refine Rg.p 19 (.pick (.tmp 14) (.const (.bool true)) (.tmp 18)) (pv_pick_f rfl rfl) ?_
    refine Rg.mv 20 19 rfl ?_
    refine Rg.skips 13 (by kernel_rfl) ?_
    refine Rg.p 23 (.pick (.tmp 20) (.const (.bool true)) (.tmp 22)) (pv_pick_t rfl rfl) ?_
    refine Rg.nx (fun _ _ h => h) [23,20,19,18,17,16,15,14,13,12,11,10,9,8,7,2,1,0] rfl ?_
    refine ev_cond_t (t := 23) (by kernel_rfl) rfl ?_
    refine Ev.rt ?_
    refine At.via (Q := Q) hQ ?_
    refine At.ret0 ?_ ?_ ?_
    ·
     rfl
    ·
     rfl
    exact fun w hw => ⟨⟨_, rfl⟩, .inr ⟨_, _, (upB (by omega) hd (show isS ns d 2 = true by simpa using h3)).1, hw.pick [2, 3, 4] (by decide)⟩⟩
 ·
  have h13 := of_decide_eq_false h1
  refine Ev.xt 0 ?_
  refine At.via (Q := Q) hQ ?_
  refine At.norm0 ?_ ?_ ?_
  ·
   rfl
  ·
   rfl
  exact fun w hw => ⟨⟨_, rfl⟩, .inl ⟨t, (by rw [upE (by omega) hd hl]; exact hw.pick [2, 3, 4] (by decide))⟩⟩

def withinS (ns : List Node) (dir top : Int) : Bool := (ups ns dir).any fun d => decide (d = top)
theorem withinS_t {ns : List Node} {dir top : Int} (h : ∃ m, m < (ups ns dir).length ∧ (ups ns dir).getD m 0 = top) : withinS ns dir top = true := by
  obtain ⟨m, h1, h2⟩ := h
  refine List.any_eq_true.2 ⟨(ups ns dir).getD m 0, ?_, by simpa using h2⟩
  rw [List.getD_eq_getElem?_getD, List.getElem?_eq_getElem h1]; exact List.getElem_mem h1
theorem withinS_f {ns : List Node} {dir top : Int} (h : ∀ m, m < (ups ns dir).length → (ups ns dir).getD m 0 ≠ top) : withinS ns dir top = false := by
  rw [withinS, List.any_eq_false]
  intro d hd
  obtain ⟨m, h1, rfl⟩ := List.mem_iff_getElem.1 hd
  have := h m h1
  rw [List.getD_eq_getElem?_getD, List.getElem?_eq_getElem h1] at this
  simpa using this

set_option maxHeartbeats 8000000 in
theorem Within_calls {dir top : Int} {p : Option Addr} {ns : List Node} {al : List Loc} {cap : Nat} {gen : Int} {w : World} (hT : NodesAt (Low w) w p ns al) (hW : NodesWf ns) :
  Calls Try.prog 20 #[.agg #[.slice p ns.length cap, .int .u32 gen], .int .i64 dir, .int .i64 top] w (Ret w (.bool (withinS ns dir top))) := by
 refine calls_ofM (args := [_, _, _]) [base w (Low w)] Try.func20 (by kernel_rfl) (by kernel_rfl) (Heap.start w) ?_
 intro Q hQ
 have hlen := hW.len
 refine Ev.sr 3 ?_
 refine Rg.bx 3 25 (.tmp 0) rfl fun b1 => ?_
 refine Rg.bx 5 3 (.tmp 2) rfl fun b2 => ?_
 refine Rg.al 6 4 (.bool false) fun b3 => ?_
 refine Rg.nx (fun _ _ h => h) [6,5,3,1] rfl ?_
 refine Ev.sq ?_
 refine Ev.sr 3 ?_
 refine Rg.p 8 (.load 25 (.tmp 3)) (v := .agg #[.slice p ns.length cap, .int .u32 gen]) (pv_load_blk_whole 2 rfl rfl (by kernel_rfl) (by kernel_rfl)) ?_
 refine Rg.mv 9 1 rfl ?_
 refine Rg.cn (T := Nat × Nat) (some 10) 63 #[.tmp 8, .tmp 9] #[25, 3] (v := fun ⟨b4, b5⟩ => .func (.func 116) #[] #[.pointer (some ⟨b4, 0, none⟩), .pointer (some ⟨b5, 0, none⟩)]) (L := fun ⟨b4, b5⟩ => [blk b4 (.cells #[.slice p ns.length cap, .int .u32 gen] 25 (0, 0)), blk b5 (.cells #[.int .i64 dir] 3 (0, 0))]) rfl (fun w hw => up_calls) ?_
 rintro ⟨b4, b5⟩ _
 dsimp only [putE, List.append, HAppend.hAppend, Append.append]
 refine Rg.nx (fun _ _ h => h) [10,6,5] rfl ?_
 refine Ev.bk 0 ?_
 refine Ev.addFact (show ∀ m, m < 0 → (ups ns dir).getD m 0 ≠ top from fun m hm => absurd hm (Nat.not_lt_zero _)) ?_
 refine ev_rangeFunc (T := Unit) (t := 10) (ps := #[11]) (gf := 116) (caps := #[.pointer (some ⟨b4, 0, none⟩), .pointer (some ⟨b5, 0, none⟩)]) (upRows ns dir) (fun i_ u_ => [blk b3 (.cells #[.bool false] 4 (0, 0)), blk b2 (.cells #[.int .i64 top] 3 (0, 0)), fact (∀ m, m < i_ → (ups ns dir).getD m 0 ≠ top)]) (fun i_ u_ => [blk b3 (.cells #[.bool true] 4 (0, 0)), blk b2 (.cells #[.int .i64 top] 3 (0, 0)), fact (∃ m, m < (ups ns dir).length ∧ (ups ns dir).getD m 0 = top)]) (.ret) () [blk b4 (.cells #[.slice p ns.length cap, .int .u32 gen] 25 (0, 0)), blk b5 (.cells #[.int .i64 dir] 3 (0, 0))] [base w (Low w)] (by kernel_rfl) rfl rfl (by kernel_rfl) (by kernel_rfl) (by simp [upRows]) (fun w hw => hw.pick [3, 4, 0, 1, 2, 6] (by decide)) (up1_iter hT hlen) ?_ ?_ ?_
 ·
  intro F l Db0 i_ u_ fr hn
  have hn_ := hn
  rw [show (upRows ns dir).length = (ups ns dir).length from upRows_length ns dir] at hn_
  rw [show (upRows ns dir).getD i_ [] = [.int .i64 ((ups ns dir).getD i_ 0)] from (upRows_get (by rw [upRows_length] at hn; exact hn))]
  refine Ev.weak (E' := [(5, .pointer (some ⟨b2, 0, none⟩)), (6, .pointer (some ⟨b3, 0, none⟩)), (11, .int .i64 ((ups ns dir).getD i_ 0))]) (S' := [blk b3 (.cells #[.bool false] 4 (0, 0)), blk b2 (.cells #[.int .i64 top] 3 (0, 0)), fact (∀ m, m < i_ → (ups ns dir).getD m 0 ≠ top), blk l (.loop (F.rc .ready none)), blk Db0 (.deferred (some [])), fr, base w (Low w)]) [0, 1, 2, 3, 4, 5, 6] (.cons (rfl) (.cons (rfl) (.cons (rfl) (.nil _)))) rfl (by decide) ?_
  refine Ev.factAt 2 rfl (fun hno => ?_)
  refine Ev.rg 1 ?_
  refine Rg.as 7 11 rfl ?_
  refine Rg.fin rfl ?_
  refine at_beginQ (E' := [(5, .pointer (some ⟨b2, 0, none⟩)), (6, .pointer (some ⟨b3, 0, none⟩)), (7, .int .i64 ((ups ns dir).getD i_ 0))]) 3 [0, 1, 2, 3, 4, 5, 6] rfl rfl (.cons (rfl) (.cons (rfl) (.cons (rfl) (.nil _)))) (by decide) ?_
  intro Qr hQr
  refine Ev.bk 1 ?_
  refine Ev.sr 3 ?_
  refine Rg.mv 12 7 rfl ?_
  refine Rg.ld 13 3 5 1 rfl rfl rfl ?_
  refine Rg.p 14 (.binOp .eql 3 (.tmp 12) (.tmp 13) 3) (pv_eql rfl rfl) ?_
  refine Rg.nx (fun _ _ h => h) [14,6] rfl ?_
  refine Ev.cd 14 rfl (fun h1 => ?_) (fun h1 => ?_)
  ·
   have h2 := of_decide_eq_true h1
   refine Ev.sr 1 ?_
   refine Rg.st 4 6 (.const (.bool true)) 0 #[.bool true] rfl rfl rfl ?_
   refine Rg.nx (fun _ _ h => h) [6] rfl ?_
   refine Ev.rt ?_
   refine At.via (Q := Qr) hQr ?_
   refine at_roundRet () 3 rfl (fun w hw => (hw.addFact (show ∃ m, m < (ups ns dir).length ∧ (ups ns dir).getD m 0 = top from ⟨i_, hn_, of_decide_eq_true h1⟩)).pick [1, 2, 0, 4, 5, 6, 7] (by decide))
  ·
   have h3 := of_decide_eq_false h1
   refine Ev.sk ?_
   refine At.via (Q := Qr) hQr ?_
   refine at_roundEnd () 3 rfl (fun w hw => (hw.addFact (show ∀ m, m < i_ + 1 → (ups ns dir).getD m 0 ≠ top from fun m hm => by rcases Nat.lt_succ_iff_lt_or_eq.1 hm with h1_ | h1_; exact hno m h1_; subst h1_; exact of_decide_eq_false h1)).pick [1, 2, 0, 4, 5, 6, 7] (by decide))
 ·
  intro Db0 u_
  rw [show (upRows ns dir).length = (ups ns dir).length from upRows_length ns dir]
  refine At.factAt 2 rfl (fun hno => ?_)
  refine At.nx (fun _ _ h => h) [6] rfl ?_
  refine Ev.sr 1 ?_
  refine Rg.st 4 6 (.const (.bool false)) 0 #[.bool false] rfl rfl rfl ?_
  refine Rg.nx (fun _ _ h => h) [6] rfl ?_
  refine Ev.rt ?_
  refine At.via (Q := Q) hQ ?_
  refine At.leave ?_
  refine LeaveAt.mark 3 rfl ?_
  refine LeaveAt.one rfl (reads_cell 0 rfl rfl (by kernel_rfl) rfl) ?_
  exact fun w hw => ⟨(by rw [withinS_f hno]; rfl), hw.base_below 4 rfl⟩
 ·
  intro Db0 i_ u_ hn
  refine Ev.factAt 2 rfl (fun hyes => ?_)
  refine ev_ret (by kernel_rfl) ?_
  refine At.via (Q := Q) hQ ?_
  refine At.leave ?_
  refine LeaveAt.mark 3 rfl ?_
  refine LeaveAt.one rfl (reads_cell 0 rfl rfl (by kernel_rfl) rfl) ?_
  exact fun w hw => ⟨(by rw [withinS_t hyes]; rfl), hw.base_below 4 rfl⟩

end Go.Proofs.Ytfhhggcdmgjbcaa.Sx
