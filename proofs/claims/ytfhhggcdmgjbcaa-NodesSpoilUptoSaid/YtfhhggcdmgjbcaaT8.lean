/-
  A part of the walk of the seat: laws of a small proof system, and contracts of functions, each proved. Conditions: as each theorem says.
-/
import Derived.Test.YtfhhggcdmgjbcaaProg
import Derived.Test.YtfhhggcdmgjbcaaT7
namespace Go.Proofs.Ytfhhggcdmgjbcaa.Sx
open Go Go.RowKit Go.Proofs

set_option maxHeartbeats 8000000 in
theorem put_calls {n : Int} {m : Nat} {w : World} (hm : m ≤ 8) :
  Calls Try.prog 122 #[.int .u64 n, .int .i64 (m : Int)] w (RetN w (fun x : Option Addr × Nat => m ≤ x.2) (fun x => .slice x.1 m x.2) (fun x => [own 5 1 x.1 m x.2 (putV n m m)])) := by
 refine calls_ofM (args := [_, _]) [base w (Low w)] Try.func122 (by kernel_rfl) (by kernel_rfl) (Heap.start w) ?_
 intro Q hQ
 refine Ev.sr 1 ?_
 refine Rg.al 4 29 (.slice none 0 0) fun b1 => ?_
 refine Rg.nx (fun _ _ h => h) [4,1,0] rfl ?_
 refine Ev.sq ?_
 refine Ev.sr 3 ?_
 refine Rg.mv 6 0 rfl ?_
 refine Rg.mv 7 1 rfl ?_
 refine Rg.cn (T := Nat × Nat) (some 8) 154 #[.tmp 6, .tmp 7] #[34, 3] (v := fun ⟨b3, b2⟩ => .func (.func 173) #[] #[.pointer (some ⟨b3, 0, none⟩), .pointer (some ⟨b2, 0, none⟩)]) (L := fun ⟨b3, b2⟩ => [blk b3 (.cells #[.int .i64 (m : Int)] 3 (0, 0)), blk b2 (.cells #[.int .u64 n] 34 (0, 0))]) rfl (fun w hw => bytes_calls) ?_
 rintro ⟨b3, b2⟩ _
 dsimp only [putE, List.append, HAppend.hAppend, Append.append]
 refine Rg.nx (fun _ _ h => h) [8,4] rfl ?_
 refine Ev.bk 0 ?_
 refine Ev.ownNil 5 1 ?_
 refine Ev.addFact (show 0 ≤ 0 from Nat.le_refl _) ?_
 refine ev_rangeFunc (T := Option Addr × Nat) (t := 8) (ps := #[9]) (gf := 173) (caps := #[.pointer (some ⟨b3, 0, none⟩), .pointer (some ⟨b2, 0, none⟩)]) (byteRows n m) (fun i_ x_ => (fun p c => [blk b1 (.cells #[.slice p i_ c] 29 (0, 0)), own 5 1 p i_ c (putV n m i_), fact (i_ ≤ c)]) x_.1 x_.2) (fun i_ x_ => (fun p c => [fact False]) x_.1 x_.2) (.skip) (none, 0) [blk b3 (.cells #[.int .i64 (m : Int)] 3 (0, 0)), blk b2 (.cells #[.int .u64 n] 34 (0, 0))] [base w (Low w)] (by kernel_rfl) rfl rfl (by kernel_rfl) (by kernel_rfl) (by simp [byteRows]) (fun w hw => hw.pick [4, 1, 0, 2, 3, 5] (by decide)) (bytes1_iter hm) ?_ ?_ ?_
 ·
  intro F l Db0 i_ ⟨p, c⟩ fr hn
  have hn_ := hn
  rw [show (byteRows n m).length = m from byteRows_length n m] at hn_
  rw [show (byteRows n m).getD i_ [] = [.int .u8 (byteAt n m i_)] from (by unfold byteRows; exact getD_rangeMap _ _ (by rw [byteRows_length] at hn; exact hn))]
  refine Ev.weak (E' := [(4, .pointer (some ⟨b1, 0, none⟩)), (9, .int .u8 (byteAt n m i_))]) (S' := [blk b1 (.cells #[.slice p i_ c] 29 (0, 0)), own 5 1 p i_ c (putV n m i_), fact (i_ ≤ c), blk l (.loop (F.rc .ready none)), blk Db0 (.deferred (some [])), fr, base w (Low w)]) [0, 1, 2, 3, 4, 5, 6] (.cons (rfl) (.cons (rfl) (.nil _))) rfl (by decide) ?_
  refine Ev.factAt 2 rfl (fun hcc => ?_)
  refine Ev.rg 1 ?_
  refine Rg.as 5 9 rfl ?_
  refine Rg.fin rfl ?_
  refine at_beginQ (E' := [(4, .pointer (some ⟨b1, 0, none⟩)), (5, .int .u8 (byteAt n m i_))]) 3 [0, 1, 2, 3, 4, 5, 6] rfl rfl (.cons (rfl) (.cons (rfl) (.nil _))) (by decide) ?_
  intro Qr hQr
  refine Ev.bk 1 ?_
  refine Ev.rg 5 ?_
  refine Rg.ld 10 29 4 0 rfl rfl rfl ?_
  refine Rg.mv 11 5 rfl ?_
  refine rg_buildSlice (d := 12) (t := 29) (e := 5) (sz := 1) (len := 1) (parts := [(0, .tmp 11)]) (g := none) (vs := [.int .u8 (byteAt n m i_)]) (cs := #[.int .u8 (byteAt n m i_)]) (by kernel_rfl) (by kernel_rfl) rfl (by kernel_rfl) (.int .u8 0) (by kernel_rfl) (by kernel_rfl) (by kernel_rfl) ?_
  intro b4
  refine rg_append (d := 13) (t := 29) (e := 5) (sz := 1) (x := .tmp 10) (y := .tmp 12) (ty := 29) (g := none) (m := 1) (ys := [.int .u8 (byteAt n m i_)]) (zv := .int .u8 0) 2 (by kernel_rfl) (by kernel_rfl) rfl rfl (by kernel_rfl) (by kernel_rfl) (by kernel_rfl) (by kernel_rfl) (by kernel_rfl) rfl rfl rfl rfl (fun w hw => firstCells_blk hw 0 rfl rfl) (by show (2 * (i_ + 1) + 192) * bytesT Try.prog 5 ≤ 281474976710656; rw [show bytesT Try.prog 5 = 1 from by kernel_rfl]; omega) (by kernel_rfl) ?_
  intro p5 c6 hc_c6 he_c6
  refine Rg.st 29 4 (.tmp 13) 1 #[.slice p5 (i_ + 1) c6] rfl rfl rfl ?_
  refine Rg.fin rfl ?_
  refine At.via (Q := Qr) hQr ?_
  refine at_roundEnd (p5, c6) 4 rfl (fun w hw => (hw.addFact hc_c6).pick [2, 3, 0, 5, 6, 7, 8] (by decide))
 ·
  intro Db0 ⟨p, c⟩
  rw [show (byteRows n m).length = m from byteRows_length n m]
  refine At.factAt 2 rfl (fun hcc => ?_)
  refine At.nx (fun _ _ h => h) [4] rfl ?_
  refine Ev.sr 2 ?_
  refine Rg.ld 14 29 4 0 rfl rfl rfl ?_
  refine Rg.st 29 4 (.tmp 14) 0 #[.slice p m c] rfl rfl rfl ?_
  refine Rg.nx (fun _ _ h => h) [4] rfl ?_
  refine Ev.rt ?_
  refine At.via (Q := Q) hQ ?_
  refine At.leave ?_
  refine LeaveAt.mark 3 rfl ?_
  refine LeaveAt.one rfl (reads_cell 0 rfl rfl (by kernel_rfl) rfl) ?_
  exact fun w hw => ⟨(p, c), hcc, rfl, hw.pick [1, 4] (by decide)⟩
 ·
  intro Db0 i_ ⟨p, c⟩ hn
  exact fun a w ha hw => (hw.bot (φ := False) (by simp)).elim

end Go.Proofs.Ytfhhggcdmgjbcaa.Sx
