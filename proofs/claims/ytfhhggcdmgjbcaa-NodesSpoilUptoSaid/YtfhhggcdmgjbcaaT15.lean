/-
  A part of the walk of the seat: laws of a small proof system, and contracts of functions, each proved. Conditions: as each theorem says.
-/
import Derived.Test.YtfhhggcdmgjbcaaProg
import Derived.Test.YtfhhggcdmgjbcaaT14
namespace Go.Proofs.Ytfhhggcdmgjbcaa.Sx
open Go Go.RowKit Go.Proofs

def livTo (ns : List Node) : Nat → List Nat
  | 0 => []
  | k + 1 => cond (!decide ((nd ns k).kind = 0)) (livTo ns k ++ [k]) (livTo ns k)
def liv (ns : List Node) : List Nat := livTo ns ns.length
def livRow (ns : List Node) (al : List Loc) (i : Nat) : List Value := [.int .i64 (i : Int), .agg ((nd ns i).cells (lc al i))]
def livRows (ns : List Node) (al : List Loc) : List (List Value) := (liv ns).map (livRow ns al)
theorem livTo_pre (ns : List Node) (k d : Nat) : ∃ r, livTo ns (k + d) = livTo ns k ++ r := by
  induction d with
  | zero => exact ⟨[], by simp⟩
  | succ d ih =>
    obtain ⟨r, hr⟩ := ih
    show ∃ r, cond (!decide ((nd ns (k + d)).kind = 0)) (livTo ns (k + d) ++ [k + d]) (livTo ns (k + d)) = _
    cases (!decide ((nd ns (k + d)).kind = 0)) with
    | true => exact ⟨r ++ [k + d], by simp [hr]⟩
    | false => exact ⟨r, by simp [hr]⟩
theorem livTo_y {ns : List Node} {k : Nat} (h : (!decide ((nd ns k).kind = 0)) = true) : livTo ns (k + 1) = livTo ns k ++ [k] := by simp only [livTo, h, cond_true]
theorem livTo_n {ns : List Node} {k : Nat} (h : (!decide ((nd ns k).kind = 0)) = false) : livTo ns (k + 1) = livTo ns k := by simp only [livTo, h, cond_false]
theorem liv_at {ns : List Node} {k : Nat} (hk : k < ns.length) (h : (!decide ((nd ns k).kind = 0)) = true) : (livTo ns k).length < (liv ns).length ∧ (liv ns).getD (livTo ns k).length 0 = k := by
  obtain ⟨r, hr⟩ := livTo_pre ns (k + 1) (ns.length - (k + 1))
  rw [show k + 1 + (ns.length - (k + 1)) = ns.length by omega, livTo_y h] at hr
  unfold liv
  rw [hr]
  constructor
  · simp
  · simp [List.getD_eq_getElem?_getD]
theorem liv_le (ns : List Node) {k : Nat} (hk : k ≤ ns.length) : (livTo ns k).length ≤ (liv ns).length := by
  obtain ⟨r, hr⟩ := livTo_pre ns k (ns.length - k)
  rw [show k + (ns.length - k) = ns.length by omega] at hr
  unfold liv; rw [hr]; simp
theorem livRows_length (ns : List Node) (al : List Loc) : (livRows ns al).length = (liv ns).length := by simp [livRows]
theorem livRows_get {ns : List Node} {al : List Loc} {n : Nat} (h : n < (liv ns).length) : (livRows ns al).getD n [] = livRow ns al ((liv ns).getD n 0) := by
  simp [livRows, List.getD_eq_getElem?_getD, List.getElem?_map, List.getElem?_eq_getElem h]
theorem liv_mem {ns : List Node} {i : Nat} : ∀ {k : Nat}, i ∈ livTo ns k ↔ i < k ∧ (nd ns i).kind ≠ 0 := by
  intro k
  induction k with
  | zero => simp [livTo]
  | succ k ih =>
    cases h : (!decide ((nd ns k).kind = 0)) with
    | true =>
      rw [livTo_y h, List.mem_append, ih, List.mem_singleton]
      have hk : (nd ns k).kind ≠ 0 := by simpa using h
      constructor
      · rintro (⟨h1, h2⟩ | rfl)
        · exact ⟨by omega, h2⟩
        · exact ⟨by omega, hk⟩
      · rintro ⟨h1, h2⟩
        rcases Nat.lt_succ_iff_lt_or_eq.1 h1 with h3 | h3
        · exact .inl ⟨h3, h2⟩
        · exact .inr h3
    | false =>
      rw [livTo_n h, ih]
      have hk : (nd ns k).kind = 0 := by simpa using h
      constructor
      · rintro ⟨h1, h2⟩; exact ⟨by omega, h2⟩
      · rintro ⟨h1, h2⟩
        refine ⟨?_, h2⟩
        rcases Nat.lt_succ_iff_lt_or_eq.1 h1 with h3 | h3
        · exact h3
        · subst h3; exact absurd hk h2
theorem liv_get {ns : List Node} {n : Nat} (h : n < (liv ns).length) : (liv ns).getD n 0 < ns.length ∧ (nd ns ((liv ns).getD n 0)).kind ≠ 0 := by
  have : (liv ns).getD n 0 ∈ livTo ns ns.length := by
    rw [List.getD_eq_getElem?_getD, List.getElem?_eq_getElem h]; exact List.getElem_mem h
  exact liv_mem.1 this

set_option maxHeartbeats 8000000 in
theorem living_calls {p : Option Addr} {n cap : Nat} {gen : Int} {w : World} :
  Calls Try.prog 58 #[.agg #[.slice p n cap, .int .u32 gen]] w (RetN w (fun _ : Nat => True) (fun b => .func (.func 112) #[] #[.pointer (some ⟨b, 0, none⟩)]) (fun b => [blk b (.cells #[.slice p n cap, .int .u32 gen] 25 (0, 0))])) := by
 refine calls_ofQ (args := [_]) [base w (Low w)] Try.func58 (by kernel_rfl) (by kernel_rfl) (Heap.start w) ?_
 intro Q hQ
 refine Ev.sr 2 ?_
 refine Rg.bx 1 25 (.tmp 0) rfl fun b1 => ?_
 refine Rg.ac 2 (.nilFunc) ?_
 refine Rg.nx (fun _ _ h => h) [2,1] rfl ?_
 refine Ev.sr 2 ?_
 refine Rg.p 3 (.makeFunc (.func 112) #[] #[.tmp 1]) (v := .func (.func 112) #[] #[.pointer (some ⟨b1, 0, none⟩)]) (pv_makeFunc (xs := [.tmp 1]) rfl) ?_
 refine Rg.as 2 3 rfl ?_
 refine Rg.nx (fun _ _ h => h) [2] rfl ?_
 refine Ev.rt ?_
 refine At.via (Q := Q) hQ ?_
 refine At.ret1 rfl rfl rfl ?_
 exact fun w hw => ⟨b1, trivial, rfl, hw.pick [0, 1] (by decide)⟩

set_option maxHeartbeats 8000000 in
theorem living1_iter {b cap : Nat} {p : Option Addr} {ns : List Node} {al : List Loc} {gen : Int} {w0 : World} (hT : NodesAt (Low w0) w0 p ns al) (hlen : ns.length ≤ 140737488355328) :
  IterAt Try.prog 112 #[.pointer (some ⟨b, 0, none⟩)] (livRows ns al) w0 [blk b (.cells #[.slice p ns.length cap, .int .u32 gen] 25 (0, 0))] [base w0 (Low w0)] := by
 intro T J Jx l t0 w fr h hY
 refine calls_ofQ (args := [.func (.yield l) #[] #[], .pointer (some ⟨b, 0, none⟩)]) [blk b (.cells #[.slice p ns.length cap, .int .u32 gen] 25 (0, 0)), J 0 t0, fr, base w0 (Low w0)] Try.func112 (by kernel_rfl) (by kernel_rfl) h ?_
 intro Q hQ
 refine Ev.sr 4 ?_
 refine Rg.fa 5 25 1 0 0 rfl ?_
 refine Rg.ld 6 22 5 0 rfl rfl rfl ?_
 refine Rg.p 7 (.call { callee := .builtin .len, args := #[.tmp 6], argTypes := #[22] }) (pv_len_slice rfl (by kernel_rfl)) ?_
 refine Rg.mc 8 (.int .i64 0) ?_
 refine Rg.nx (fun _ _ h => h) [8,7,6,0] rfl ?_
 refine Ev.bk 0 ?_
 refine ev_loop (T := Nat × T) (fun x_ => (fun k t => [(0, .func (.yield l) #[] #[]), (6, .slice p ns.length cap), (7, .int .i64 (ns.length : Int)), (8, .int .i64 (k : Int))]) x_.1 x_.2) (fun x_ => (fun k t => [blk b (.cells #[.slice p ns.length cap, .int .u32 gen] 25 (0, 0)), J (livTo ns k).length t, fr, base w0 (Low w0)]) x_.1 x_.2) (fun x_ => (fun k t => k ≤ ns.length) x_.1 x_.2) (fun x_ => (fun k t => ns.length - k) x_.1 x_.2) (0, t0) [0, 1, 2, 3] (by kernel_rfl) (by show 0 ≤ ns.length; omega) (.cons (rfl) (.cons (rfl) (.cons (rfl) (.cons (rfl) (.nil _))))) rfl (by decide) ?_
 rintro ⟨k, t⟩ (hk : k ≤ ns.length)
 show Ev _ _ [(0, .func (.yield l) #[] #[]), (6, .slice p ns.length cap), (7, .int .i64 (ns.length : Int)), (8, .int .i64 (k : Int))] [blk b (.cells #[.slice p ns.length cap, .int .u32 gen] 25 (0, 0)), J (livTo ns k).length t, fr, base w0 (Low w0)] _
 refine Ev.sr 1 ?_
 refine Rg.p 9 (.binOp .lss 3 (.tmp 8) (.tmp 7) 3) (pv_lss rfl rfl) ?_
 refine Rg.nx (fun _ _ h => h) [9,8,7,6,0] rfl ?_
 refine Ev.sq ?_
 refine Ev.cd 9 rfl (fun h1 => ?_) (fun h1 => ?_)
 ·
  have h2 := of_decide_eq_true h1
  refine Ev.sk ?_
  refine At.nx (fun _ _ h => h) [9,8,7,6,0] rfl ?_
  refine Ev.sq ?_
  refine Ev.bk 1 ?_
  refine Ev.sr 6 ?_
  refine Rg.mv 10 8 rfl ?_
  have ⟨q1, o2, hp3⟩ := hT.rows.adr (by omega)
  refine Rg.p 11 (.indexAddr 22 (.tmp 6) (.tmp 8)) (v := .pointer (some ⟨q1, o2 + ((k : Int)).toNat * 25, none⟩)) (pv_indexAddr' rfl hp3 rfl (e := 44) (sz := 25) (by kernel_rfl) (by omega) (by omega)) ?_
  refine Rg.p 12 (.load 44 (.tmp 11)) (v := .agg ((nd ns k).cells (lc al k))) (pv_load_node (i := ((k : Int)).toNat) (ns := ns) rfl hp3 (by omega) (by kernel_rfl) (by kernel_rfl) (fun w hw => ((hT).keep (hw.at_ 3 rfl) (fun k hk => hw.lt 3 rfl hk)))) ?_
  refine Rg.al 4 44 (.agg #[.int .u32 0, .int .u32 0, .int .u32 0, .int .u32 0, .int .u32 0, .int .i64 0, .int .u32 0, .int .u32 0, .int .u32 0, .int .u32 0, .int .u32 0, .int .u32 0, .slice none 0 0, .int .u8 0, .int .u8 0, .int .u8 0, .int .u8 0, .int .u8 0, .int .u8 0, .int .u8 0, .int .u8 0, .string ⟨#[]⟩, .slice none 0 0, .int .i64 0, .int .u64 0]) fun b4 => ?_
  refine Rg.as 3 10 rfl ?_
  refine Rg.st 44 4 (.tmp 12) 0 ((nd ns k).cells (lc al k)) rfl rfl rfl ?_
  refine Rg.nx (fun _ _ h => h) [12,11,10,9,8,7,6,4,3,0] rfl ?_
  refine Ev.sr 10 ?_
  refine Rg.fa 13 44 4 0 0 rfl ?_
  refine Rg.ld 14 33 13 0 rfl rfl rfl ?_
  refine Rg.p 15 (.binOp .neq 33 (.tmp 14) (.const (.int .u32 0)) 33) (pv_neq rfl rfl) ?_
  refine Rg.mv 16 15 rfl ?_
  refine Rg.fork 16 (g := !(decide (((nd ns k).kind) = 0))) rfl (fun h3 => ?_) (fun h3 => ?_)
  ·
   have h4 := of_decide_eq_false (not_t h3)
   refine Rg.pg 3 true 17 (.move (.tmp 0)) (pv_move rfl) ?_
   refine Rg.pg 3 true 18 (.move (.tmp 3)) (pv_move rfl) ?_
   refine Rg.pg 3 true 19 (.load 44 (.tmp 4)) (v := .agg ((nd ns k).cells (lc al k))) (pv_load_blk_whole 0 rfl rfl (by kernel_rfl) (by kernel_rfl)) ?_
   refine rg_yield (T := T) (d := 20) (l := l) (fo := .tmp 17) (xs := #[.tmp 18, .tmp 19]) (ts := #[3, 44]) (g := some (3, true)) (S1 := fun t5 => [blk b4 (.cells ((nd ns k).cells (lc al k)) 44 (0, 0)), blk b (.cells #[.slice p ns.length cap, .int .u32 gen] 25 (0, 0)), J ((livTo ns k).length + 1) t5, fr, base w0 (Low w0)]) (S2 := fun t5 => [blk b4 (.cells ((nd ns k).cells (lc al k)) 44 (0, 0)), blk b (.cells #[.slice p ns.length cap, .int .u32 gen] 25 (0, 0)), Jx ((livTo ns k).length + 1) t5, fr, base w0 (Low w0)]) rfl (by kernel_rfl) (by kernel_rfl) rfl rfl (yield_own hY [blk b4 (.cells ((nd ns k).cells (lc al k)) 44 (0, 0)), blk b (.cells #[.slice p ns.length cap, .int .u32 gen] 25 (0, 0))] ((livTo ns k).length) t (by rw [livRows_length]; exact (liv_at (by omega) h3).1) (by rw [livRows_get (liv_at (by omega) h3).1, (liv_at (by omega) h3).2]; rfl)) (fun t5 => ?_) (fun t5 => ?_)
   ·
    refine Rg.pg 3 true 21 (.unOp .not 4 (.tmp 20)) (pv_not (b := true) rfl) ?_
    refine Rg.p 22 (.pick (.tmp 16) (.tmp 21) (.const (.bool false))) (pv_pick_t rfl rfl) ?_
    refine Rg.nx (fun _ _ h => h) [22,21,20,19,18,17,16,15,14,13,12,11,10,9,8,7,6,4,3,0] rfl ?_
    refine ev_cond_f (t := 22) (by kernel_rfl) rfl ?_
    refine Ev.sk ?_
    refine At.nx (fun _ _ h => h) [22,21,20,19,18,17,16,15,14,13,12,11,10,9,8,7,6,4,3,0] rfl ?_
    refine Ev.rg 2 ?_
    refine Rg.p 23 (.binOp .add 3 (.tmp 8) (.const (.int .i64 1)) 3) (pv_addb rfl rfl (in_i64 (by omega) (by omega))) ?_
    refine Rg.mv 8 23 rfl ?_
    refine Rg.fin rfl ?_
    refine At.round (t := (k, t)) (fun _ _ h => h) (k + 1, t5) [1, 2, 3, 4] (by show k + 1 ≤ ns.length; omega) (by show ns.length - (k + 1) < ns.length - k; omega) (.cons (rfl) (.cons (rfl) (.cons (rfl) (.cons (rfl) (.nil _))))) (by show _ = [blk b (.cells #[.slice p ns.length cap, .int .u32 gen] 25 (0, 0)), J (livTo ns (k + 1)).length t5, fr, base w0 (Low w0)]; rw [livTo_y h3, List.length_append]; rfl) (by decide)
   ·
    refine Rg.pg 3 true 21 (.unOp .not 4 (.tmp 20)) (pv_not (b := false) rfl) ?_
    refine Rg.p 22 (.pick (.tmp 16) (.tmp 21) (.const (.bool false))) (pv_pick_t rfl rfl) ?_
    refine Rg.nx (fun _ _ h => h) [22,21,20,19,18,17,16,15,14,13,12,11,10,9,8,7,6,4,3,0] rfl ?_
    refine ev_cond_t (t := 22) (by kernel_rfl) rfl ?_
    refine Ev.rt ?_
    refine At.via (Q := Q) hQ ?_
    refine At.ret0 ?_ ?_ ?_
    ·
     rfl
    ·
     rfl
    exact fun w hw => ⟨⟨_, rfl⟩, .inr ⟨_, _, (by rw [livRows_length]; have := (liv_at (by omega) h3).1; omega), hw.pick [2, 3, 4] (by decide)⟩⟩
  ·
   have h5 := of_decide_eq_true (not_f h3)
   refine Rg.skips 9 (by kernel_rfl) ?_
   refine Rg.p 22 (.pick (.tmp 16) (.tmp 21) (.const (.bool false))) (pv_pick_f rfl rfl) ?_
   refine Rg.nx (fun _ _ h => h) [22,16,15,14,13,12,11,10,9,8,7,6,4,3,0] rfl ?_
   refine ev_cond_f (t := 22) (by kernel_rfl) rfl ?_
   refine Ev.sk ?_
   refine At.nx (fun _ _ h => h) [22,16,15,14,13,12,11,10,9,8,7,6,4,3,0] rfl ?_
   refine Ev.rg 2 ?_
   refine Rg.p 23 (.binOp .add 3 (.tmp 8) (.const (.int .i64 1)) 3) (pv_addb rfl rfl (in_i64 (by omega) (by omega))) ?_
   refine Rg.mv 8 23 rfl ?_
   refine Rg.fin rfl ?_
   refine At.round (t := (k, t)) (fun _ _ h => h) (k + 1, t) [1, 2, 3, 4] (by show k + 1 ≤ ns.length; omega) (by show ns.length - (k + 1) < ns.length - k; omega) (.cons (rfl) (.cons (rfl) (.cons (rfl) (.cons (rfl) (.nil _))))) (by show _ = [blk b (.cells #[.slice p ns.length cap, .int .u32 gen] 25 (0, 0)), J (livTo ns (k + 1)).length t, fr, base w0 (Low w0)]; rw [livTo_n h3]; rfl) (by decide)
 ·
  have h6 := of_decide_eq_false h1
  refine Ev.xt 0 ?_
  refine At.via (Q := Q) hQ ?_
  refine At.norm0 ?_ ?_ ?_
  ·
   rfl
  ·
   rfl
  exact fun w hw => ⟨⟨_, rfl⟩, .inl ⟨t, (by have e : k = ns.length := (by omega); subst e; rw [livRows_length]; exact hw.pick [1, 2, 3] (by decide))⟩⟩

end Go.Proofs.Ytfhhggcdmgjbcaa.Sx
