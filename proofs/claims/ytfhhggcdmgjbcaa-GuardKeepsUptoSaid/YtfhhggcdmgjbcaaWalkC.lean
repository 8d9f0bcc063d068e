/-
  A part of the walk of the seat: laws of a small proof system, and contracts of functions, each proved. Conditions: as each theorem says.
-/
import Derived.Test.YtfhhggcdmgjbcaaProg
import Derived.Test.YtfhhggcdmgjbcaaCoreB
import Derived.Test.YtfhhggcdmgjbcaaT28
namespace Go.Proofs.Ytfhhggcdmgjbcaa.Sx
open Go Go.RowKit Go.Proofs

theorem rows_eq {α : Type} {d : α} {xs ys : List α} (hl : xs.length = ys.length) (h : ∀ i, i < xs.length → xs.getD i d = ys.getD i d) : xs = ys := by
  apply List.ext_getElem hl
  intro i h1 h2
  have := h i h1
  rwa [List.getD_eq_getElem?_getD, List.getD_eq_getElem?_getD, List.getElem?_eq_getElem h1, List.getElem?_eq_getElem h2] at this

theorem entry_eq {a b : Entry} (h : (!(decide (a.name = b.name) && (decide (a.node = b.node) && (decide (a.cookie = b.cookie) && true)))) = false) : a = b := by
  cases a; cases b; simp_all
theorem entry_ne {a b : Entry} (h : (!(decide (a.name = b.name) && (decide (a.node = b.node) && (decide (a.cookie = b.cookie) && true)))) = true) : a ≠ b := by
  rintro rfl; simp at h

set_option maxHeartbeats 8000000 in
theorem SameBytes_calls {p q : Option Addr} {xs ys : List Int} {c d : Nat} {w : World} (hA : BytesAt (Low w) w p xs) (hB : BytesAt (Low w) w q ys) (ha : xs.length ≤ 16777216) :
  Calls Try.prog 79 #[.slice p xs.length c, .slice q ys.length d] w (Ret w (.bool (decide (xs = ys)))) := by
 refine calls_ofQ (args := [_, _]) [base w (Low w)] Try.func79 (by kernel_rfl) (by kernel_rfl) (Heap.start w) ?_
 intro Q hQ
 refine Ev.sr 1 ?_
 refine Rg.ac 4 (.bool false) ?_
 refine Rg.nx (fun _ _ h => h) [4,1,0] rfl ?_
 refine Ev.sq ?_
 refine Ev.sr 5 ?_
 refine Rg.mv 6 0 rfl ?_
 refine Rg.p 7 (.call { callee := .builtin .len, args := #[.tmp 6], argTypes := #[29] }) (pv_len_slice rfl (by kernel_rfl)) ?_
 refine Rg.mv 8 1 rfl ?_
 refine Rg.p 9 (.call { callee := .builtin .len, args := #[.tmp 8], argTypes := #[29] }) (pv_len_slice rfl (by kernel_rfl)) ?_
 refine Rg.p 10 (.binOp .neq 3 (.tmp 7) (.tmp 9) 3) (pv_neq rfl rfl) ?_
 refine Rg.nx (fun _ _ h => h) [10,4,1,0] rfl ?_
 refine Ev.cd 10 rfl (fun h1 => ?_) (fun h1 => ?_)
 ·
  have h2 := of_decide_eq_false (not_t h1)
  refine Ev.sr 1 ?_
  refine Rg.ac 4 (.bool false) ?_
  refine Rg.nx (fun _ _ h => h) [4,1,0] rfl ?_
  refine Ev.rt ?_
  refine At.via (Q := Q) hQ ?_
  refine At.ret1 rfl rfl rfl ?_
  exact fun w hw => ⟨(by rw [decide_eq_false (fun e_ => by rw [e_] at h1; simp at h1)]), hw.base_below 0 rfl⟩
 ·
  have h3 := of_decide_eq_true (not_f h1)
  have hlen_ : xs.length = ys.length := by have h_ := h1; simp at h_; omega
  refine Ev.sk ?_
  refine At.nx (fun _ _ h => h) [4,1,0] rfl ?_
  refine Ev.sq ?_
  refine Ev.sr 1 ?_
  refine Rg.ac 5 (.int .i64 0) ?_
  refine Rg.nx (fun _ _ h => h) [5,4,1,0] rfl ?_
  refine Ev.bk 0 ?_
  refine ev_loop (T := Nat) (fun k => [(0, .slice p xs.length c), (1, .slice q ys.length d), (5, .int .i64 (k : Int))]) (fun k => [base w (Low w)]) (fun k => k ≤ xs.length ∧ ∀ i_, i_ < k → xs.getD i_ 0 = ys.getD i_ 0) (fun k => xs.length - k) 0 [0] (by kernel_rfl) ⟨Nat.zero_le _, fun i_ h_ => absurd h_ (Nat.not_lt_zero _)⟩ (.cons (rfl) (.cons (rfl) (.cons (rfl) (.nil _)))) rfl (by decide) ?_
  rintro k ⟨(hk : k ≤ xs.length), (hno : ∀ i_, i_ < k → xs.getD i_ 0 = ys.getD i_ 0)⟩
  show Ev _ _ [(0, .slice p xs.length c), (1, .slice q ys.length d), (5, .int .i64 (k : Int))] [base w (Low w)] _
  refine Ev.sq ?_
  refine Ev.sr 4 ?_
  refine Rg.mv 11 5 rfl ?_
  refine Rg.mv 12 0 rfl ?_
  refine Rg.p 13 (.call { callee := .builtin .len, args := #[.tmp 12], argTypes := #[29] }) (pv_len_slice rfl (by kernel_rfl)) ?_
  refine Rg.p 14 (.binOp .lss 3 (.tmp 11) (.tmp 13) 3) (pv_lss rfl rfl) ?_
  refine Rg.nx (fun _ _ h => h) [14,13,12,11,5,1,0] rfl ?_
  refine Ev.cd 14 rfl (fun h4 => ?_) (fun h4 => ?_)
  ·
   have h5 := of_decide_eq_true h4
   refine Ev.sk ?_
   refine At.nx (fun _ _ h => h) [14,13,12,11,5,1,0] rfl ?_
   refine Ev.sq ?_
   refine Ev.bk 1 ?_
   refine Ev.sq ?_
   have ⟨q1, o2, hp3⟩ := hA.adr (by omega)
   have ⟨q4, o5, hp6⟩ := hB.adr (by omega)
   refine ev_quiet (n := 9) (E' := [(0, .slice p xs.length c), (1, .slice q ys.length d), (5, .int .i64 (k : Int)), (11, .int .i64 (k : Int)), (12, .slice p xs.length c), (13, .int .i64 (xs.length : Int)), (14, .bool (decide ((k : Int) < (xs.length : Int)))), (17, .slice p xs.length c), (18, .int .i64 (k : Int)), (19, .pointer (some ⟨q1, o2 + ((k : Int)).toNat * 1, none⟩)), (20, .int .u8 ((xs).getD k 0)), (21, .slice q ys.length d), (22, .int .i64 (k : Int)), (23, .pointer (some ⟨q4, o5 + ((k : Int)).toNat * 1, none⟩)), (24, .int .u8 ((ys).getD k 0)), (25, .bool (!(decide (((xs).getD k 0) = ((ys).getD k 0)))))]) (by kernel_rfl) (by kernel_rfl) ?_ ?_
   ·
    refine Qg.pure (d := 17) (op := .move (.tmp 0)) (g := none) (v := .slice p xs.length c) (by kernel_rfl) (by kernel_rfl) (pv_move rfl) ?_
    refine Qg.pure (d := 18) (op := .move (.tmp 5)) (g := none) (v := .int .i64 (k : Int)) (by kernel_rfl) (by kernel_rfl) (pv_move rfl) ?_
    refine Qg.pure (d := 19) (op := .indexAddr 29 (.tmp 17) (.tmp 18)) (g := none) (v := .pointer (some ⟨q1, o2 + ((k : Int)).toNat * 1, none⟩)) (by kernel_rfl) (by kernel_rfl) (pv_indexAddr' rfl hp3 rfl (e := 5) (sz := 1) (by kernel_rfl) (by omega) (by omega)) ?_
    refine Qg.pure (d := 20) (op := .load 5 (.tmp 19)) (g := none) (v := .int .u8 ((xs).getD k 0)) (by kernel_rfl) (by kernel_rfl) (pv_load rfl (by kernel_rfl) (fun w hw => ((hA).keep (hw.at_ 0 rfl) (fun _ h => h)).cell _ _ hp3 _ (by omega) 0 (by decide))) ?_
    refine Qg.pure (d := 21) (op := .move (.tmp 1)) (g := none) (v := .slice q ys.length d) (by kernel_rfl) (by kernel_rfl) (pv_move rfl) ?_
    refine Qg.pure (d := 22) (op := .move (.tmp 5)) (g := none) (v := .int .i64 (k : Int)) (by kernel_rfl) (by kernel_rfl) (pv_move rfl) ?_
    refine Qg.pure (d := 23) (op := .indexAddr 29 (.tmp 21) (.tmp 22)) (g := none) (v := .pointer (some ⟨q4, o5 + ((k : Int)).toNat * 1, none⟩)) (by kernel_rfl) (by kernel_rfl) (pv_indexAddr' rfl hp6 rfl (e := 5) (sz := 1) (by kernel_rfl) (by omega) (by omega)) ?_
    refine Qg.pure (d := 24) (op := .load 5 (.tmp 23)) (g := none) (v := .int .u8 ((ys).getD k 0)) (by kernel_rfl) (by kernel_rfl) (pv_load rfl (by kernel_rfl) (fun w hw => ((hB).keep (hw.at_ 0 rfl) (fun _ h => h)).cell _ _ hp6 _ (by omega) 0 (by decide))) ?_
    refine Qg.pure (d := 25) (op := .binOp .neq 5 (.tmp 20) (.tmp 24) 5) (g := none) (v := .bool (!(decide (((xs).getD k 0) = ((ys).getD k 0))))) (by kernel_rfl) (by kernel_rfl) (pv_neq rfl rfl) ?_
    exact Qg.mid (.cons rfl (.cons rfl (.cons rfl (.cons rfl (.cons rfl (.cons rfl (.cons rfl (.cons rfl (.cons rfl (.cons rfl (.cons rfl (.cons rfl (.cons rfl (.cons rfl (.cons rfl (.cons rfl (.nil _))))))))))))))))) rfl
   refine At.nx (fun _ _ h => h) [25,24,23,22,21,20,19,18,17,14,13,12,11,5,1,0] rfl ?_
   refine Ev.cd 25 rfl (fun h6 => ?_) (fun h6 => ?_)
   ·
    have h7 := of_decide_eq_false (not_t h6)
    refine Ev.sr 1 ?_
    refine Rg.ac 4 (.bool false) ?_
    refine Rg.nx (fun _ _ h => h) [25,24,23,22,21,20,19,18,17,14,13,12,11,5,4,1,0] rfl ?_
    refine Ev.rt ?_
    refine At.via (Q := Q) hQ ?_
    refine At.ret1 rfl rfl rfl ?_
    exact fun w hw => ⟨(by rw [decide_eq_false (fun e_ => by rw [e_] at h6; simp at h6)]), hw.base_below 0 rfl⟩
   ·
    have h8 := of_decide_eq_true (not_f h6)
    refine Ev.sk ?_
    refine At.nx (fun _ _ h => h) [25,24,23,22,21,20,19,18,17,14,13,12,11,5,1,0] rfl ?_
    refine Ev.rg 3 ?_
    refine Rg.mv 15 5 rfl ?_
    refine Rg.p 16 (.binOp .add 3 (.tmp 15) (.const (.int .i64 1)) 3) (pv_addb rfl rfl (in_i64 (by omega) (by omega))) ?_
    refine Rg.as 5 16 rfl ?_
    refine Rg.fin rfl ?_
    refine At.round (fun _ _ h => h) (k + 1) [0] ⟨(by omega), (fun i_ h_ => by rcases Nat.lt_succ_iff_lt_or_eq.1 h_ with h1_ | h1_; exact hno i_ h1_; subst h1_; simpa using h6)⟩ (by show xs.length - (k + 1) < xs.length - k; omega) (.cons (rfl) (.cons (rfl) (.cons (rfl) (.nil _)))) rfl (by decide)
  ·
   have h9 := of_decide_eq_false h4
   refine Ev.xt 0 ?_
   refine At.nx (fun _ _ h => h) [] rfl ?_
   refine Ev.sr 1 ?_
   refine Rg.ac 4 (.bool true) ?_
   refine Rg.nx (fun _ _ h => h) [4] rfl ?_
   refine Ev.rt ?_
   refine At.via (Q := Q) hQ ?_
   refine At.ret1 rfl rfl rfl ?_
   exact fun w hw => ⟨(by rw [decide_eq_true (rows_eq hlen_ (fun i_ h_ => hno i_ (by omega)))]), hw.base_below 0 rfl⟩

set_option maxHeartbeats 8000000 in
theorem SameEntries_calls {p q : Option Addr} {xs ys : List Entry} {c d : Nat} {w : World} (hA : EntriesAt (Low w) w p xs) (hB : EntriesAt (Low w) w q ys) (ha : xs.length ≤ 16777216) :
  Calls Try.prog 80 #[.slice p xs.length c, .slice q ys.length d] w (Ret w (.bool (decide (xs = ys)))) := by
 refine calls_ofQ (args := [_, _]) [base w (Low w)] Try.func80 (by kernel_rfl) (by kernel_rfl) (Heap.start w) ?_
 intro Q hQ
 refine Ev.sr 1 ?_
 refine Rg.ac 4 (.bool false) ?_
 refine Rg.nx (fun _ _ h => h) [4,1,0] rfl ?_
 refine Ev.sq ?_
 refine Ev.sr 5 ?_
 refine Rg.mv 6 0 rfl ?_
 refine Rg.p 7 (.call { callee := .builtin .len, args := #[.tmp 6], argTypes := #[42] }) (pv_len_slice rfl (by kernel_rfl)) ?_
 refine Rg.mv 8 1 rfl ?_
 refine Rg.p 9 (.call { callee := .builtin .len, args := #[.tmp 8], argTypes := #[42] }) (pv_len_slice rfl (by kernel_rfl)) ?_
 refine Rg.p 10 (.binOp .neq 3 (.tmp 7) (.tmp 9) 3) (pv_neq rfl rfl) ?_
 refine Rg.nx (fun _ _ h => h) [10,4,1,0] rfl ?_
 refine Ev.cd 10 rfl (fun h1 => ?_) (fun h1 => ?_)
 ·
  have h2 := of_decide_eq_false (not_t h1)
  refine Ev.sr 1 ?_
  refine Rg.ac 4 (.bool false) ?_
  refine Rg.nx (fun _ _ h => h) [4,1,0] rfl ?_
  refine Ev.rt ?_
  refine At.via (Q := Q) hQ ?_
  refine At.ret1 rfl rfl rfl ?_
  exact fun w hw => ⟨(by rw [decide_eq_false (fun e_ => by rw [e_] at h1; simp at h1)]), hw.base_below 0 rfl⟩
 ·
  have h3 := of_decide_eq_true (not_f h1)
  have hlen_ : xs.length = ys.length := by have h_ := h1; simp at h_; omega
  refine Ev.sk ?_
  refine At.nx (fun _ _ h => h) [4,1,0] rfl ?_
  refine Ev.sq ?_
  refine Ev.sr 1 ?_
  refine Rg.ac 5 (.int .i64 0) ?_
  refine Rg.nx (fun _ _ h => h) [5,4,1,0] rfl ?_
  refine Ev.bk 0 ?_
  refine ev_loop (T := Nat) (fun k => [(0, .slice p xs.length c), (1, .slice q ys.length d), (5, .int .i64 (k : Int))]) (fun k => [base w (Low w)]) (fun k => k ≤ xs.length ∧ ∀ i_, i_ < k → xs.getD i_ Entry.zero = ys.getD i_ Entry.zero) (fun k => xs.length - k) 0 [0] (by kernel_rfl) ⟨Nat.zero_le _, fun i_ h_ => absurd h_ (Nat.not_lt_zero _)⟩ (.cons (rfl) (.cons (rfl) (.cons (rfl) (.nil _)))) rfl (by decide) ?_
  rintro k ⟨(hk : k ≤ xs.length), (hno : ∀ i_, i_ < k → xs.getD i_ Entry.zero = ys.getD i_ Entry.zero)⟩
  show Ev _ _ [(0, .slice p xs.length c), (1, .slice q ys.length d), (5, .int .i64 (k : Int))] [base w (Low w)] _
  refine Ev.sq ?_
  refine Ev.sr 4 ?_
  refine Rg.mv 11 5 rfl ?_
  refine Rg.mv 12 0 rfl ?_
  refine Rg.p 13 (.call { callee := .builtin .len, args := #[.tmp 12], argTypes := #[42] }) (pv_len_slice rfl (by kernel_rfl)) ?_
  refine Rg.p 14 (.binOp .lss 3 (.tmp 11) (.tmp 13) 3) (pv_lss rfl rfl) ?_
  refine Rg.nx (fun _ _ h => h) [14,13,12,11,5,1,0] rfl ?_
  refine Ev.cd 14 rfl (fun h4 => ?_) (fun h4 => ?_)
  ·
   have h5 := of_decide_eq_true h4
   refine Ev.sk ?_
   refine At.nx (fun _ _ h => h) [14,13,12,11,5,1,0] rfl ?_
   refine Ev.sq ?_
   refine Ev.bk 1 ?_
   refine Ev.sq ?_
   have ⟨q1, o2, hp3⟩ := hA.adr (by omega)
   have ⟨q4, o5, hp6⟩ := hB.adr (by omega)
   refine ev_quiet (n := 9) (E' := [(0, .slice p xs.length c), (1, .slice q ys.length d), (5, .int .i64 (k : Int)), (11, .int .i64 (k : Int)), (12, .slice p xs.length c), (13, .int .i64 (xs.length : Int)), (14, .bool (decide ((k : Int) < (xs.length : Int)))), (17, .slice p xs.length c), (18, .int .i64 (k : Int)), (19, .pointer (some ⟨q1, o2 + ((k : Int)).toNat * 3, none⟩)), (20, .agg #[.string ((en xs k).name), .int .i64 ((en xs k).node), .int .u64 ((en xs k).cookie)]), (21, .slice q ys.length d), (22, .int .i64 (k : Int)), (23, .pointer (some ⟨q4, o5 + ((k : Int)).toNat * 3, none⟩)), (24, .agg #[.string ((en ys k).name), .int .i64 ((en ys k).node), .int .u64 ((en ys k).cookie)]), (25, .bool (!(decide (((en xs k).name) = ((en ys k).name)) && (decide (((en xs k).node) = ((en ys k).node)) && (decide (((en xs k).cookie) = ((en ys k).cookie)) && true)))))]) (by kernel_rfl) (by kernel_rfl) ?_ ?_
   ·
    refine Qg.pure (d := 17) (op := .move (.tmp 0)) (g := none) (v := .slice p xs.length c) (by kernel_rfl) (by kernel_rfl) (pv_move rfl) ?_
    refine Qg.pure (d := 18) (op := .move (.tmp 5)) (g := none) (v := .int .i64 (k : Int)) (by kernel_rfl) (by kernel_rfl) (pv_move rfl) ?_
    refine Qg.pure (d := 19) (op := .indexAddr 42 (.tmp 17) (.tmp 18)) (g := none) (v := .pointer (some ⟨q1, o2 + ((k : Int)).toNat * 3, none⟩)) (by kernel_rfl) (by kernel_rfl) (pv_indexAddr' rfl hp3 rfl (e := 50) (sz := 3) (by kernel_rfl) (by omega) (by omega)) ?_
    refine Qg.pure (d := 20) (op := .load 50 (.tmp 19)) (g := none) (v := .agg #[.string ((en xs k).name), .int .i64 ((en xs k).node), .int .u64 ((en xs k).cookie)]) (by kernel_rfl) (by kernel_rfl) (pv_load_entry (i := ((k : Int)).toNat) (es := xs) rfl hp3 (by omega) (by kernel_rfl) (by kernel_rfl) (fun w hw => ((hA).keep (hw.at_ 0 rfl) (fun k hk => hw.lt 0 rfl hk)))) ?_
    refine Qg.pure (d := 21) (op := .move (.tmp 1)) (g := none) (v := .slice q ys.length d) (by kernel_rfl) (by kernel_rfl) (pv_move rfl) ?_
    refine Qg.pure (d := 22) (op := .move (.tmp 5)) (g := none) (v := .int .i64 (k : Int)) (by kernel_rfl) (by kernel_rfl) (pv_move rfl) ?_
    refine Qg.pure (d := 23) (op := .indexAddr 42 (.tmp 21) (.tmp 22)) (g := none) (v := .pointer (some ⟨q4, o5 + ((k : Int)).toNat * 3, none⟩)) (by kernel_rfl) (by kernel_rfl) (pv_indexAddr' rfl hp6 rfl (e := 50) (sz := 3) (by kernel_rfl) (by omega) (by omega)) ?_
    refine Qg.pure (d := 24) (op := .load 50 (.tmp 23)) (g := none) (v := .agg #[.string ((en ys k).name), .int .i64 ((en ys k).node), .int .u64 ((en ys k).cookie)]) (by kernel_rfl) (by kernel_rfl) (pv_load_entry (i := ((k : Int)).toNat) (es := ys) rfl hp6 (by omega) (by kernel_rfl) (by kernel_rfl) (fun w hw => ((hB).keep (hw.at_ 0 rfl) (fun k hk => hw.lt 0 rfl hk)))) ?_
    refine Qg.pure (d := 25) (op := .binOp .neq 50 (.tmp 20) (.tmp 24) 50) (g := none) (v := .bool (!(decide (((en xs k).name) = ((en ys k).name)) && (decide (((en xs k).node) = ((en ys k).node)) && (decide (((en xs k).cookie) = ((en ys k).cookie)) && true))))) (by kernel_rfl) (by kernel_rfl) (pv_neq_V (b := (decide (((en xs k).name) = ((en ys k).name)) && (decide (((en xs k).node) = ((en ys k).node)) && (decide (((en xs k).cookie) = ((en ys k).cookie)) && true)))) rfl rfl (by kernel_rfl) (by kernel_rfl)) ?_
    exact Qg.mid (.cons rfl (.cons rfl (.cons rfl (.cons rfl (.cons rfl (.cons rfl (.cons rfl (.cons rfl (.cons rfl (.cons rfl (.cons rfl (.cons rfl (.cons rfl (.cons rfl (.cons rfl (.cons rfl (.nil _))))))))))))))))) rfl
   refine At.nx (fun _ _ h => h) [25,24,23,22,21,20,19,18,17,14,13,12,11,5,1,0] rfl ?_
   refine Ev.cd 25 rfl (fun h6 => ?_) (fun h6 => ?_)
   ·
    have h7 := not_t h6
    refine Ev.sr 1 ?_
    refine Rg.ac 4 (.bool false) ?_
    refine Rg.nx (fun _ _ h => h) [25,24,23,22,21,20,19,18,17,14,13,12,11,5,4,1,0] rfl ?_
    refine Ev.rt ?_
    refine At.via (Q := Q) hQ ?_
    refine At.ret1 rfl rfl rfl ?_
    exact fun w hw => ⟨(by rw [decide_eq_false (fun e_ => by rw [e_] at h6; simp at h6)]), hw.base_below 0 rfl⟩
   ·
    have h8 := not_f h6
    refine Ev.sk ?_
    refine At.nx (fun _ _ h => h) [25,24,23,22,21,20,19,18,17,14,13,12,11,5,1,0] rfl ?_
    refine Ev.rg 3 ?_
    refine Rg.mv 15 5 rfl ?_
    refine Rg.p 16 (.binOp .add 3 (.tmp 15) (.const (.int .i64 1)) 3) (pv_addb rfl rfl (in_i64 (by omega) (by omega))) ?_
    refine Rg.as 5 16 rfl ?_
    refine Rg.fin rfl ?_
    refine At.round (fun _ _ h => h) (k + 1) [0] ⟨(by omega), (fun i_ h_ => by rcases Nat.lt_succ_iff_lt_or_eq.1 h_ with h1_ | h1_; exact hno i_ h1_; subst h1_; exact entry_eq h6)⟩ (by show xs.length - (k + 1) < xs.length - k; omega) (.cons (rfl) (.cons (rfl) (.cons (rfl) (.nil _)))) rfl (by decide)
  ·
   have h9 := of_decide_eq_false h4
   refine Ev.xt 0 ?_
   refine At.nx (fun _ _ h => h) [] rfl ?_
   refine Ev.sr 1 ?_
   refine Rg.ac 4 (.bool true) ?_
   refine Rg.nx (fun _ _ h => h) [4] rfl ?_
   refine Ev.rt ?_
   refine At.via (Q := Q) hQ ?_
   refine At.ret1 rfl rfl rfl ?_
   exact fun w hw => ⟨(by rw [decide_eq_true (rows_eq hlen_ (fun i_ h_ => hno i_ (by omega)))]), hw.base_below 0 rfl⟩

noncomputable def sameNS (n m : Node) : Bool := ((((((((((((((decide (n.kind = m.kind)) && (decide (n.gen = m.gen))) && (decide (n.mode = m.mode))) && (decide (n.user = m.user))) && (decide (n.group = m.group))) && (decide (n.links = m.links))) && (decide (n.rs = m.rs) && (decide (n.rn = m.rn) && true))) && (decide (n.ws = m.ws) && (decide (n.wn = m.wn) && true))) && (decide (n.ts = m.ts) && (decide (n.tn = m.tn) && true))) && (decide (n.data = m.data))) && (decide ([n.verf.a0, n.verf.a1, n.verf.a2, n.verf.a3, n.verf.a4, n.verf.a5, n.verf.a6, n.verf.a7] = [m.verf.a0, m.verf.a1, m.verf.a2, m.verf.a3, m.verf.a4, m.verf.a5, m.verf.a6, m.verf.a7]))) && (decide (n.target = m.target))) && (decide (n.list = m.list))) && (decide (n.parent = m.parent))) && (decide (n.next = m.next))

set_option maxHeartbeats 8000000 in
theorem sameNS_calls {n m : Node} {a b : Loc} {w : World} (hA : NodeAt (Low w) w n a) (hB : NodeAt (Low w) w m b) (hW : NodeWf n) :
  Calls Try.prog 25 #[.agg (n.cells a), .agg (m.cells b)] w (Ret w (.bool (sameNS n m))) := by
 refine calls_ofQ (args := [_, _]) [base w (Low w)] Try.func25 (by kernel_rfl) (by kernel_rfl) (Heap.start w) ?_
 intro Q hQ
 refine Ev.sr 3 ?_
 refine Rg.bx 2 44 (.tmp 0) rfl fun b1 => ?_
 refine Rg.bx 3 44 (.tmp 1) rfl fun b2 => ?_
 refine Rg.ac 4 (.bool false) ?_
 refine Rg.nx (fun _ _ h => h) [4,3,2] rfl ?_
 refine Ev.sr 104 ?_
 refine Rg.fa 5 44 2 0 0 rfl ?_
 refine Rg.ld 6 33 5 1 rfl rfl rfl ?_
 refine Rg.fa 7 44 3 0 0 rfl ?_
 refine Rg.ld 8 33 7 0 rfl rfl rfl ?_
 refine Rg.p 9 (.binOp .eql 33 (.tmp 6) (.tmp 8) 33) (pv_eql rfl rfl) ?_
 refine Rg.mv 10 9 rfl ?_
 refine Rg.ga 12 16 10 (decide (n.gen = m.gen)) rfl (fun h1 => ?_) (fun h1 => ?_) ?_
 ·
  have h2 := of_decide_eq_true h1
  refine Rg.pg 5 true 11 (.fieldAddr 44 (.tmp 2) 1) (pv_fieldAddr rfl (n := 1) (by kernel_rfl)) ?_
  refine Rg.pg 5 true 12 (.load 23 (.tmp 11)) (v := .int .u32 n.gen) (pv_load_blk 1 rfl rfl (by kernel_rfl) rfl) ?_
  refine Rg.pg 5 true 13 (.fieldAddr 44 (.tmp 3) 1) (pv_fieldAddr rfl (n := 1) (by kernel_rfl)) ?_
  refine Rg.pg 5 true 14 (.load 23 (.tmp 13)) (v := .int .u32 m.gen) (pv_load_blk 0 rfl rfl (by kernel_rfl) rfl) ?_
  refine Rg.pg 5 true 15 (.binOp .eql 23 (.tmp 12) (.tmp 14) 23) (pv_eql rfl rfl) ?_
  refine Rg.p 16 (.pick (.tmp 10) (.tmp 15) (.const (.bool false))) (pv_pick_t rfl rfl) ?_
  exact Rg.em 10 h1 (at_t h1) rfl rfl
 ·
  refine Rg.skips 11 (by kernel_rfl) ?_
  refine Rg.p 16 (.pick (.tmp 10) (.tmp 15) (.const (.bool false))) (pv_pick_f rfl rfl) ?_
  exact Rg.em 10 h1 (at_f h1) rfl rfl
 refine Rg.mv 17 16 rfl ?_
 refine Rg.ga 19 23 17 (decide (n.mode = m.mode)) rfl (fun h3 => ?_) (fun h3 => ?_) ?_
 ·
  have ⟨h4, h5⟩ := and_t h3
  have h6 := of_decide_eq_true h4
  have h7 := of_decide_eq_true h5
  refine Rg.pg 12 true 18 (.fieldAddr 44 (.tmp 2) 2) (pv_fieldAddr rfl (n := 2) (by kernel_rfl)) ?_
  refine Rg.pg 12 true 19 (.load 23 (.tmp 18)) (v := .int .u32 n.mode) (pv_load_blk 1 rfl rfl (by kernel_rfl) rfl) ?_
  refine Rg.pg 12 true 20 (.fieldAddr 44 (.tmp 3) 2) (pv_fieldAddr rfl (n := 2) (by kernel_rfl)) ?_
  refine Rg.pg 12 true 21 (.load 23 (.tmp 20)) (v := .int .u32 m.mode) (pv_load_blk 0 rfl rfl (by kernel_rfl) rfl) ?_
  refine Rg.pg 12 true 22 (.binOp .eql 23 (.tmp 19) (.tmp 21) 23) (pv_eql rfl rfl) ?_
  refine Rg.p 23 (.pick (.tmp 17) (.tmp 22) (.const (.bool false))) (pv_pick_t rfl rfl) ?_
  exact Rg.em 17 h3 (at_t h3) rfl rfl
 ·
  refine Rg.skips 18 (by kernel_rfl) ?_
  refine Rg.p 23 (.pick (.tmp 17) (.tmp 22) (.const (.bool false))) (pv_pick_f rfl rfl) ?_
  exact Rg.em 17 h3 (at_f h3) rfl rfl
 refine Rg.mv 24 23 rfl ?_
 refine Rg.ga 26 30 24 (decide (n.user = m.user)) rfl (fun h8 => ?_) (fun h8 => ?_) ?_
 ·
  have ⟨h9, h10⟩ := and_t h8
  have ⟨h11, h12⟩ := and_t h9
  have h13 := of_decide_eq_true h11
  have h14 := of_decide_eq_true h12
  have h15 := of_decide_eq_true h10
  refine Rg.pg 19 true 25 (.fieldAddr 44 (.tmp 2) 3) (pv_fieldAddr rfl (n := 3) (by kernel_rfl)) ?_
  refine Rg.pg 19 true 26 (.load 23 (.tmp 25)) (v := .int .u32 n.user) (pv_load_blk 1 rfl rfl (by kernel_rfl) rfl) ?_
  refine Rg.pg 19 true 27 (.fieldAddr 44 (.tmp 3) 3) (pv_fieldAddr rfl (n := 3) (by kernel_rfl)) ?_
  refine Rg.pg 19 true 28 (.load 23 (.tmp 27)) (v := .int .u32 m.user) (pv_load_blk 0 rfl rfl (by kernel_rfl) rfl) ?_
  refine Rg.pg 19 true 29 (.binOp .eql 23 (.tmp 26) (.tmp 28) 23) (pv_eql rfl rfl) ?_
  refine Rg.p 30 (.pick (.tmp 24) (.tmp 29) (.const (.bool false))) (pv_pick_t rfl rfl) ?_
  exact Rg.em 24 h8 (at_t h8) rfl rfl
 ·
  refine Rg.skips 25 (by kernel_rfl) ?_
  refine Rg.p 30 (.pick (.tmp 24) (.tmp 29) (.const (.bool false))) (pv_pick_f rfl rfl) ?_
  exact Rg.em 24 h8 (at_f h8) rfl rfl
 refine Rg.mv 31 30 rfl ?_
 refine Rg.ga 33 37 31 (decide (n.group = m.group)) rfl (fun h16 => ?_) (fun h16 => ?_) ?_
 ·
  have ⟨h17, h18⟩ := and_t h16
  have ⟨h19, h20⟩ := and_t h17
  have ⟨h21, h22⟩ := and_t h19
  have h23 := of_decide_eq_true h21
  have h24 := of_decide_eq_true h22
  have h25 := of_decide_eq_true h20
  have h26 := of_decide_eq_true h18
  refine Rg.pg 26 true 32 (.fieldAddr 44 (.tmp 2) 4) (pv_fieldAddr rfl (n := 4) (by kernel_rfl)) ?_
  refine Rg.pg 26 true 33 (.load 23 (.tmp 32)) (v := .int .u32 n.group) (pv_load_blk 1 rfl rfl (by kernel_rfl) rfl) ?_
  refine Rg.pg 26 true 34 (.fieldAddr 44 (.tmp 3) 4) (pv_fieldAddr rfl (n := 4) (by kernel_rfl)) ?_
  refine Rg.pg 26 true 35 (.load 23 (.tmp 34)) (v := .int .u32 m.group) (pv_load_blk 0 rfl rfl (by kernel_rfl) rfl) ?_
  refine Rg.pg 26 true 36 (.binOp .eql 23 (.tmp 33) (.tmp 35) 23) (pv_eql rfl rfl) ?_
  refine Rg.p 37 (.pick (.tmp 31) (.tmp 36) (.const (.bool false))) (pv_pick_t rfl rfl) ?_
  exact Rg.em 31 h16 (at_t h16) rfl rfl
 ·
  refine Rg.skips 32 (by kernel_rfl) ?_
  refine Rg.p 37 (.pick (.tmp 31) (.tmp 36) (.const (.bool false))) (pv_pick_f rfl rfl) ?_
  exact Rg.em 31 h16 (at_f h16) rfl rfl
 refine Rg.mv 38 37 rfl ?_
 refine Rg.ga 40 44 38 (decide (n.links = m.links)) rfl (fun h27 => ?_) (fun h27 => ?_) ?_
 ·
  have ⟨h28, h29⟩ := and_t h27
  have ⟨h30, h31⟩ := and_t h28
  have ⟨h32, h33⟩ := and_t h30
  have ⟨h34, h35⟩ := and_t h32
  have h36 := of_decide_eq_true h34
  have h37 := of_decide_eq_true h35
  have h38 := of_decide_eq_true h33
  have h39 := of_decide_eq_true h31
  have h40 := of_decide_eq_true h29
  refine Rg.pg 33 true 39 (.fieldAddr 44 (.tmp 2) 5) (pv_fieldAddr rfl (n := 5) (by kernel_rfl)) ?_
  refine Rg.pg 33 true 40 (.load 3 (.tmp 39)) (v := .int .i64 n.links) (pv_load_blk 1 rfl rfl (by kernel_rfl) rfl) ?_
  refine Rg.pg 33 true 41 (.fieldAddr 44 (.tmp 3) 5) (pv_fieldAddr rfl (n := 5) (by kernel_rfl)) ?_
  refine Rg.pg 33 true 42 (.load 3 (.tmp 41)) (v := .int .i64 m.links) (pv_load_blk 0 rfl rfl (by kernel_rfl) rfl) ?_
  refine Rg.pg 33 true 43 (.binOp .eql 3 (.tmp 40) (.tmp 42) 3) (pv_eql rfl rfl) ?_
  refine Rg.p 44 (.pick (.tmp 38) (.tmp 43) (.const (.bool false))) (pv_pick_t rfl rfl) ?_
  exact Rg.em 38 h27 (at_t h27) rfl rfl
 ·
  refine Rg.skips 39 (by kernel_rfl) ?_
  refine Rg.p 44 (.pick (.tmp 38) (.tmp 43) (.const (.bool false))) (pv_pick_f rfl rfl) ?_
  exact Rg.em 38 h27 (at_f h27) rfl rfl
 refine Rg.mv 45 44 rfl ?_
 refine Rg.ga 47 51 45 (decide (n.rs = m.rs) && (decide (n.rn = m.rn) && true)) rfl (fun h41 => ?_) (fun h41 => ?_) ?_
 ·
  have ⟨h42, h43⟩ := and_t h41
  have ⟨h44, h45⟩ := and_t h42
  have ⟨h46, h47⟩ := and_t h44
  have ⟨h48, h49⟩ := and_t h46
  have ⟨h50, h51⟩ := and_t h48
  have h52 := of_decide_eq_true h50
  have h53 := of_decide_eq_true h51
  have h54 := of_decide_eq_true h49
  have h55 := of_decide_eq_true h47
  have h56 := of_decide_eq_true h45
  have h57 := of_decide_eq_true h43
  refine Rg.pg 40 true 46 (.fieldAddr 44 (.tmp 2) 6) (pv_fieldAddr rfl (n := 6) (by kernel_rfl)) ?_
  refine Rg.pg 40 true 47 (.load 36 (.tmp 46)) (v := .agg #[.int .u32 n.rs, .int .u32 n.rn]) (pv_load_blk_agg 1 rfl rfl (vs := #[.int .u32 n.rs, .int .u32 n.rn]) (by kernel_rfl) (by kernel_rfl) (agg_rfl (by kernel_rfl))) ?_
  refine Rg.pg 40 true 48 (.fieldAddr 44 (.tmp 3) 6) (pv_fieldAddr rfl (n := 6) (by kernel_rfl)) ?_
  refine Rg.pg 40 true 49 (.load 36 (.tmp 48)) (v := .agg #[.int .u32 m.rs, .int .u32 m.rn]) (pv_load_blk_agg 0 rfl rfl (vs := #[.int .u32 m.rs, .int .u32 m.rn]) (by kernel_rfl) (by kernel_rfl) (agg_rfl (by kernel_rfl))) ?_
  refine Rg.pg 40 true 50 (.binOp .eql 36 (.tmp 47) (.tmp 49) 36) (v := .bool (decide (n.rs = m.rs) && (decide (n.rn = m.rn) && true))) (pv_eql_V (b := (decide (n.rs = m.rs) && (decide (n.rn = m.rn) && true))) rfl rfl (by kernel_rfl) (by kernel_rfl)) ?_
  refine Rg.p 51 (.pick (.tmp 45) (.tmp 50) (.const (.bool false))) (pv_pick_t rfl rfl) ?_
  exact Rg.em 45 h41 (at_t h41) rfl rfl
 ·
  refine Rg.skips 46 (by kernel_rfl) ?_
  refine Rg.p 51 (.pick (.tmp 45) (.tmp 50) (.const (.bool false))) (pv_pick_f rfl rfl) ?_
  exact Rg.em 45 h41 (at_f h41) rfl rfl
 refine Rg.mv 52 51 rfl ?_
 refine Rg.ga 54 58 52 (decide (n.ws = m.ws) && (decide (n.wn = m.wn) && true)) rfl (fun h58 => ?_) (fun h58 => ?_) ?_
 ·
  have ⟨h59, h60⟩ := and_t h58
  have ⟨h61, h62⟩ := and_t h59
  have ⟨h63, h64⟩ := and_t h61
  have ⟨h65, h66⟩ := and_t h63
  have ⟨h67, h68⟩ := and_t h65
  have ⟨h69, h70⟩ := and_t h67
  have h71 := of_decide_eq_true h69
  have h72 := of_decide_eq_true h70
  have h73 := of_decide_eq_true h68
  have h74 := of_decide_eq_true h66
  have h75 := of_decide_eq_true h64
  have h76 := of_decide_eq_true h62
  refine Rg.pg 47 true 53 (.fieldAddr 44 (.tmp 2) 7) (pv_fieldAddr rfl (n := 8) (by kernel_rfl)) ?_
  refine Rg.pg 47 true 54 (.load 36 (.tmp 53)) (v := .agg #[.int .u32 n.ws, .int .u32 n.wn]) (pv_load_blk_agg 1 rfl rfl (vs := #[.int .u32 n.ws, .int .u32 n.wn]) (by kernel_rfl) (by kernel_rfl) (agg_rfl (by kernel_rfl))) ?_
  refine Rg.pg 47 true 55 (.fieldAddr 44 (.tmp 3) 7) (pv_fieldAddr rfl (n := 8) (by kernel_rfl)) ?_
  refine Rg.pg 47 true 56 (.load 36 (.tmp 55)) (v := .agg #[.int .u32 m.ws, .int .u32 m.wn]) (pv_load_blk_agg 0 rfl rfl (vs := #[.int .u32 m.ws, .int .u32 m.wn]) (by kernel_rfl) (by kernel_rfl) (agg_rfl (by kernel_rfl))) ?_
  refine Rg.pg 47 true 57 (.binOp .eql 36 (.tmp 54) (.tmp 56) 36) (v := .bool (decide (n.ws = m.ws) && (decide (n.wn = m.wn) && true))) (pv_eql_V (b := (decide (n.ws = m.ws) && (decide (n.wn = m.wn) && true))) rfl rfl (by kernel_rfl) (by kernel_rfl)) ?_
  refine Rg.p 58 (.pick (.tmp 52) (.tmp 57) (.const (.bool false))) (pv_pick_t rfl rfl) ?_
  exact Rg.em 52 h58 (at_t h58) rfl rfl
 ·
  refine Rg.skips 53 (by kernel_rfl) ?_
  refine Rg.p 58 (.pick (.tmp 52) (.tmp 57) (.const (.bool false))) (pv_pick_f rfl rfl) ?_
  exact Rg.em 52 h58 (at_f h58) rfl rfl
 refine Rg.mv 59 58 rfl ?_
 refine Rg.ga 61 65 59 (decide (n.ts = m.ts) && (decide (n.tn = m.tn) && true)) rfl (fun h77 => ?_) (fun h77 => ?_) ?_
 ·
  have ⟨h78, h79⟩ := and_t h77
  have ⟨h80, h81⟩ := and_t h78
  have ⟨h82, h83⟩ := and_t h80
  have ⟨h84, h85⟩ := and_t h82
  have ⟨h86, h87⟩ := and_t h84
  have ⟨h88, h89⟩ := and_t h86
  have ⟨h90, h91⟩ := and_t h88
  have h92 := of_decide_eq_true h90
  have h93 := of_decide_eq_true h91
  have h94 := of_decide_eq_true h89
  have h95 := of_decide_eq_true h87
  have h96 := of_decide_eq_true h85
  have h97 := of_decide_eq_true h83
  refine Rg.pg 54 true 60 (.fieldAddr 44 (.tmp 2) 8) (pv_fieldAddr rfl (n := 10) (by kernel_rfl)) ?_
  refine Rg.pg 54 true 61 (.load 36 (.tmp 60)) (v := .agg #[.int .u32 n.ts, .int .u32 n.tn]) (pv_load_blk_agg 1 rfl rfl (vs := #[.int .u32 n.ts, .int .u32 n.tn]) (by kernel_rfl) (by kernel_rfl) (agg_rfl (by kernel_rfl))) ?_
  refine Rg.pg 54 true 62 (.fieldAddr 44 (.tmp 3) 8) (pv_fieldAddr rfl (n := 10) (by kernel_rfl)) ?_
  refine Rg.pg 54 true 63 (.load 36 (.tmp 62)) (v := .agg #[.int .u32 m.ts, .int .u32 m.tn]) (pv_load_blk_agg 0 rfl rfl (vs := #[.int .u32 m.ts, .int .u32 m.tn]) (by kernel_rfl) (by kernel_rfl) (agg_rfl (by kernel_rfl))) ?_
  refine Rg.pg 54 true 64 (.binOp .eql 36 (.tmp 61) (.tmp 63) 36) (v := .bool (decide (n.ts = m.ts) && (decide (n.tn = m.tn) && true))) (pv_eql_V (b := (decide (n.ts = m.ts) && (decide (n.tn = m.tn) && true))) rfl rfl (by kernel_rfl) (by kernel_rfl)) ?_
  refine Rg.p 65 (.pick (.tmp 59) (.tmp 64) (.const (.bool false))) (pv_pick_t rfl rfl) ?_
  exact Rg.em 59 h77 (at_t h77) rfl rfl
 ·
  refine Rg.skips 60 (by kernel_rfl) ?_
  refine Rg.p 65 (.pick (.tmp 59) (.tmp 64) (.const (.bool false))) (pv_pick_f rfl rfl) ?_
  exact Rg.em 59 h77 (at_f h77) rfl rfl
 refine Rg.mv 66 65 rfl ?_
 refine Rg.ga 68 72 66 (decide (n.data = m.data)) rfl (fun h98 => ?_) (fun h98 => ?_) ?_
 ·
  have ⟨h99, h100⟩ := and_t h98
  have ⟨h101, h102⟩ := and_t h99
  have ⟨h103, h104⟩ := and_t h101
  have ⟨h105, h106⟩ := and_t h103
  have ⟨h107, h108⟩ := and_t h105
  have ⟨h109, h110⟩ := and_t h107
  have ⟨h111, h112⟩ := and_t h109
  have ⟨h113, h114⟩ := and_t h111
  have h115 := of_decide_eq_true h113
  have h116 := of_decide_eq_true h114
  have h117 := of_decide_eq_true h112
  have h118 := of_decide_eq_true h110
  have h119 := of_decide_eq_true h108
  have h120 := of_decide_eq_true h106
  refine Rg.pg 61 true 67 (.fieldAddr 44 (.tmp 2) 9) (pv_fieldAddr rfl (n := 12) (by kernel_rfl)) ?_
  refine Rg.pg 61 true 68 (.load 29 (.tmp 67)) (v := .slice a.dA n.data.length a.dCap) (pv_load_blk 1 rfl rfl (by kernel_rfl) rfl) ?_
  refine Rg.pg 61 true 69 (.fieldAddr 44 (.tmp 3) 9) (pv_fieldAddr rfl (n := 12) (by kernel_rfl)) ?_
  refine Rg.pg 61 true 70 (.load 29 (.tmp 69)) (v := .slice b.dA m.data.length b.dCap) (pv_load_blk 0 rfl rfl (by kernel_rfl) rfl) ?_
  refine rg_call (d := some 71) (f := 79) (xs := #[.tmp 68, .tmp 70]) (ts := #[29, 29]) (g := some (61, true)) (v := .bool (decide (n.data = m.data))) (by kernel_rfl) (by kernel_rfl) (by kernel_rfl) rfl (fun w hw => SameBytes_calls (((hA).data).keep (hw.at_ 2 rfl) (fun k hk => hw.lt 2 rfl hk)) (((hB).data).keep (hw.at_ 2 rfl) (fun k hk => hw.lt 2 rfl hk)) (by have h_ := hW.data; omega)) ?_
  refine Rg.p 72 (.pick (.tmp 66) (.tmp 71) (.const (.bool false))) (pv_pick_t rfl rfl) ?_
  exact Rg.em 66 h98 (at_t h98) rfl rfl
 ·
  refine Rg.skips 67 (by kernel_rfl) ?_
  refine Rg.p 72 (.pick (.tmp 66) (.tmp 71) (.const (.bool false))) (pv_pick_f rfl rfl) ?_
  exact Rg.em 66 h98 (at_f h98) rfl rfl
 refine Rg.mv 73 72 rfl ?_
 refine Rg.ga 75 79 73 (decide ([n.verf.a0, n.verf.a1, n.verf.a2, n.verf.a3, n.verf.a4, n.verf.a5, n.verf.a6, n.verf.a7] = [m.verf.a0, m.verf.a1, m.verf.a2, m.verf.a3, m.verf.a4, m.verf.a5, m.verf.a6, m.verf.a7])) rfl (fun h121 => ?_) (fun h121 => ?_) ?_
 ·
  have ⟨h122, h123⟩ := and_t h121
  have ⟨h124, h125⟩ := and_t h122
  have ⟨h126, h127⟩ := and_t h124
  have ⟨h128, h129⟩ := and_t h126
  have ⟨h130, h131⟩ := and_t h128
  have ⟨h132, h133⟩ := and_t h130
  have ⟨h134, h135⟩ := and_t h132
  have ⟨h136, h137⟩ := and_t h134
  have ⟨h138, h139⟩ := and_t h136
  have h140 := of_decide_eq_true h138
  have h141 := of_decide_eq_true h139
  have h142 := of_decide_eq_true h137
  have h143 := of_decide_eq_true h135
  have h144 := of_decide_eq_true h133
  have h145 := of_decide_eq_true h131
  have h146 := of_decide_eq_true h123
  refine Rg.pg 68 true 74 (.fieldAddr 44 (.tmp 2) 10) (pv_fieldAddr rfl (n := 13) (by kernel_rfl)) ?_
  refine Rg.pg 68 true 75 (.load 41 (.tmp 74)) (v := .agg #[.int .u8 n.verf.a0, .int .u8 n.verf.a1, .int .u8 n.verf.a2, .int .u8 n.verf.a3, .int .u8 n.verf.a4, .int .u8 n.verf.a5, .int .u8 n.verf.a6, .int .u8 n.verf.a7]) (pv_load_blk_agg 1 rfl rfl (vs := #[.int .u8 n.verf.a0, .int .u8 n.verf.a1, .int .u8 n.verf.a2, .int .u8 n.verf.a3, .int .u8 n.verf.a4, .int .u8 n.verf.a5, .int .u8 n.verf.a6, .int .u8 n.verf.a7]) (by kernel_rfl) (by kernel_rfl) (agg_rfl (by kernel_rfl))) ?_
  refine Rg.pg 68 true 76 (.fieldAddr 44 (.tmp 3) 10) (pv_fieldAddr rfl (n := 13) (by kernel_rfl)) ?_
  refine Rg.pg 68 true 77 (.load 41 (.tmp 76)) (v := .agg #[.int .u8 m.verf.a0, .int .u8 m.verf.a1, .int .u8 m.verf.a2, .int .u8 m.verf.a3, .int .u8 m.verf.a4, .int .u8 m.verf.a5, .int .u8 m.verf.a6, .int .u8 m.verf.a7]) (pv_load_blk_agg 0 rfl rfl (vs := #[.int .u8 m.verf.a0, .int .u8 m.verf.a1, .int .u8 m.verf.a2, .int .u8 m.verf.a3, .int .u8 m.verf.a4, .int .u8 m.verf.a5, .int .u8 m.verf.a6, .int .u8 m.verf.a7]) (by kernel_rfl) (by kernel_rfl) (agg_rfl (by kernel_rfl))) ?_
  refine Rg.pg 68 true 78 (.binOp .eql 41 (.tmp 75) (.tmp 77) 41) (v := .bool (decide ([n.verf.a0, n.verf.a1, n.verf.a2, n.verf.a3, n.verf.a4, n.verf.a5, n.verf.a6, n.verf.a7] = [m.verf.a0, m.verf.a1, m.verf.a2, m.verf.a3, m.verf.a4, m.verf.a5, m.verf.a6, m.verf.a7]))) (pv_eql_arr (n := 8) (e := 5) (q := .u8) (us := [n.verf.a0, n.verf.a1, n.verf.a2, n.verf.a3, n.verf.a4, n.verf.a5, n.verf.a6, n.verf.a7]) (vs := [m.verf.a0, m.verf.a1, m.verf.a2, m.verf.a3, m.verf.a4, m.verf.a5, m.verf.a6, m.verf.a7]) rfl rfl (by kernel_rfl) (by kernel_rfl) (by kernel_rfl) (by kernel_rfl) rfl rfl) ?_
  refine Rg.p 79 (.pick (.tmp 73) (.tmp 78) (.const (.bool false))) (pv_pick_t rfl rfl) ?_
  exact Rg.em 73 h121 (at_t h121) rfl rfl
 ·
  refine Rg.skips 74 (by kernel_rfl) ?_
  refine Rg.p 79 (.pick (.tmp 73) (.tmp 78) (.const (.bool false))) (pv_pick_f rfl rfl) ?_
  exact Rg.em 73 h121 (at_f h121) rfl rfl
 refine Rg.mv 80 79 rfl ?_
 refine Rg.ga 82 86 80 (decide (n.target = m.target)) rfl (fun h147 => ?_) (fun h147 => ?_) ?_
 ·
  have ⟨h148, h149⟩ := and_t h147
  have ⟨h150, h151⟩ := and_t h148
  have ⟨h152, h153⟩ := and_t h150
  have ⟨h154, h155⟩ := and_t h152
  have ⟨h156, h157⟩ := and_t h154
  have ⟨h158, h159⟩ := and_t h156
  have ⟨h160, h161⟩ := and_t h158
  have ⟨h162, h163⟩ := and_t h160
  have ⟨h164, h165⟩ := and_t h162
  have ⟨h166, h167⟩ := and_t h164
  have h168 := of_decide_eq_true h166
  have h169 := of_decide_eq_true h167
  have h170 := of_decide_eq_true h165
  have h171 := of_decide_eq_true h163
  have h172 := of_decide_eq_true h161
  have h173 := of_decide_eq_true h159
  have h174 := of_decide_eq_true h151
  have h175 := of_decide_eq_true h149
  refine Rg.pg 75 true 81 (.fieldAddr 44 (.tmp 2) 11) (pv_fieldAddr rfl (n := 21) (by kernel_rfl)) ?_
  refine Rg.pg 75 true 82 (.load 9 (.tmp 81)) (v := .string n.target) (pv_load_blk 1 rfl rfl (by kernel_rfl) rfl) ?_
  refine Rg.pg 75 true 83 (.fieldAddr 44 (.tmp 3) 11) (pv_fieldAddr rfl (n := 21) (by kernel_rfl)) ?_
  refine Rg.pg 75 true 84 (.load 9 (.tmp 83)) (v := .string m.target) (pv_load_blk 0 rfl rfl (by kernel_rfl) rfl) ?_
  refine Rg.pg 75 true 85 (.binOp .eql 9 (.tmp 82) (.tmp 84) 9) (pv_eql_str rfl rfl) ?_
  refine Rg.p 86 (.pick (.tmp 80) (.tmp 85) (.const (.bool false))) (pv_pick_t rfl rfl) ?_
  exact Rg.em 80 h147 (at_t h147) rfl rfl
 ·
  refine Rg.skips 81 (by kernel_rfl) ?_
  refine Rg.p 86 (.pick (.tmp 80) (.tmp 85) (.const (.bool false))) (pv_pick_f rfl rfl) ?_
  exact Rg.em 80 h147 (at_f h147) rfl rfl
 refine Rg.mv 87 86 rfl ?_
 refine Rg.ga 89 93 87 (decide (n.list = m.list)) rfl (fun h176 => ?_) (fun h176 => ?_) ?_
 ·
  have ⟨h177, h178⟩ := and_t h176
  have ⟨h179, h180⟩ := and_t h177
  have ⟨h181, h182⟩ := and_t h179
  have ⟨h183, h184⟩ := and_t h181
  have ⟨h185, h186⟩ := and_t h183
  have ⟨h187, h188⟩ := and_t h185
  have ⟨h189, h190⟩ := and_t h187
  have ⟨h191, h192⟩ := and_t h189
  have ⟨h193, h194⟩ := and_t h191
  have ⟨h195, h196⟩ := and_t h193
  have ⟨h197, h198⟩ := and_t h195
  have h199 := of_decide_eq_true h197
  have h200 := of_decide_eq_true h198
  have h201 := of_decide_eq_true h196
  have h202 := of_decide_eq_true h194
  have h203 := of_decide_eq_true h192
  have h204 := of_decide_eq_true h190
  have h205 := of_decide_eq_true h182
  have h206 := of_decide_eq_true h180
  have h207 := of_decide_eq_true h178
  refine Rg.pg 82 true 88 (.fieldAddr 44 (.tmp 2) 12) (pv_fieldAddr rfl (n := 22) (by kernel_rfl)) ?_
  refine Rg.pg 82 true 89 (.load 42 (.tmp 88)) (v := .slice a.lA n.list.length a.lCap) (pv_load_blk 1 rfl rfl (by kernel_rfl) rfl) ?_
  refine Rg.pg 82 true 90 (.fieldAddr 44 (.tmp 3) 12) (pv_fieldAddr rfl (n := 22) (by kernel_rfl)) ?_
  refine Rg.pg 82 true 91 (.load 42 (.tmp 90)) (v := .slice b.lA m.list.length b.lCap) (pv_load_blk 0 rfl rfl (by kernel_rfl) rfl) ?_
  refine rg_call (d := some 92) (f := 80) (xs := #[.tmp 89, .tmp 91]) (ts := #[42, 42]) (g := some (82, true)) (v := .bool (decide (n.list = m.list))) (by kernel_rfl) (by kernel_rfl) (by kernel_rfl) rfl (fun w hw => SameEntries_calls (((hA).list).keep (hw.at_ 2 rfl) (fun k hk => hw.lt 2 rfl hk)) (((hB).list).keep (hw.at_ 2 rfl) (fun k hk => hw.lt 2 rfl hk)) (by have h_ := hW.list; omega)) ?_
  refine Rg.p 93 (.pick (.tmp 87) (.tmp 92) (.const (.bool false))) (pv_pick_t rfl rfl) ?_
  exact Rg.em 87 h176 (at_t h176) rfl rfl
 ·
  refine Rg.skips 88 (by kernel_rfl) ?_
  refine Rg.p 93 (.pick (.tmp 87) (.tmp 92) (.const (.bool false))) (pv_pick_f rfl rfl) ?_
  exact Rg.em 87 h176 (at_f h176) rfl rfl
 refine Rg.mv 94 93 rfl ?_
 refine Rg.ga 96 100 94 (decide (n.parent = m.parent)) rfl (fun h208 => ?_) (fun h208 => ?_) ?_
 ·
  have ⟨h209, h210⟩ := and_t h208
  have ⟨h211, h212⟩ := and_t h209
  have ⟨h213, h214⟩ := and_t h211
  have ⟨h215, h216⟩ := and_t h213
  have ⟨h217, h218⟩ := and_t h215
  have ⟨h219, h220⟩ := and_t h217
  have ⟨h221, h222⟩ := and_t h219
  have ⟨h223, h224⟩ := and_t h221
  have ⟨h225, h226⟩ := and_t h223
  have ⟨h227, h228⟩ := and_t h225
  have ⟨h229, h230⟩ := and_t h227
  have ⟨h231, h232⟩ := and_t h229
  have h233 := of_decide_eq_true h231
  have h234 := of_decide_eq_true h232
  have h235 := of_decide_eq_true h230
  have h236 := of_decide_eq_true h228
  have h237 := of_decide_eq_true h226
  have h238 := of_decide_eq_true h224
  have h239 := of_decide_eq_true h216
  have h240 := of_decide_eq_true h214
  have h241 := of_decide_eq_true h212
  have h242 := of_decide_eq_true h210
  refine Rg.pg 89 true 95 (.fieldAddr 44 (.tmp 2) 13) (pv_fieldAddr rfl (n := 23) (by kernel_rfl)) ?_
  refine Rg.pg 89 true 96 (.load 3 (.tmp 95)) (v := .int .i64 n.parent) (pv_load_blk 1 rfl rfl (by kernel_rfl) rfl) ?_
  refine Rg.pg 89 true 97 (.fieldAddr 44 (.tmp 3) 13) (pv_fieldAddr rfl (n := 23) (by kernel_rfl)) ?_
  refine Rg.pg 89 true 98 (.load 3 (.tmp 97)) (v := .int .i64 m.parent) (pv_load_blk 0 rfl rfl (by kernel_rfl) rfl) ?_
  refine Rg.pg 89 true 99 (.binOp .eql 3 (.tmp 96) (.tmp 98) 3) (pv_eql rfl rfl) ?_
  refine Rg.p 100 (.pick (.tmp 94) (.tmp 99) (.const (.bool false))) (pv_pick_t rfl rfl) ?_
  exact Rg.em 94 h208 (at_t h208) rfl rfl
 ·
  refine Rg.skips 95 (by kernel_rfl) ?_
  refine Rg.p 100 (.pick (.tmp 94) (.tmp 99) (.const (.bool false))) (pv_pick_f rfl rfl) ?_
  exact Rg.em 94 h208 (at_f h208) rfl rfl
 refine Rg.mv 101 100 rfl ?_
 refine Rg.ga 103 107 101 (decide (n.next = m.next)) rfl (fun h243 => ?_) (fun h243 => ?_) ?_
 ·
  have ⟨h244, h245⟩ := and_t h243
  have ⟨h246, h247⟩ := and_t h244
  have ⟨h248, h249⟩ := and_t h246
  have ⟨h250, h251⟩ := and_t h248
  have ⟨h252, h253⟩ := and_t h250
  have ⟨h254, h255⟩ := and_t h252
  have ⟨h256, h257⟩ := and_t h254
  have ⟨h258, h259⟩ := and_t h256
  have ⟨h260, h261⟩ := and_t h258
  have ⟨h262, h263⟩ := and_t h260
  have ⟨h264, h265⟩ := and_t h262
  have ⟨h266, h267⟩ := and_t h264
  have ⟨h268, h269⟩ := and_t h266
  have h270 := of_decide_eq_true h268
  have h271 := of_decide_eq_true h269
  have h272 := of_decide_eq_true h267
  have h273 := of_decide_eq_true h265
  have h274 := of_decide_eq_true h263
  have h275 := of_decide_eq_true h261
  have h276 := of_decide_eq_true h253
  have h277 := of_decide_eq_true h251
  have h278 := of_decide_eq_true h249
  have h279 := of_decide_eq_true h247
  have h280 := of_decide_eq_true h245
  refine Rg.pg 96 true 102 (.fieldAddr 44 (.tmp 2) 14) (pv_fieldAddr rfl (n := 24) (by kernel_rfl)) ?_
  refine Rg.pg 96 true 103 (.load 34 (.tmp 102)) (v := .int .u64 n.next) (pv_load_blk 1 rfl rfl (by kernel_rfl) rfl) ?_
  refine Rg.pg 96 true 104 (.fieldAddr 44 (.tmp 3) 14) (pv_fieldAddr rfl (n := 24) (by kernel_rfl)) ?_
  refine Rg.pg 96 true 105 (.load 34 (.tmp 104)) (v := .int .u64 m.next) (pv_load_blk 0 rfl rfl (by kernel_rfl) rfl) ?_
  refine Rg.pg 96 true 106 (.binOp .eql 34 (.tmp 103) (.tmp 105) 34) (pv_eql rfl rfl) ?_
  refine Rg.p 107 (.pick (.tmp 101) (.tmp 106) (.const (.bool false))) (pv_pick_t rfl rfl) ?_
  exact Rg.em 101 h243 (at_t h243) rfl rfl
 ·
  refine Rg.skips 102 (by kernel_rfl) ?_
  refine Rg.p 107 (.pick (.tmp 101) (.tmp 106) (.const (.bool false))) (pv_pick_f rfl rfl) ?_
  exact Rg.em 101 h243 (at_f h243) rfl rfl
 refine Rg.as 4 107 rfl ?_
 refine Rg.nx (fun _ _ h => h) [4] rfl ?_
 refine Ev.rt ?_
 refine At.via (Q := Q) hQ ?_
 refine At.ret1 rfl rfl rfl ?_
 exact fun w hw => ⟨(by unfold sameNS; rfl), hw.base_below 2 rfl⟩

end Go.Proofs.Ytfhhggcdmgjbcaa.Sx

namespace Go.Proofs.Ytfhhggcdmgjbcaa.Sx
open Go Go.RowKit Go.Proofs

theorem attrs_eq (ns : List Node) (n : Int) : attrsS ns n = #[.int .u32 (attrKind ns n), .int .u32 (attrMode ns n), .int .u32 (attrLinks ns n), .int .u32 (attrUser ns n), .int .u32 (attrGroup ns n), .int .u64 (attrSize ns n), .int .u64 (attrUsed ns n), .int .u64 (attrID ns n), .int .u32 (attrRs ns n), .int .u32 (attrRn ns n), .int .u32 (attrWs ns n), .int .u32 (attrWn ns n), .int .u32 (attrTs ns n), .int .u32 (attrTn ns n)] := by
  unfold attrsS attrKind attrMode attrLinks attrUser attrGroup attrSize attrUsed attrID attrRs attrRn attrWs attrWn attrTs attrTn
  cases thereS ns n <;> rfl

theorem Attrs_calls2 {p : Option Addr} {cap : Nat} {gen : Int} {ns : List Node} {al : List Loc} {w : World} {n : Int} (hT : NodesAt (Low w) w p ns al) (hW : NodesWf ns) :
  Calls Try.prog 18 #[.agg #[.slice p ns.length cap, .int .u32 gen], .int .i64 n] w (Ret w (.tuple #[.agg #[.int .u32 (attrKind ns n), .int .u32 (attrMode ns n), .int .u32 (attrLinks ns n), .int .u32 (attrUser ns n), .int .u32 (attrGroup ns n), .int .u64 (attrSize ns n), .int .u64 (attrUsed ns n), .int .u64 (attrID ns n), .int .u32 (attrRs ns n), .int .u32 (attrRn ns n), .int .u32 (attrWs ns n), .int .u32 (attrWn ns n), .int .u32 (attrTs ns n), .int .u32 (attrTn ns n)], .bool (thereS ns n)])) := by
  rw [← attrs_eq]
  exact Attrs_calls hT hW

set_option maxHeartbeats 8000000 in
theorem Weak_calls {n : Int} {p : Option Addr} {ns : List Node} {al : List Loc} {cap : Nat} {gen : Int} {w : World} (hT : NodesAt (Low w) w p ns al) (hW : NodesWf ns) {q : Option Addr} {cq : Nat} {gq : Int} {ms : List Node} {bl : List Loc} (hT2 : NodesAt (Low w) w q ms bl) (hW2 : NodesWf ms) :
  Calls Try.prog 26 #[.agg #[.slice p ns.length cap, .int .u32 gen], .agg #[.slice q ms.length cq, .int .u32 gq], .int .i64 n] w (Ret w (.agg #[.bool (thereS ns n), .int .u64 (attrSize ns n), .int .u32 (attrWs ns n), .int .u32 (attrWn ns n), .int .u32 (attrTs ns n), .int .u32 (attrTn ns n), .bool (thereS ms n), .int .u32 (attrKind ms n), .int .u32 (attrMode ms n), .int .u32 (attrLinks ms n), .int .u32 (attrUser ms n), .int .u32 (attrGroup ms n), .int .u64 (attrSize ms n), .int .u64 (attrUsed ms n), .int .u64 (attrID ms n), .int .u32 (attrRs ms n), .int .u32 (attrRn ms n), .int .u32 (attrWs ms n), .int .u32 (attrWn ms n), .int .u32 (attrTs ms n), .int .u32 (attrTn ms n)])) := by
 refine calls_ofQ (args := [_, _, _]) [base w (Low w)] Try.func26 (by kernel_rfl) (by kernel_rfl) (Heap.start w) ?_
 intro Q hQ
 refine Ev.sr 3 ?_
 refine Rg.bx 3 25 (.tmp 0) rfl fun b1 => ?_
 refine Rg.bx 4 25 (.tmp 1) rfl fun b2 => ?_
 refine Rg.al 6 69 (.agg #[.bool false, .int .u64 0, .int .u32 0, .int .u32 0, .int .u32 0, .int .u32 0, .bool false, .int .u32 0, .int .u32 0, .int .u32 0, .int .u32 0, .int .u32 0, .int .u64 0, .int .u64 0, .int .u64 0, .int .u32 0, .int .u32 0, .int .u32 0, .int .u32 0, .int .u32 0, .int .u32 0]) fun b3 => ?_
 refine Rg.nx (fun _ _ h => h) [6,4,3,2] rfl ?_
 refine Ev.sq ?_
 refine Ev.sr 9 ?_
 refine Rg.p 10 (.load 25 (.tmp 3)) (v := .agg #[.slice p ns.length cap, .int .u32 gen]) (pv_load_blk_whole 2 rfl rfl (by kernel_rfl) (by kernel_rfl)) ?_
 refine Rg.mv 11 2 rfl ?_
 refine Rg.cl (some 12) 18 #[.tmp 10, .tmp 11] #[25, 3] (v := .tuple #[.agg #[.int .u32 (attrKind ns n), .int .u32 (attrMode ns n), .int .u32 (attrLinks ns n), .int .u32 (attrUser ns n), .int .u32 (attrGroup ns n), .int .u64 (attrSize ns n), .int .u64 (attrUsed ns n), .int .u64 (attrID ns n), .int .u32 (attrRs ns n), .int .u32 (attrRn ns n), .int .u32 (attrWs ns n), .int .u32 (attrWn ns n), .int .u32 (attrTs ns n), .int .u32 (attrTn ns n)], .bool (thereS ns n)]) rfl (fun w hw => Attrs_calls2 ((hT).keep (hw.at_ 3 rfl) (fun k hk => hw.lt 3 rfl hk)) hW) ?_
 refine Rg.mv 9 12 rfl ?_
 refine Rg.ex 13 9 0 rfl rfl ?_
 refine Rg.ex 14 9 1 rfl rfl ?_
 refine Rg.al 7 38 (.agg #[.int .u32 0, .int .u32 0, .int .u32 0, .int .u32 0, .int .u32 0, .int .u64 0, .int .u64 0, .int .u64 0, .int .u32 0, .int .u32 0, .int .u32 0, .int .u32 0, .int .u32 0, .int .u32 0]) fun b4 => ?_
 refine Rg.st 38 7 (.tmp 13) 0 #[.int .u32 (attrKind ns n), .int .u32 (attrMode ns n), .int .u32 (attrLinks ns n), .int .u32 (attrUser ns n), .int .u32 (attrGroup ns n), .int .u64 (attrSize ns n), .int .u64 (attrUsed ns n), .int .u64 (attrID ns n), .int .u32 (attrRs ns n), .int .u32 (attrRn ns n), .int .u32 (attrWs ns n), .int .u32 (attrWn ns n), .int .u32 (attrTs ns n), .int .u32 (attrTn ns n)] rfl rfl rfl ?_
 refine Rg.as 8 14 rfl ?_
 refine Rg.nx (fun _ _ h => h) [8,7,6,4,2] rfl ?_
 refine Ev.sr 1 ?_
 refine Rg.mv 15 8 rfl ?_
 refine Rg.nx (fun _ _ h => h) [15,7,6,4,2] rfl ?_
 refine Ev.cd 15 rfl (fun h1 => ?_) (fun h1 => ?_)
 ·
  have ⟨h2, h3, h4⟩ := thereS_t h1
  refine Ev.ke [7,6,4,2] rfl ?_
  refine ev_csl (n := 14) (E := [(2, .int .i64 n), (4, .pointer (some ⟨b2, 0, none⟩)), (6, .pointer (some ⟨b3, 0, none⟩)), (7, .pointer (some ⟨b4, 0, none⟩))]) ⟨14, 9, [[0], [0, 1], [2], [2, 3], [4], [4, 5], [6], [6, 7], [0, 1, 6, 7, 8], [0, 1, 6, 7, 8, 9], [0, 1, 2, 3, 6, 7, 8, 9, 10], [0, 1, 2, 3, 6, 7, 8, 9, 10, 11], [0, 1, 2, 3, 4, 5, 6, 7, 8, 9, 10, 11, 12], [0, 1, 2, 3, 4, 5, 6, 7, 8, 9, 10, 11, 12, 13]], [[], [0], [], [2], [], [4], [], [6], [], [1, 8], [], [3, 10], [], [5, 12]], [none, none, none, none, none, some 7, some 9, some 11, some 13], [none, some 7, none, none, none, some 9, some 11, some 13, none], [[], [0], [], [0], [], [0], [], [], [], [], [], [], [], []]⟩ (fun ch j => ([.pointer (some ⟨b4, 0 + 5, none⟩), .int .u64 (attrSize ns n), .pointer (some ⟨b4, 0 + 10, none⟩), .agg #[.int .u32 (attrWs ns n), .int .u32 (attrWn ns n)], .pointer (some ⟨b4, 0 + 12, none⟩), .agg #[.int .u32 (attrTs ns n), .int .u32 (attrTn ns n)], .pointer (some ⟨b3, 0 + 0, none⟩), undef, .pointer (some ⟨b3, 0 + 1, none⟩), undef, .pointer (some ⟨b3, 0 + 2, none⟩), undef, .pointer (some ⟨b3, 0 + 4, none⟩), undef] : List Value).getD j undef) (fun ch t => ([blk b4 (.cells #[.int .u32 (attrKind ns n), .int .u32 (attrMode ns n), .int .u32 (attrLinks ns n), .int .u32 (attrUser ns n), .int .u32 (attrGroup ns n), .int .u64 (attrSize ns n), .int .u64 (attrUsed ns n), .int .u64 (attrID ns n), .int .u32 (attrRs ns n), .int .u32 (attrRn ns n), .int .u32 (attrWs ns n), .int .u32 (attrWn ns n), .int .u32 (attrTs ns n), .int .u32 (attrTn ns n)] 38 (0, 0)), blk b3 (.cells #[.bool false, .int .u64 0, .int .u32 0, .int .u32 0, .int .u32 0, .int .u32 0, .bool false, .int .u32 0, .int .u32 0, .int .u32 0, .int .u32 0, .int .u32 0, .int .u64 0, .int .u64 0, .int .u64 0, .int .u32 0, .int .u32 0, .int .u32 0, .int .u32 0, .int .u32 0, .int .u32 0] 69 (0, 0)), blk b2 (.cells #[.slice q ms.length cq, .int .u32 gq] 25 (0, 0)), blk b1 (.cells #[.slice p ns.length cap, .int .u32 gen] 25 (0, 0)), base w (Low w), blk b3 (.cells #[.bool true, .int .u64 0, .int .u32 0, .int .u32 0, .int .u32 0, .int .u32 0, .bool false, .int .u32 0, .int .u32 0, .int .u32 0, .int .u32 0, .int .u32 0, .int .u64 0, .int .u64 0, .int .u64 0, .int .u32 0, .int .u32 0, .int .u32 0, .int .u32 0, .int .u32 0, .int .u32 0] 69 (0, 0)), blk b3 (.cells #[.bool true, .int .u64 (attrSize ns n), .int .u32 0, .int .u32 0, .int .u32 0, .int .u32 0, .bool false, .int .u32 0, .int .u32 0, .int .u32 0, .int .u32 0, .int .u32 0, .int .u64 0, .int .u64 0, .int .u64 0, .int .u32 0, .int .u32 0, .int .u32 0, .int .u32 0, .int .u32 0, .int .u32 0] 69 (0, 0)), blk b3 (.cells #[.bool true, .int .u64 (attrSize ns n), .int .u32 (attrWs ns n), .int .u32 (attrWn ns n), .int .u32 0, .int .u32 0, .bool false, .int .u32 0, .int .u32 0, .int .u32 0, .int .u32 0, .int .u32 0, .int .u64 0, .int .u64 0, .int .u64 0, .int .u32 0, .int .u32 0, .int .u32 0, .int .u32 0, .int .u32 0, .int .u32 0] 69 (0, 0)), blk b3 (.cells #[.bool true, .int .u64 (attrSize ns n), .int .u32 (attrWs ns n), .int .u32 (attrWn ns n), .int .u32 (attrTs ns n), .int .u32 (attrTn ns n), .bool false, .int .u32 0, .int .u32 0, .int .u32 0, .int .u32 0, .int .u32 0, .int .u64 0, .int .u64 0, .int .u64 0, .int .u32 0, .int .u32 0, .int .u32 0, .int .u32 0, .int .u32 0, .int .u32 0] 69 (0, 0))] : List Item).getD t noItem) (by kernel_rfl) (by kernel_rfl) (fun ch => by kernel_rfl) ?_ ?_
  ·
   refine all_lt_succ (all_lt_succ (all_lt_succ (all_lt_succ (all_lt_succ (all_lt_succ (all_lt_succ (all_lt_succ (all_lt_succ (all_lt_succ (all_lt_succ (all_lt_succ (all_lt_succ (all_lt_succ all_lt_zero ?_) ?_) ?_) ?_) ?_) ?_) ?_) ?_) ?_) ?_) ?_) ?_) ?_) ?_
   ·
    intro ch R F
    refine csl_go [] [] ?_
    refine Rg.fa 16 38 7 5 5 rfl ?_
    exact csl_end {}
   ·
    intro ch R F
    refine csl_go [(16, .pointer (some ⟨b4, 0 + 5, none⟩))] [blk b4 (.cells #[.int .u32 (attrKind ns n), .int .u32 (attrMode ns n), .int .u32 (attrLinks ns n), .int .u32 (attrUser ns n), .int .u32 (attrGroup ns n), .int .u64 (attrSize ns n), .int .u64 (attrUsed ns n), .int .u64 (attrID ns n), .int .u32 (attrRs ns n), .int .u32 (attrRn ns n), .int .u32 (attrWs ns n), .int .u32 (attrWn ns n), .int .u32 (attrTs ns n), .int .u32 (attrTn ns n)] 38 (0, 0))] ?_
    refine Rg.ld 17 34 16 0 rfl rfl rfl ?_
    exact csl_end {}
   ·
    intro ch R F
    refine csl_go [] [] ?_
    refine Rg.fa 18 38 7 9 10 rfl ?_
    exact csl_end {}
   ·
    intro ch R F
    refine csl_go [(18, .pointer (some ⟨b4, 0 + 10, none⟩))] [blk b4 (.cells #[.int .u32 (attrKind ns n), .int .u32 (attrMode ns n), .int .u32 (attrLinks ns n), .int .u32 (attrUser ns n), .int .u32 (attrGroup ns n), .int .u64 (attrSize ns n), .int .u64 (attrUsed ns n), .int .u64 (attrID ns n), .int .u32 (attrRs ns n), .int .u32 (attrRn ns n), .int .u32 (attrWs ns n), .int .u32 (attrWn ns n), .int .u32 (attrTs ns n), .int .u32 (attrTn ns n)] 38 (0, 0))] ?_
    refine Rg.p 19 (.load 36 (.tmp 18)) (v := .agg #[.int .u32 (attrWs ns n), .int .u32 (attrWn ns n)]) (pv_load_blk_agg 0 rfl rfl (vs := #[.int .u32 (attrWs ns n), .int .u32 (attrWn ns n)]) (by kernel_rfl) (by kernel_rfl) (agg_rfl (by kernel_rfl))) ?_
    exact csl_end {}
   ·
    intro ch R F
    refine csl_go [] [] ?_
    refine Rg.fa 20 38 7 10 12 rfl ?_
    exact csl_end {}
   ·
    intro ch R F
    refine csl_go [(20, .pointer (some ⟨b4, 0 + 12, none⟩))] [blk b4 (.cells #[.int .u32 (attrKind ns n), .int .u32 (attrMode ns n), .int .u32 (attrLinks ns n), .int .u32 (attrUser ns n), .int .u32 (attrGroup ns n), .int .u64 (attrSize ns n), .int .u64 (attrUsed ns n), .int .u64 (attrID ns n), .int .u32 (attrRs ns n), .int .u32 (attrRn ns n), .int .u32 (attrWs ns n), .int .u32 (attrWn ns n), .int .u32 (attrTs ns n), .int .u32 (attrTn ns n)] 38 (0, 0))] ?_
    refine Rg.p 21 (.load 36 (.tmp 20)) (v := .agg #[.int .u32 (attrTs ns n), .int .u32 (attrTn ns n)]) (pv_load_blk_agg 0 rfl rfl (vs := #[.int .u32 (attrTs ns n), .int .u32 (attrTn ns n)]) (by kernel_rfl) (by kernel_rfl) (agg_rfl (by kernel_rfl))) ?_
    exact csl_end {}
   ·
    intro ch R F
    refine csl_go [] [] ?_
    refine Rg.fa 22 69 6 0 0 rfl ?_
    exact csl_end {}
   ·
    intro ch R F
    refine csl_go [(22, .pointer (some ⟨b3, 0 + 0, none⟩))] [blk b3 (.cells #[.bool false, .int .u64 0, .int .u32 0, .int .u32 0, .int .u32 0, .int .u32 0, .bool false, .int .u32 0, .int .u32 0, .int .u32 0, .int .u32 0, .int .u32 0, .int .u64 0, .int .u64 0, .int .u64 0, .int .u32 0, .int .u32 0, .int .u32 0, .int .u32 0, .int .u32 0, .int .u32 0] 69 (0, 0))] ?_
    refine Rg.st 4 22 (.const (.bool true)) 0 #[.bool true, .int .u64 0, .int .u32 0, .int .u32 0, .int .u32 0, .int .u32 0, .bool false, .int .u32 0, .int .u32 0, .int .u32 0, .int .u32 0, .int .u32 0, .int .u64 0, .int .u64 0, .int .u64 0, .int .u32 0, .int .u32 0, .int .u32 0, .int .u32 0, .int .u32 0, .int .u32 0] rfl rfl rfl ?_
    exact csl_end {}
   ·
    intro ch R F
    refine csl_go [] [] ?_
    refine Rg.fa 23 69 6 1 1 rfl ?_
    exact csl_end {}
   ·
    intro ch R F
    refine csl_go [(17, .int .u64 (attrSize ns n)), (23, .pointer (some ⟨b3, 0 + 1, none⟩))] [blk b3 (.cells #[.bool true, .int .u64 0, .int .u32 0, .int .u32 0, .int .u32 0, .int .u32 0, .bool false, .int .u32 0, .int .u32 0, .int .u32 0, .int .u32 0, .int .u32 0, .int .u64 0, .int .u64 0, .int .u64 0, .int .u32 0, .int .u32 0, .int .u32 0, .int .u32 0, .int .u32 0, .int .u32 0] 69 (0, 0))] ?_
    refine Rg.st 34 23 (.tmp 17) 0 #[.bool true, .int .u64 (attrSize ns n), .int .u32 0, .int .u32 0, .int .u32 0, .int .u32 0, .bool false, .int .u32 0, .int .u32 0, .int .u32 0, .int .u32 0, .int .u32 0, .int .u64 0, .int .u64 0, .int .u64 0, .int .u32 0, .int .u32 0, .int .u32 0, .int .u32 0, .int .u32 0, .int .u32 0] rfl rfl rfl ?_
    exact csl_end {}
   ·
    intro ch R F
    refine csl_go [] [] ?_
    refine Rg.fa 24 69 6 2 2 rfl ?_
    exact csl_end {}
   ·
    intro ch R F
    refine csl_go [(19, .agg #[.int .u32 (attrWs ns n), .int .u32 (attrWn ns n)]), (24, .pointer (some ⟨b3, 0 + 2, none⟩))] [blk b3 (.cells #[.bool true, .int .u64 (attrSize ns n), .int .u32 0, .int .u32 0, .int .u32 0, .int .u32 0, .bool false, .int .u32 0, .int .u32 0, .int .u32 0, .int .u32 0, .int .u32 0, .int .u64 0, .int .u64 0, .int .u64 0, .int .u32 0, .int .u32 0, .int .u32 0, .int .u32 0, .int .u32 0, .int .u32 0] 69 (0, 0))] ?_
    refine Rg.st 36 24 (.tmp 19) 0 #[.bool true, .int .u64 (attrSize ns n), .int .u32 (attrWs ns n), .int .u32 (attrWn ns n), .int .u32 0, .int .u32 0, .bool false, .int .u32 0, .int .u32 0, .int .u32 0, .int .u32 0, .int .u32 0, .int .u64 0, .int .u64 0, .int .u64 0, .int .u32 0, .int .u32 0, .int .u32 0, .int .u32 0, .int .u32 0, .int .u32 0] rfl rfl rfl ?_
    exact csl_end {}
   ·
    intro ch R F
    refine csl_go [] [] ?_
    refine Rg.fa 25 69 6 3 4 rfl ?_
    exact csl_end {}
   ·
    intro ch R F
    refine csl_go [(21, .agg #[.int .u32 (attrTs ns n), .int .u32 (attrTn ns n)]), (25, .pointer (some ⟨b3, 0 + 4, none⟩))] [blk b3 (.cells #[.bool true, .int .u64 (attrSize ns n), .int .u32 (attrWs ns n), .int .u32 (attrWn ns n), .int .u32 0, .int .u32 0, .bool false, .int .u32 0, .int .u32 0, .int .u32 0, .int .u32 0, .int .u32 0, .int .u64 0, .int .u64 0, .int .u64 0, .int .u32 0, .int .u32 0, .int .u32 0, .int .u32 0, .int .u32 0, .int .u32 0] 69 (0, 0))] ?_
    refine Rg.st 36 25 (.tmp 21) 0 #[.bool true, .int .u64 (attrSize ns n), .int .u32 (attrWs ns n), .int .u32 (attrWn ns n), .int .u32 (attrTs ns n), .int .u32 (attrTn ns n), .bool false, .int .u32 0, .int .u32 0, .int .u32 0, .int .u32 0, .int .u32 0, .int .u64 0, .int .u64 0, .int .u64 0, .int .u32 0, .int .u32 0, .int .u32 0, .int .u32 0, .int .u32 0, .int .u32 0] rfl rfl rfl ?_
    exact csl_end {}
  ·
   intro ch
   refine at_codeS [0, 1, 2, 3, 4] [(2, .int .i64 n), (4, .pointer (some ⟨b2, 0, none⟩)), (6, .pointer (some ⟨b3, 0, none⟩))] [blk b4 (.cells #[.int .u32 (attrKind ns n), .int .u32 (attrMode ns n), .int .u32 (attrLinks ns n), .int .u32 (attrUser ns n), .int .u32 (attrGroup ns n), .int .u64 (attrSize ns n), .int .u64 (attrUsed ns n), .int .u64 (attrID ns n), .int .u32 (attrRs ns n), .int .u32 (attrRn ns n), .int .u32 (attrWs ns n), .int .u32 (attrWn ns n), .int .u32 (attrTs ns n), .int .u32 (attrTn ns n)] 38 (0, 0)), blk b2 (.cells #[.slice q ms.length cq, .int .u32 gq] 25 (0, 0)), blk b1 (.cells #[.slice p ns.length cap, .int .u32 gen] 25 (0, 0)), base w (Low w), blk b3 (.cells #[.bool true, .int .u64 (attrSize ns n), .int .u32 (attrWs ns n), .int .u32 (attrWn ns n), .int .u32 (attrTs ns n), .int .u32 (attrTn ns n), .bool false, .int .u32 0, .int .u32 0, .int .u32 0, .int .u32 0, .int .u32 0, .int .u64 0, .int .u64 0, .int .u64 0, .int .u32 0, .int .u32 0, .int .u32 0, .int .u32 0, .int .u32 0, .int .u32 0] 69 (0, 0))] (.cons (by kernel_rfl) (.cons (by kernel_rfl) (.cons (by kernel_rfl) (.nil _)))) (by kernel_rfl) (by decide) (fun _ _ h => h) ?_
   refine Ev.sr 10 ?_
   refine Rg.p 27 (.load 25 (.tmp 4)) (v := .agg #[.slice q ms.length cq, .int .u32 gq]) (pv_load_blk_whole 1 rfl rfl (by kernel_rfl) (by kernel_rfl)) ?_
   refine Rg.mv 28 2 rfl ?_
   refine Rg.cl (some 29) 18 #[.tmp 27, .tmp 28] #[25, 3] (v := .tuple #[.agg #[.int .u32 (attrKind ms n), .int .u32 (attrMode ms n), .int .u32 (attrLinks ms n), .int .u32 (attrUser ms n), .int .u32 (attrGroup ms n), .int .u64 (attrSize ms n), .int .u64 (attrUsed ms n), .int .u64 (attrID ms n), .int .u32 (attrRs ms n), .int .u32 (attrRn ms n), .int .u32 (attrWs ms n), .int .u32 (attrWn ms n), .int .u32 (attrTs ms n), .int .u32 (attrTn ms n)], .bool (thereS ms n)]) rfl (fun w hw => Attrs_calls2 ((hT2).keep (hw.at_ 3 rfl) (fun k hk => hw.lt 3 rfl hk)) hW2) ?_
   refine Rg.mv 26 29 rfl ?_
   refine Rg.ex 30 26 0 rfl rfl ?_
   refine Rg.ex 31 26 1 rfl rfl ?_
   refine Rg.fa 32 69 6 5 7 rfl ?_
   refine Rg.st 38 32 (.tmp 30) 4 #[.bool true, .int .u64 (attrSize ns n), .int .u32 (attrWs ns n), .int .u32 (attrWn ns n), .int .u32 (attrTs ns n), .int .u32 (attrTn ns n), .bool false, .int .u32 (attrKind ms n), .int .u32 (attrMode ms n), .int .u32 (attrLinks ms n), .int .u32 (attrUser ms n), .int .u32 (attrGroup ms n), .int .u64 (attrSize ms n), .int .u64 (attrUsed ms n), .int .u64 (attrID ms n), .int .u32 (attrRs ms n), .int .u32 (attrRn ms n), .int .u32 (attrWs ms n), .int .u32 (attrWn ms n), .int .u32 (attrTs ms n), .int .u32 (attrTn ms n)] rfl rfl rfl ?_
   refine Rg.fa 33 69 6 4 6 rfl ?_
   refine Rg.st 4 33 (.tmp 31) 4 #[.bool true, .int .u64 (attrSize ns n), .int .u32 (attrWs ns n), .int .u32 (attrWn ns n), .int .u32 (attrTs ns n), .int .u32 (attrTn ns n), .bool (thereS ms n), .int .u32 (attrKind ms n), .int .u32 (attrMode ms n), .int .u32 (attrLinks ms n), .int .u32 (attrUser ms n), .int .u32 (attrGroup ms n), .int .u64 (attrSize ms n), .int .u64 (attrUsed ms n), .int .u64 (attrID ms n), .int .u32 (attrRs ms n), .int .u32 (attrRn ms n), .int .u32 (attrWs ms n), .int .u32 (attrWn ms n), .int .u32 (attrTs ms n), .int .u32 (attrTn ms n)] rfl rfl rfl ?_
   refine Rg.nx (fun _ _ h => h) [6] rfl ?_
   refine Ev.sr 2 ?_
   refine Rg.p 34 (.load 69 (.tmp 6)) (v := .agg #[.bool true, .int .u64 (attrSize ns n), .int .u32 (attrWs ns n), .int .u32 (attrWn ns n), .int .u32 (attrTs ns n), .int .u32 (attrTn ns n), .bool (thereS ms n), .int .u32 (attrKind ms n), .int .u32 (attrMode ms n), .int .u32 (attrLinks ms n), .int .u32 (attrUser ms n), .int .u32 (attrGroup ms n), .int .u64 (attrSize ms n), .int .u64 (attrUsed ms n), .int .u64 (attrID ms n), .int .u32 (attrRs ms n), .int .u32 (attrRn ms n), .int .u32 (attrWs ms n), .int .u32 (attrWn ms n), .int .u32 (attrTs ms n), .int .u32 (attrTn ms n)]) (pv_load_blk_whole 4 rfl rfl (by kernel_rfl) (by kernel_rfl)) ?_
   refine Rg.st 69 6 (.tmp 34) 4 #[.bool true, .int .u64 (attrSize ns n), .int .u32 (attrWs ns n), .int .u32 (attrWn ns n), .int .u32 (attrTs ns n), .int .u32 (attrTn ns n), .bool (thereS ms n), .int .u32 (attrKind ms n), .int .u32 (attrMode ms n), .int .u32 (attrLinks ms n), .int .u32 (attrUser ms n), .int .u32 (attrGroup ms n), .int .u64 (attrSize ms n), .int .u64 (attrUsed ms n), .int .u64 (attrID ms n), .int .u32 (attrRs ms n), .int .u32 (attrRn ms n), .int .u32 (attrWs ms n), .int .u32 (attrWn ms n), .int .u32 (attrTs ms n), .int .u32 (attrTn ms n)] rfl rfl rfl ?_
   refine Rg.nx (fun _ _ h => h) [6] rfl ?_
   refine Ev.rt ?_
   refine At.via (Q := Q) hQ ?_
   refine At.retCell rfl rfl (reads_cellA 4 rfl rfl (by kernel_rfl) (by kernel_rfl)) ?_
   exact fun w hw => ⟨(by rw [show thereS ns n = true from h1]), hw.base_below 3 rfl⟩
 ·
  refine Ev.sk ?_
  refine At.nx (fun _ _ h => h) [6,4,2] rfl ?_
  refine Ev.sr 10 ?_
  refine Rg.p 27 (.load 25 (.tmp 4)) (v := .agg #[.slice q ms.length cq, .int .u32 gq]) (pv_load_blk_whole 2 rfl rfl (by kernel_rfl) (by kernel_rfl)) ?_
  refine Rg.mv 28 2 rfl ?_
  refine Rg.cl (some 29) 18 #[.tmp 27, .tmp 28] #[25, 3] (v := .tuple #[.agg #[.int .u32 (attrKind ms n), .int .u32 (attrMode ms n), .int .u32 (attrLinks ms n), .int .u32 (attrUser ms n), .int .u32 (attrGroup ms n), .int .u64 (attrSize ms n), .int .u64 (attrUsed ms n), .int .u64 (attrID ms n), .int .u32 (attrRs ms n), .int .u32 (attrRn ms n), .int .u32 (attrWs ms n), .int .u32 (attrWn ms n), .int .u32 (attrTs ms n), .int .u32 (attrTn ms n)], .bool (thereS ms n)]) rfl (fun w hw => Attrs_calls2 ((hT2).keep (hw.at_ 4 rfl) (fun k hk => hw.lt 4 rfl hk)) hW2) ?_
  refine Rg.mv 26 29 rfl ?_
  refine Rg.ex 30 26 0 rfl rfl ?_
  refine Rg.ex 31 26 1 rfl rfl ?_
  refine Rg.fa 32 69 6 5 7 rfl ?_
  refine Rg.st 38 32 (.tmp 30) 1 #[.bool false, .int .u64 0, .int .u32 0, .int .u32 0, .int .u32 0, .int .u32 0, .bool false, .int .u32 (attrKind ms n), .int .u32 (attrMode ms n), .int .u32 (attrLinks ms n), .int .u32 (attrUser ms n), .int .u32 (attrGroup ms n), .int .u64 (attrSize ms n), .int .u64 (attrUsed ms n), .int .u64 (attrID ms n), .int .u32 (attrRs ms n), .int .u32 (attrRn ms n), .int .u32 (attrWs ms n), .int .u32 (attrWn ms n), .int .u32 (attrTs ms n), .int .u32 (attrTn ms n)] rfl rfl rfl ?_
  refine Rg.fa 33 69 6 4 6 rfl ?_
  refine Rg.st 4 33 (.tmp 31) 1 #[.bool false, .int .u64 0, .int .u32 0, .int .u32 0, .int .u32 0, .int .u32 0, .bool (thereS ms n), .int .u32 (attrKind ms n), .int .u32 (attrMode ms n), .int .u32 (attrLinks ms n), .int .u32 (attrUser ms n), .int .u32 (attrGroup ms n), .int .u64 (attrSize ms n), .int .u64 (attrUsed ms n), .int .u64 (attrID ms n), .int .u32 (attrRs ms n), .int .u32 (attrRn ms n), .int .u32 (attrWs ms n), .int .u32 (attrWn ms n), .int .u32 (attrTs ms n), .int .u32 (attrTn ms n)] rfl rfl rfl ?_
  refine Rg.nx (fun _ _ h => h) [6] rfl ?_
  refine Ev.sr 2 ?_
  refine Rg.p 34 (.load 69 (.tmp 6)) (v := .agg #[.bool false, .int .u64 0, .int .u32 0, .int .u32 0, .int .u32 0, .int .u32 0, .bool (thereS ms n), .int .u32 (attrKind ms n), .int .u32 (attrMode ms n), .int .u32 (attrLinks ms n), .int .u32 (attrUser ms n), .int .u32 (attrGroup ms n), .int .u64 (attrSize ms n), .int .u64 (attrUsed ms n), .int .u64 (attrID ms n), .int .u32 (attrRs ms n), .int .u32 (attrRn ms n), .int .u32 (attrWs ms n), .int .u32 (attrWn ms n), .int .u32 (attrTs ms n), .int .u32 (attrTn ms n)]) (pv_load_blk_whole 1 rfl rfl (by kernel_rfl) (by kernel_rfl)) ?_
  refine Rg.st 69 6 (.tmp 34) 1 #[.bool false, .int .u64 0, .int .u32 0, .int .u32 0, .int .u32 0, .int .u32 0, .bool (thereS ms n), .int .u32 (attrKind ms n), .int .u32 (attrMode ms n), .int .u32 (attrLinks ms n), .int .u32 (attrUser ms n), .int .u32 (attrGroup ms n), .int .u64 (attrSize ms n), .int .u64 (attrUsed ms n), .int .u64 (attrID ms n), .int .u32 (attrRs ms n), .int .u32 (attrRn ms n), .int .u32 (attrWs ms n), .int .u32 (attrWn ms n), .int .u32 (attrTs ms n), .int .u32 (attrTn ms n)] rfl rfl rfl ?_
  refine Rg.nx (fun _ _ h => h) [6] rfl ?_
  refine Ev.rt ?_
  refine At.via (Q := Q) hQ ?_
  refine At.retCell rfl rfl (reads_cellA 1 rfl rfl (by kernel_rfl) (by kernel_rfl)) ?_
  exact fun w hw => ⟨(by unfold attrSize attrWs attrWn attrTs attrTn; rw [show thereS ns n = false from h1]; rfl), hw.base_below 4 rfl⟩

end Go.Proofs.Ytfhhggcdmgjbcaa.Sx

namespace Go.Proofs.Ytfhhggcdmgjbcaa.Sx
open Go Go.RowKit Go.Proofs

set_option maxHeartbeats 8000000 in
theorem great16_calls {n nows nown bt0 bt1 bt2 bt3 bt4 bt5 bt6 bt7 : Int} {s : SetD} {p : Option Addr} {ns : List Node} {al : List Loc} {cap : Nat} {gen : Int} {w : World} (hT : NodesAt (Low w) w p ns al) (hW : NodesWf ns) {pg : Option Addr} {c : CredD} {cg : Nat} (hG : NumsAt (Low w) w pg c.groups) (hgl : c.groups.length ≤ 16777216) (hs0_ : 0 ≤ s.size) :
  Calls Try.prog 22 #[.agg #[.slice p ns.length cap, .int .u32 gen, .int .i64 n, .int .u32 c.user, .int .u32 c.group, .slice pg c.groups.length cg, .bool s.hm, .int .u32 s.mode, .bool s.hu, .int .u32 s.user, .bool s.hg, .int .u32 s.group, .bool s.hs, .int .u64 s.size, .int .u32 s.rh, .int .u32 s.rs, .int .u32 s.rn, .int .u32 s.wh, .int .u32 s.ws, .int .u32 s.wn, .int .u32 nows, .int .u32 nown, .int .u8 bt0, .int .u8 bt1, .int .u8 bt2, .int .u8 bt3, .int .u8 bt4, .int .u8 bt5, .int .u8 bt6, .int .u8 bt7]] w (RetN w (fun _ : Bool => True) (fun b => .bool b) (fun _ => [])) := by
 refine calls_ofQ (args := [_]) [base w (Low w)] Try.func22 (by kernel_rfl) (by kernel_rfl) (Heap.start w) ?_
 intro Q hQ
 have hlen := hW.len
 refine Ev.sr 2 ?_
 refine Rg.bx 1 63 (.tmp 0) rfl fun b1 => ?_
 refine Rg.ac 2 (.bool false) ?_
 refine Rg.nx (fun _ _ h => h) [2,1] rfl ?_
 refine Ev.sr 19 ?_
 refine Rg.fa 3 63 1 0 0 rfl ?_
 refine Rg.p 4 (.load 25 (.tmp 3)) (v := .agg #[.slice p ns.length cap, .int .u32 gen]) (pv_load_blk_agg 0 rfl rfl (vs := #[.slice p ns.length cap, .int .u32 gen]) (by kernel_rfl) (by kernel_rfl) (agg_rfl (by kernel_rfl))) ?_
 refine Rg.cn (T := Int) (some 5) 27 #[.tmp 4] #[25] (v := fun v2 => .int .i64 v2) (L := fun v2 => []) rfl (fun w hw => treeSize_calls ((hT).keep (hw.at_ 1 rfl) (fun k hk => hw.lt 1 rfl hk)) hW) ?_
 rintro v2 ⟨h0_v2, h1_v2⟩
 dsimp only [putE, List.append, HAppend.hAppend, Append.append]
 refine Rg.p 6 (.binOp .gtr 3 (.tmp 5) (.const (.int .i64 40000)) 3) (pv_gtr rfl rfl) ?_
 refine Rg.mv 7 6 rfl ?_
 refine Rg.go 11 13 7 (decide (3000 < (c.groups.length : Int))) rfl (fun h1 => ?_) (fun h1 => ?_) ?_
 ·
  refine Rg.skips 10 (by kernel_rfl) ?_
  refine Rg.p 13 (.pick (.tmp 7) (.const (.bool true)) (.tmp 12)) (pv_pick_t rfl rfl) ?_
  exact Rg.em 7 h1 (ot_t h1) rfl rfl
 ·
  have h2 := of_decide_eq_false h1
  refine Rg.pg 4 false 8 (.fieldAddr 63 (.tmp 1) 2) (pv_fieldAddr rfl (n := 3) (by kernel_rfl)) ?_
  refine Rg.pg 4 false 9 (.fieldAddr 56 (.tmp 8) 2) (pv_fieldAddr rfl (n := 2) (by kernel_rfl)) ?_
  refine Rg.pg 4 false 10 (.load 54 (.tmp 9)) (v := .slice pg c.groups.length cg) (pv_load_blk 0 rfl rfl (by kernel_rfl) rfl) ?_
  refine Rg.pg 4 false 11 (.call { callee := .builtin .len, args := #[.tmp 10], argTypes := #[54] }) (pv_len_slice rfl (by kernel_rfl)) ?_
  refine Rg.pg 4 false 12 (.binOp .gtr 3 (.tmp 11) (.const (.int .i64 3000)) 3) (pv_gtr rfl rfl) ?_
  refine Rg.p 13 (.pick (.tmp 7) (.const (.bool true)) (.tmp 12)) (pv_pick_f rfl rfl) ?_
  exact Rg.em 7 h1 (ot_f h1) rfl rfl
 refine Rg.mv 14 13 rfl ?_
 refine Rg.go 18 20 14 (decide (300 < (ns.length : Int))) rfl (fun h3 => ?_) (fun h3 => ?_) ?_
 ·
  refine Rg.skips 17 (by kernel_rfl) ?_
  refine Rg.p 20 (.pick (.tmp 14) (.const (.bool true)) (.tmp 19)) (pv_pick_t rfl rfl) ?_
  exact Rg.em 14 h3 (ot_t h3) rfl rfl
 ·
  have ⟨h4, h5⟩ := or_f h3
  have h6 := of_decide_eq_false h4
  have h7 := of_decide_eq_false h5
  refine Rg.pg 11 false 15 (.fieldAddr 63 (.tmp 1) 0) (pv_fieldAddr rfl (n := 0) (by kernel_rfl)) ?_
  refine Rg.pg 11 false 16 (.fieldAddr 25 (.tmp 15) 0) (pv_fieldAddr rfl (n := 0) (by kernel_rfl)) ?_
  refine Rg.pg 11 false 17 (.load 22 (.tmp 16)) (v := .slice p ns.length cap) (pv_load_blk 0 rfl rfl (by kernel_rfl) rfl) ?_
  refine Rg.pg 11 false 18 (.call { callee := .builtin .len, args := #[.tmp 17], argTypes := #[22] }) (pv_len_slice rfl (by kernel_rfl)) ?_
  refine Rg.pg 11 false 19 (.binOp .gtr 3 (.tmp 18) (.const (.int .i64 300)) 3) (pv_gtr rfl rfl) ?_
  refine Rg.p 20 (.pick (.tmp 14) (.const (.bool true)) (.tmp 19)) (pv_pick_f rfl rfl) ?_
  exact Rg.em 14 h3 (ot_f h3) rfl rfl
 refine Rg.as 2 20 rfl ?_
 refine Rg.nx (fun _ _ h => h) [2] rfl ?_
 refine Ev.rt ?_
 refine At.via (Q := Q) hQ ?_
 refine At.ret1 rfl rfl rfl ?_
 exact fun w hw => ⟨_, trivial, rfl, hw.pick [1] (by decide)⟩

end Go.Proofs.Ytfhhggcdmgjbcaa.Sx

namespace Go.Proofs.Ytfhhggcdmgjbcaa.Sx
open Go Go.RowKit Go.Proofs

def withD : Node := { root 5 0 493 with list := [⟨⟨#[102]⟩, 2, 3⟩], next := 4 }
def withF (mode user group : Int) (s : ByteArray) : Node := { Node.zero with kind := 1, gen := 1, mode := mode, user := user, group := group, links := 1, data := bytesS s }
def withN (mode user group : Int) (s : ByteArray) : List Node := [Node.zero, withD, withF mode user group s]
def withL (b : Nat) (p : Option Addr) (c : Nat) : List Loc := [Loc.zero, ⟨none, 0, some ⟨b, 0, none⟩, 1⟩, ⟨p, c, none, 0⟩]
theorem nil_entries {F : Nat → Prop} {w : World} : EntriesAt F w none [] := ⟨fun h => by simp at h, fun _ _ h => by simp at h, fun _ _ _ i h => by simp at h⟩
theorem own_entry {w : World} {b : Nat} {e : Entry} (h : (blk b (.cells #[.string e.name, .int .i64 e.node, .int .u64 e.cookie] 50 (0, 0))).ok w) : EntriesAt (fun k => k = b) w (some ⟨b, 0, none⟩) [e] := by
  refine ⟨fun _ => ⟨_, _, rfl⟩, fun b' o' _ hp => ?_, fun b' o' hp i hi q hq => ?_⟩
  · simp only [Option.some.injEq, Addr.mk.injEq, and_true] at hp; exact hp.1.symm
  · simp only [Option.some.injEq, Addr.mk.injEq, and_true] at hp
    obtain ⟨rfl, rfl⟩ := hp
    have hi' : i = 0 := by simpa using hi
    subst hi'
    have h' : w.heap[b]? = some (.cells #[.string e.name, .int .i64 e.node, .int .u64 e.cookie] 50 (0, 0)) := h
    rw [cell_blk h', show 0 + 0 * 3 + q = q from by omega]
    rfl
theorem Heap.withData {w0 w : World} {S : List Item} {b c : Nat} {p : Option Addr} {mode user group : Int} {s : ByteArray} (hc : (bytesS s).length ≤ c)
    (h : Heap w0 (blk b (.cells #[.string ⟨#[102]⟩, .int .i64 2, .int .u64 3] 50 (0, 0)) :: rowI p (bytesS s) :: S) w) :
    Heap w0 (dataI none (fun k => k = b ∨ p = some ⟨k, 0, none⟩) (withN mode user group s) (withL b p c) :: S) w := by
  refine h.fuse (fun k hk => ?_) fun h1 h2 => ⟨rfl, fun i hi => ?_⟩
  · exact hk.imp (fun h => h) (fun h => h)
  · have hi' : i < 3 := hi
    obtain rfl | rfl | rfl : i = 0 ∨ i = 1 ∨ i = 2 := by omega
    · exact ⟨.inl nil_bytes, .inl nil_entries, Nat.le_refl _, Nat.le_refl _⟩
    · exact ⟨.inl nil_bytes, .inl ((own_entry (e := ⟨⟨#[102]⟩, 2, 3⟩) h1).keep (fun _ _ => rfl) fun _ h => .inl h), Nat.le_refl _, Nat.le_refl _⟩
    · exact ⟨.inl (BytesAt.keep (show BytesAt _ w p (bytesS s) from h2) (fun _ _ => rfl) fun _ h => .inr h), .inl nil_entries, hc, Nat.le_refl _⟩

set_option maxHeartbeats 8000000 in
theorem With_calls {mode user group : Int} {s : ByteArray} {w : World} :
  Calls Try.prog 37 #[.int .u32 mode, .int .u32 user, .int .u32 group, .string s] w (RetN w (fun _ : TL => True) (fun x => .agg #[.slice x.p 3 x.c, .int .u32 2]) (fun x => [own 44 25 x.p 3 x.d (flat (withN mode user group s) x.l), dataI none x.G (withN mode user group s) x.l])) := by
 refine calls_ofQ (args := [_, _, _, _]) [base w (Low w)] Try.func37 (by kernel_rfl) (by kernel_rfl) (Heap.start w) ?_
 intro Q hQ
 refine Ev.sr 1 ?_
 refine Rg.al 8 25 (.agg #[.slice none 0 0, .int .u32 0]) fun b1 => ?_
 refine Rg.nx (fun _ _ h => h) [8,3,2,1,0] rfl ?_
 refine Ev.sr 4 ?_
 refine Rg.p 10 (.build 36 #[(0, .const (.int .u32 5))]) (v := .agg #[.int .u32 5, .int .u32 0]) (pv_build (parts := [(0, .const (.int .u32 5))]) (vs := [.int .u32 5]) (fs := [(0, 1), (1, 1)]) (zv := .agg #[.int .u32 0, .int .u32 0]) (cs := #[.int .u32 5, .int .u32 0]) rfl (by kernel_rfl) (by kernel_rfl) (by kernel_rfl)) ?_
 refine Rg.cn (T := Nat) (some 11) 52 #[.tmp 10] #[36] (v := fun b2 => .agg #[.slice (some ⟨b2, 0, none⟩) 2 2, .int .u32 1]) (L := fun b2 => [blk b2 (.cells (rootC 5 0 493) 44 (0, 0))]) rfl (fun w hw => New_calls (by decide)) ?_
 rintro b2 _
 dsimp only [putE, List.append, HAppend.hAppend, Append.append]
 refine Rg.al 9 25 (.agg #[.slice none 0 0, .int .u32 0]) fun b3 => ?_
 refine Rg.st 25 9 (.tmp 11) 0 #[.slice (some ⟨b2, 0, none⟩) 2 2, .int .u32 1] rfl rfl rfl ?_
 refine Rg.nx (fun _ _ h => h) [9,8,3,2,1,0] rfl ?_
 refine Ev.sq ?_
 refine Ev.sr 4 ?_
 refine Rg.fa 12 25 9 0 0 rfl ?_
 refine Rg.ld 13 22 12 0 rfl rfl rfl ?_
 refine Rg.p 14 (.call { callee := .builtin .len, args := #[.tmp 13], argTypes := #[22] }) (v := .int .i64 (2 : Int)) (pv_len_slice rfl (by kernel_rfl)) ?_
 refine Rg.p 15 (.binOp .neq 3 (.tmp 14) (.const (.int .i64 2)) 3) (pv_neq rfl rfl) ?_
 refine Rg.know 15 (b := !(decide ((2 : Int) = 2))) (c := false) rfl (by decide) ?_
 refine Rg.nx (fun _ _ h => h) [15,9,8,3,2,1,0] rfl ?_
 refine ev_cond_f (t := 15) (by kernel_rfl) rfl ?_
 refine Ev.sk ?_
 refine At.nx (fun _ _ h => h) [9,8,3,2,1,0] rfl ?_
 refine Ev.sr 7 ?_
 refine Rg.fa 17 25 9 0 0 rfl ?_
 refine Rg.ld 18 22 17 0 rfl rfl rfl ?_
 refine Rg.p 19 (.build 50 #[(0, .const (.string ⟨#[102]⟩)), (1, .const (.int .i64 2)), (2, .const (.int .u64 3))]) (v := .agg #[.string ⟨#[102]⟩, .int .i64 2, .int .u64 3]) (pv_build (parts := [(0, .const (.string ⟨#[102]⟩)), (1, .const (.int .i64 2)), (2, .const (.int .u64 3))]) (vs := [.string ⟨#[102]⟩, .int .i64 2, .int .u64 3]) (fs := [(0, 1), (1, 1), (2, 1)]) (zv := .agg #[.string ⟨#[]⟩, .int .i64 0, .int .u64 0]) (cs := #[.string ⟨#[102]⟩, .int .i64 2, .int .u64 3]) rfl (by kernel_rfl) (by kernel_rfl) (by kernel_rfl)) ?_
 refine rg_buildSlice (d := 20) (t := 42) (e := 50) (sz := 3) (len := 1) (parts := [(0, .tmp 19)]) (g := none) (vs := [.agg #[.string ⟨#[102]⟩, .int .i64 2, .int .u64 3]]) (cs := #[.string ⟨#[102]⟩, .int .i64 2, .int .u64 3]) (by kernel_rfl) (by kernel_rfl) rfl (by kernel_rfl) (.agg #[.string ⟨#[]⟩, .int .i64 0, .int .u64 0]) (by kernel_rfl) (by kernel_rfl) (by kernel_rfl) ?_
 intro b4
 refine Rg.p 21 (.indexAddr 22 (.tmp 18) (.const (.int .i64 1))) (v := .pointer (some ⟨b2, 0 + (1 : Int).toNat * 25, none⟩)) (pv_indexAddr rfl rfl (e := 44) (sz := 25) (by kernel_rfl) (by omega) (by omega)) ?_
 refine Rg.fa 22 44 21 12 22 rfl ?_
 refine Rg.st 42 22 (.tmp 20) 2 #[.int .u32 Node.zero.kind, .int .u32 Node.zero.gen, .int .u32 Node.zero.mode, .int .u32 Node.zero.user, .int .u32 Node.zero.group, .int .i64 Node.zero.links, .int .u32 Node.zero.rs, .int .u32 Node.zero.rn, .int .u32 Node.zero.ws, .int .u32 Node.zero.wn, .int .u32 Node.zero.ts, .int .u32 Node.zero.tn, .slice Loc.zero.dA Node.zero.data.length Loc.zero.dCap, .int .u8 Node.zero.verf.a0, .int .u8 Node.zero.verf.a1, .int .u8 Node.zero.verf.a2, .int .u8 Node.zero.verf.a3, .int .u8 Node.zero.verf.a4, .int .u8 Node.zero.verf.a5, .int .u8 Node.zero.verf.a6, .int .u8 Node.zero.verf.a7, .string Node.zero.target, .slice Loc.zero.lA Node.zero.list.length Loc.zero.lCap, .int .i64 Node.zero.parent, .int .u64 Node.zero.next, .int .u32 ((root 5 0 493).kind), .int .u32 ((root 5 0 493).gen), .int .u32 ((root 5 0 493).mode), .int .u32 ((root 5 0 493).user), .int .u32 ((root 5 0 493).group), .int .i64 ((root 5 0 493).links), .int .u32 ((root 5 0 493).rs), .int .u32 ((root 5 0 493).rn), .int .u32 ((root 5 0 493).ws), .int .u32 ((root 5 0 493).wn), .int .u32 ((root 5 0 493).ts), .int .u32 ((root 5 0 493).tn), .slice Loc.zero.dA ((root 5 0 493).data.length) Loc.zero.dCap, .int .u8 ((root 5 0 493).verf.a0), .int .u8 ((root 5 0 493).verf.a1), .int .u8 ((root 5 0 493).verf.a2), .int .u8 ((root 5 0 493).verf.a3), .int .u8 ((root 5 0 493).verf.a4), .int .u8 ((root 5 0 493).verf.a5), .int .u8 ((root 5 0 493).verf.a6), .int .u8 ((root 5 0 493).verf.a7), .string ((root 5 0 493).target), .slice (some ⟨b4, 0, none⟩) 1 1, .int .i64 ((root 5 0 493).parent), .int .u64 ((root 5 0 493).next)] rfl rfl rfl ?_
 refine Rg.nx (fun _ _ h => h) [9,8,3,2,1,0] rfl ?_
 refine Ev.sr 5 ?_
 refine Rg.fa 23 25 9 0 0 rfl ?_
 refine Rg.ld 24 22 23 1 rfl rfl rfl ?_
 refine Rg.p 25 (.indexAddr 22 (.tmp 24) (.const (.int .i64 1))) (v := .pointer (some ⟨b2, 0 + (1 : Int).toNat * 25, none⟩)) (pv_indexAddr rfl rfl (e := 44) (sz := 25) (by kernel_rfl) (by omega) (by omega)) ?_
 refine Rg.fa 26 44 25 14 24 rfl ?_
 refine Rg.st 34 26 (.const (.int .u64 4)) 2 #[.int .u32 Node.zero.kind, .int .u32 Node.zero.gen, .int .u32 Node.zero.mode, .int .u32 Node.zero.user, .int .u32 Node.zero.group, .int .i64 Node.zero.links, .int .u32 Node.zero.rs, .int .u32 Node.zero.rn, .int .u32 Node.zero.ws, .int .u32 Node.zero.wn, .int .u32 Node.zero.ts, .int .u32 Node.zero.tn, .slice Loc.zero.dA Node.zero.data.length Loc.zero.dCap, .int .u8 Node.zero.verf.a0, .int .u8 Node.zero.verf.a1, .int .u8 Node.zero.verf.a2, .int .u8 Node.zero.verf.a3, .int .u8 Node.zero.verf.a4, .int .u8 Node.zero.verf.a5, .int .u8 Node.zero.verf.a6, .int .u8 Node.zero.verf.a7, .string Node.zero.target, .slice Loc.zero.lA Node.zero.list.length Loc.zero.lCap, .int .i64 Node.zero.parent, .int .u64 Node.zero.next, .int .u32 ((root 5 0 493).kind), .int .u32 ((root 5 0 493).gen), .int .u32 ((root 5 0 493).mode), .int .u32 ((root 5 0 493).user), .int .u32 ((root 5 0 493).group), .int .i64 ((root 5 0 493).links), .int .u32 ((root 5 0 493).rs), .int .u32 ((root 5 0 493).rn), .int .u32 ((root 5 0 493).ws), .int .u32 ((root 5 0 493).wn), .int .u32 ((root 5 0 493).ts), .int .u32 ((root 5 0 493).tn), .slice Loc.zero.dA ((root 5 0 493).data.length) Loc.zero.dCap, .int .u8 ((root 5 0 493).verf.a0), .int .u8 ((root 5 0 493).verf.a1), .int .u8 ((root 5 0 493).verf.a2), .int .u8 ((root 5 0 493).verf.a3), .int .u8 ((root 5 0 493).verf.a4), .int .u8 ((root 5 0 493).verf.a5), .int .u8 ((root 5 0 493).verf.a6), .int .u8 ((root 5 0 493).verf.a7), .string ((root 5 0 493).target), .slice (some ⟨b4, 0, none⟩) 1 1, .int .i64 ((root 5 0 493).parent), .int .u64 4] rfl rfl rfl ?_
 refine Rg.nx (fun _ _ h => h) [9,8,3,2,1,0] rfl ?_
 refine Ev.sr 12 ?_
 refine Rg.fa 27 25 9 0 0 rfl ?_
 refine Rg.ld 28 22 27 1 rfl rfl rfl ?_
 refine Rg.mv 29 0 rfl ?_
 refine Rg.mv 30 1 rfl ?_
 refine Rg.mv 31 2 rfl ?_
 refine Rg.mv 32 3 rfl ?_
 refine rg_convert_bytes (d := 33) (s := 9) (t := 29) (e := 5) (x := .tmp 32) (g := none) (b := s) (by kernel_rfl) (by kernel_rfl) rfl (by kernel_rfl) (by kernel_rfl) (by kernel_rfl) ?_
 intro p5 c6 hk_c6
 refine Rg.p 34 (.build 44 #[(0, .const (.int .u32 1)), (1, .const (.int .u32 1)), (2, .tmp 29), (3, .tmp 30), (4, .tmp 31), (5, .const (.int .i64 1)), (9, .tmp 33)]) (v := .agg #[.int .u32 1, .int .u32 1, .int .u32 mode, .int .u32 user, .int .u32 group, .int .i64 1, .int .u32 0, .int .u32 0, .int .u32 0, .int .u32 0, .int .u32 0, .int .u32 0, .slice p5 ((bytesS s).length) c6, .int .u8 0, .int .u8 0, .int .u8 0, .int .u8 0, .int .u8 0, .int .u8 0, .int .u8 0, .int .u8 0, .string ⟨#[]⟩, .slice none 0 0, .int .i64 0, .int .u64 0]) (pv_build (parts := [(0, .const (.int .u32 1)), (1, .const (.int .u32 1)), (2, .tmp 29), (3, .tmp 30), (4, .tmp 31), (5, .const (.int .i64 1)), (9, .tmp 33)]) (vs := [.int .u32 1, .int .u32 1, .int .u32 mode, .int .u32 user, .int .u32 group, .int .i64 1, .slice p5 ((bytesS s).length) c6]) (fs := [(0, 1), (1, 1), (2, 1), (3, 1), (4, 1), (5, 1), (6, 2), (8, 2), (10, 2), (12, 1), (13, 8), (21, 1), (22, 1), (23, 1), (24, 1)]) (zv := .agg #[.int .u32 0, .int .u32 0, .int .u32 0, .int .u32 0, .int .u32 0, .int .i64 0, .int .u32 0, .int .u32 0, .int .u32 0, .int .u32 0, .int .u32 0, .int .u32 0, .slice none 0 0, .int .u8 0, .int .u8 0, .int .u8 0, .int .u8 0, .int .u8 0, .int .u8 0, .int .u8 0, .int .u8 0, .string ⟨#[]⟩, .slice none 0 0, .int .i64 0, .int .u64 0]) (cs := #[.int .u32 1, .int .u32 1, .int .u32 mode, .int .u32 user, .int .u32 group, .int .i64 1, .int .u32 0, .int .u32 0, .int .u32 0, .int .u32 0, .int .u32 0, .int .u32 0, .slice p5 ((bytesS s).length) c6, .int .u8 0, .int .u8 0, .int .u8 0, .int .u8 0, .int .u8 0, .int .u8 0, .int .u8 0, .int .u8 0, .string ⟨#[]⟩, .slice none 0 0, .int .i64 0, .int .u64 0]) rfl (by kernel_rfl) (by kernel_rfl) (by kernel_rfl)) ?_
 refine rg_buildSlice (d := 35) (t := 22) (e := 44) (sz := 25) (len := 1) (parts := [(0, .tmp 34)]) (g := none) (vs := [.agg #[.int .u32 1, .int .u32 1, .int .u32 mode, .int .u32 user, .int .u32 group, .int .i64 1, .int .u32 0, .int .u32 0, .int .u32 0, .int .u32 0, .int .u32 0, .int .u32 0, .slice p5 ((bytesS s).length) c6, .int .u8 0, .int .u8 0, .int .u8 0, .int .u8 0, .int .u8 0, .int .u8 0, .int .u8 0, .int .u8 0, .string ⟨#[]⟩, .slice none 0 0, .int .i64 0, .int .u64 0]]) (cs := #[.int .u32 1, .int .u32 1, .int .u32 mode, .int .u32 user, .int .u32 group, .int .i64 1, .int .u32 0, .int .u32 0, .int .u32 0, .int .u32 0, .int .u32 0, .int .u32 0, .slice p5 ((bytesS s).length) c6, .int .u8 0, .int .u8 0, .int .u8 0, .int .u8 0, .int .u8 0, .int .u8 0, .int .u8 0, .int .u8 0, .string ⟨#[]⟩, .slice none 0 0, .int .i64 0, .int .u64 0]) (by kernel_rfl) (by kernel_rfl) rfl (by kernel_rfl) (.agg #[.int .u32 0, .int .u32 0, .int .u32 0, .int .u32 0, .int .u32 0, .int .i64 0, .int .u32 0, .int .u32 0, .int .u32 0, .int .u32 0, .int .u32 0, .int .u32 0, .slice none 0 0, .int .u8 0, .int .u8 0, .int .u8 0, .int .u8 0, .int .u8 0, .int .u8 0, .int .u8 0, .int .u8 0, .string ⟨#[]⟩, .slice none 0 0, .int .i64 0, .int .u64 0]) (by kernel_rfl) (by kernel_rfl) (by kernel_rfl) ?_
 intro b7
 refine Rg.heap (S' := [own 44 25 (some ⟨b2, 0, none⟩) 2 2 (flat [Node.zero, withD] [Loc.zero, ⟨none, 0, some ⟨b4, 0, none⟩, 1⟩]), blk b7 (.cells #[.int .u32 1, .int .u32 1, .int .u32 mode, .int .u32 user, .int .u32 group, .int .i64 1, .int .u32 0, .int .u32 0, .int .u32 0, .int .u32 0, .int .u32 0, .int .u32 0, .slice p5 ((bytesS s).length) c6, .int .u8 0, .int .u8 0, .int .u8 0, .int .u8 0, .int .u8 0, .int .u8 0, .int .u8 0, .int .u8 0, .string ⟨#[]⟩, .slice none 0 0, .int .i64 0, .int .u64 0] 44 (0, 0)), rowI p5 (bytesS s), blk b4 (.cells #[.string ⟨#[102]⟩, .int .i64 2, .int .u64 3] 50 (0, 0)), blk b3 (.cells #[.slice (some ⟨b2, 0, none⟩) 2 2, .int .u32 1] 25 (0, 0)), blk b1 (.cells #[.slice none 0 0, .int .u32 0] 25 (0, 0)), base w (Low w)]) (fun w hw => (hw.pick [4, 0, 1, 2, 3, 5, 6] (by decide)).blkOwn (sz := 25) (n := 2) rfl) ?_
 refine rg_appendE (d := 36) (t := 22) (e := 44) (sz := 25) (x := .tmp 28) (y := .tmp 35) (ty := 22) (g := none) (m := 1) (ys := [.int .u32 1, .int .u32 1, .int .u32 mode, .int .u32 user, .int .u32 group, .int .i64 1, .int .u32 0, .int .u32 0, .int .u32 0, .int .u32 0, .int .u32 0, .int .u32 0, .slice p5 ((bytesS s).length) c6, .int .u8 0, .int .u8 0, .int .u8 0, .int .u8 0, .int .u8 0, .int .u8 0, .int .u8 0, .int .u8 0, .string ⟨#[]⟩, .slice none 0 0, .int .i64 0, .int .u64 0]) (zv := .agg #[.int .u32 0, .int .u32 0, .int .u32 0, .int .u32 0, .int .u32 0, .int .i64 0, .int .u32 0, .int .u32 0, .int .u32 0, .int .u32 0, .int .u32 0, .int .u32 0, .slice none 0 0, .int .u8 0, .int .u8 0, .int .u8 0, .int .u8 0, .int .u8 0, .int .u8 0, .int .u8 0, .int .u8 0, .string ⟨#[]⟩, .slice none 0 0, .int .i64 0, .int .u64 0]) 0 3 (flat (withN mode user group s) (withL b4 p5 c6)) rfl rfl (by kernel_rfl) (by kernel_rfl) rfl rfl (by kernel_rfl) (by kernel_rfl) (by kernel_rfl) (by kernel_rfl) (by kernel_rfl) rfl rfl rfl rfl (fun w hw => firstCells_blk hw 1 rfl rfl) (by show (2 * (2 + 1) + 192) * bytesT Try.prog 44 ≤ 281474976710656; rw [show bytesT Try.prog 44 = 144 from by kernel_rfl]; omega) (by kernel_rfl) ?_
 intro p8 c9 hc_c9 he_c9
 refine Rg.fa 37 25 9 0 0 rfl ?_
 refine Rg.st 22 37 (.tmp 36) 4 #[.slice p8 3 c9, .int .u32 1] rfl rfl rfl ?_
 refine Rg.nx (fun _ _ h => h) [9,8] rfl ?_
 refine Ev.sr 2 ?_
 refine Rg.fa 38 25 9 1 1 rfl ?_
 refine Rg.st 23 38 (.const (.int .u32 2)) 4 #[.slice p8 3 c9, .int .u32 2] rfl rfl rfl ?_
 refine Rg.nx (fun _ _ h => h) [9,8] rfl ?_
 refine Ev.sr 2 ?_
 refine Rg.p 39 (.load 25 (.tmp 9)) (v := .agg #[.slice p8 3 c9, .int .u32 2]) (pv_load_blk_whole 4 rfl rfl (by kernel_rfl) (by kernel_rfl)) ?_
 refine Rg.st 25 8 (.tmp 39) 5 #[.slice p8 3 c9, .int .u32 2] rfl rfl rfl ?_
 refine Rg.nx (fun _ _ h => h) [8] rfl ?_
 refine Ev.rt ?_
 refine At.via (Q := Q) hQ ?_
 refine At.retCell rfl rfl (reads_cellA 5 rfl rfl (by kernel_rfl) (by kernel_rfl)) ?_
 exact fun w hw => ⟨⟨p8, c9, c9, withL b4 p5 c6, fun k => k = b4 ∨ p5 = some ⟨k, 0, none⟩⟩, trivial, rfl, ((hw.pick [3, 2, 0, 6] (by decide)).withData hk_c6).pick [1, 0, 2] (by decide)⟩

end Go.Proofs.Ytfhhggcdmgjbcaa.Sx
