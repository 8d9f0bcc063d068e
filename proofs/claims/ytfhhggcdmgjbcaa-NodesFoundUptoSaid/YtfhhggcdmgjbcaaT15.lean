/-
  A part of the walk of the seat: laws of a small proof system, and contracts of functions, each proved. Conditions: as each theorem says.
-/
import Derived.Test.YtfhhggcdmgjbcaaProg
import Derived.Test.YtfhhggcdmgjbcaaT14
namespace Go.Proofs.Ytfhhggcdmgjbcaa.Sx
open Go Go.RowKit Go.Proofs

def livTo (ns : List Node) : Nat → List Nat
  | 0 => []
  | k + 1 => cond (!decide ((nd ns k).kind = 0)) (livTo ns k ++ [k]) (livTo ns k)
def liv (ns : List Node) : List Nat := livTo ns ns.length
def livRow (ns : List Node) (i : Nat) : List Value := [.int .i64 (i : Int), .agg (nd ns i).cells]
def livRows (ns : List Node) : List (List Value) := (liv ns).map (livRow ns)
theorem livTo_pre (ns : List Node) (k d : Nat) : ∃ r, livTo ns (k + d) = livTo ns k ++ r := by
  induction d with
  | zero => exact ⟨[], by simp⟩
  | succ d ih =>
    obtain ⟨r, hr⟩ := ih
    show ∃ r, cond (!decide ((nd ns (k + d)).kind = 0)) (livTo ns (k + d) ++ [k + d]) (livTo ns (k + d)) = _
    cases (!decide ((nd ns (k + d)).kind = 0)) with
    | true => exact ⟨r ++ [k + d], by simp [hr]⟩
    | false => exact ⟨r, by simp [hr]⟩
theorem livTo_y {ns : List Node} {k : Nat} (h : (!decide ((nd ns k).kind = 0)) = true) : livTo ns (k + 1) = livTo ns k ++ [k] := by simp only [livTo, h, cond_true]
theorem livTo_n {ns : List Node} {k : Nat} (h : (!decide ((nd ns k).kind = 0)) = false) : livTo ns (k + 1) = livTo ns k := by simp only [livTo, h, cond_false]
theorem liv_at {ns : List Node} {k : Nat} (hk : k < ns.length) (h : (!decide ((nd ns k).kind = 0)) = true) : (livTo ns k).length < (liv ns).length ∧ (liv ns).getD (livTo ns k).length 0 = k := by
  obtain ⟨r, hr⟩ := livTo_pre ns (k + 1) (ns.length - (k + 1))
  rw [show k + 1 + (ns.length - (k + 1)) = ns.length by omega, livTo_y h] at hr
  unfold liv
  rw [hr]
  constructor
  · simp
  · simp [List.getD_eq_getElem?_getD]
theorem liv_le (ns : List Node) {k : Nat} (hk : k ≤ ns.length) : (livTo ns k).length ≤ (liv ns).length := by
  obtain ⟨r, hr⟩ := livTo_pre ns k (ns.length - k)
  rw [show k + (ns.length - k) = ns.length by omega] at hr
  unfold liv; rw [hr]; simp
theorem livRows_length (ns : List Node) : (livRows ns).length = (liv ns).length := by simp [livRows]
theorem livRows_get {ns : List Node} {n : Nat} (h : n < (liv ns).length) : (livRows ns).getD n [] = livRow ns ((liv ns).getD n 0) := by
  simp [livRows, List.getD_eq_getElem?_getD, List.getElem?_map, List.getElem?_eq_getElem h]
theorem liv_mem {ns : List Node} {i : Nat} : ∀ {k : Nat}, i ∈ livTo ns k ↔ i < k ∧ (nd ns i).kind ≠ 0 := by
  intro k
  induction k with
  | zero => simp [livTo]
  | succ k ih =>
    cases h : (!decide ((nd ns k).kind = 0)) with
    | true =>
      rw [livTo_y h, List.mem_append, ih, List.mem_singleton]
      have hk : (nd ns k).kind ≠ 0 := by simpa using h
      constructor
      · rintro (⟨h1, h2⟩ | rfl)
        · exact ⟨by omega, h2⟩
        · exact ⟨by omega, hk⟩
      · rintro ⟨h1, h2⟩
        rcases Nat.lt_succ_iff_lt_or_eq.1 h1 with h3 | h3
        · exact .inl ⟨h3, h2⟩
        · exact .inr h3
    | false =>
      rw [livTo_n h, ih]
      have hk : (nd ns k).kind = 0 := by simpa using h
      constructor
      · rintro ⟨h1, h2⟩; exact ⟨by omega, h2⟩
      · rintro ⟨h1, h2⟩
        refine ⟨?_, h2⟩
        rcases Nat.lt_succ_iff_lt_or_eq.1 h1 with h3 | h3
        · exact h3
        · subst h3; exact absurd hk h2
theorem liv_get {ns : List Node} {n : Nat} (h : n < (liv ns).length) : (liv ns).getD n 0 < ns.length ∧ (nd ns ((liv ns).getD n 0)).kind ≠ 0 := by
  have : (liv ns).getD n 0 ∈ livTo ns ns.length := by
    rw [List.getD_eq_getElem?_getD, List.getElem?_eq_getElem h]; exact List.getElem_mem h
  exact liv_mem.1 this

set_option maxHeartbeats 8000000 in
theorem living_calls {p : Option Addr} {n cap : Nat} {gen : Int} {w : World} :
    Calls Try.prog 58 #[.agg #[.slice p n cap, .int .u32 gen]] w (RetN w (fun _ : Nat => True) (fun b => .func (.func 112) #[] #[.pointer (some ⟨b, 0, none⟩)]) (fun b => [blk b (.cells #[.slice p n cap, .int .u32 gen] 25 (0, 0))])) := by
  refine calls_ofQ (args := [_]) [base w (Low w)] Try.func58 (by kernel_rfl) (by kernel_rfl) (Heap.start w) ?_
  intro Q hQ
  refine ev_seq (by kernel_rfl) ?_
  refine ev_region (n := 2) (by kernel_rfl) ?_
  refine rg_box (d := 1) (t := 25) (x := .tmp 0) (g := none) (by kernel_rfl) (by kernel_rfl) rfl ?_
  intro b1
  refine Rg.pure (d := 2) (op := .assign (.const (.nilFunc))) (g := none) (v := .nilFunc) (by kernel_rfl) (by kernel_rfl) (pv_assign rfl) ?_
  refine Rg.fin rfl ?_
  refine at_codeS [0, 1] [(1, _), (2, _)] [blk b1 (.cells #[.slice p n cap, .int .u32 gen] 25 (0, 0)), base w (Low w)] (.cons rfl (.cons rfl (.nil _))) rfl (by decide) (fun _ _ h => h) ?_
  refine ev_seq (by kernel_rfl) ?_
  refine ev_region (n := 2) (by kernel_rfl) ?_
  refine Rg.pure (d := 3) (op := .makeFunc (.func 112) #[] #[.tmp 1]) (g := none) (v := .func (.func 112) #[] #[.pointer (some ⟨b1, 0, none⟩)]) (by kernel_rfl) (by kernel_rfl) (pv_makeFunc (xs := [.tmp 1]) rfl) ?_
  refine Rg.pure (d := 2) (op := .assign (.tmp 3)) (g := none) (v := .func (.func 112) #[] #[.pointer (some ⟨b1, 0, none⟩)]) (by kernel_rfl) (by kernel_rfl) (pv_assign rfl) ?_
  refine Rg.fin rfl ?_
  refine at_codeS [0, 1] [(2, _)] [blk b1 (.cells #[.slice p n cap, .int .u32 gen] 25 (0, 0)), base w (Low w)] (.cons rfl (.nil _)) rfl (by decide) (fun _ _ h => h) ?_
  refine ev_ret (by kernel_rfl) ?_
  refine At.via (Q := Q) hQ ?_
  refine At.ret1 rfl rfl rfl ?_
  exact fun w hw => ⟨b1, trivial, rfl, hw.pick [0, 1] (by decide)⟩

set_option maxHeartbeats 8000000 in
theorem living1_iter {b cap : Nat} {p : Option Addr} {ns : List Node} {gen : Int} {w0 : World} (hT : NodesAt (Low w0) w0 p ns) (hlen : ns.length ≤ 140737488355328) :
    IterAt Try.prog 112 #[.pointer (some ⟨b, 0, none⟩)] (livRows ns) w0 [blk b (.cells #[.slice p ns.length cap, .int .u32 gen] 25 (0, 0))] [base w0 (Low w0)] := by
  intro T J Jx l t0 w fr h hY
  refine calls_ofQ (args := [.func (.yield l) #[] #[], .pointer (some ⟨b, 0, none⟩)]) [blk b (.cells #[.slice p ns.length cap, .int .u32 gen] 25 (0, 0)), J 0 t0, fr, base w0 (Low w0)] Try.func112 (by kernel_rfl) (by kernel_rfl) h ?_
  intro Q hQ
  refine ev_seq (by kernel_rfl) ?_
  refine ev_region (n := 4) (by kernel_rfl) ?_
  refine Rg.pure (d := 5) (op := .fieldAddr 25 (.tmp 1) 0) (g := none) (v := .pointer (some ⟨b, 0 + 0, none⟩)) (by kernel_rfl) (by kernel_rfl) (pv_fieldAddr rfl (n := 0) (by kernel_rfl)) ?_
  refine Rg.pure (d := 6) (op := .load 22 (.tmp 5)) (g := none) (v := .slice p ns.length cap) (by kernel_rfl) (by kernel_rfl) (pv_load_blk 0 rfl rfl (by kernel_rfl) rfl) ?_
  refine Rg.pure (d := 7) (op := .call { callee := .builtin .len, args := #[.tmp 6], argTypes := #[22] }) (g := none) (v := .int .i64 (ns.length : Int)) (by kernel_rfl) (by kernel_rfl) (pv_len_slice rfl (by kernel_rfl)) ?_
  refine Rg.pure (d := 8) (op := .move (.const (.int .i64 0))) (g := none) (v := .int .i64 0) (by kernel_rfl) (by kernel_rfl) (pv_move rfl) ?_
  refine Rg.fin rfl ?_
  refine at_codeS [0, 1, 2, 3] [(0, _), (6, _), (7, _), (8, _)] [blk b (.cells #[.slice p ns.length cap, .int .u32 gen] 25 (0, 0)), J 0 t0, fr, base w0 (Low w0)] (.cons rfl (.cons rfl (.cons rfl (.cons rfl (.nil _))))) rfl (by decide) (fun _ _ h => h) ?_
  refine ev_block (id := 0) (by kernel_rfl) ?_
  refine ev_loop (T := Nat × T) (fun x_ => (fun k t => [(0, .func (.yield l) #[] #[]), (6, .slice p ns.length cap), (7, .int .i64 (ns.length : Int)), (8, .int .i64 (k : Int))]) x_.1 x_.2) (fun x_ => (fun k t => [blk b (.cells #[.slice p ns.length cap, .int .u32 gen] 25 (0, 0)), J (livTo ns k).length t, fr, base w0 (Low w0)]) x_.1 x_.2) (fun x_ => (fun k t => k ≤ ns.length) x_.1 x_.2) (fun x_ => (fun k t => ns.length - k) x_.1 x_.2) (0, t0) [0, 1, 2, 3] (by kernel_rfl) (by show 0 ≤ ns.length; omega) (.cons (rfl) (.cons (rfl) (.cons (rfl) (.cons (rfl) (.nil _))))) rfl (by decide) ?_
  rintro ⟨k, t⟩ (hk : k ≤ ns.length)
  show Ev _ _ [(0, .func (.yield l) #[] #[]), (6, .slice p ns.length cap), (7, .int .i64 (ns.length : Int)), (8, .int .i64 (k : Int))] [blk b (.cells #[.slice p ns.length cap, .int .u32 gen] 25 (0, 0)), J (livTo ns k).length t, fr, base w0 (Low w0)] _
  refine ev_seq (by kernel_rfl) ?_
  refine ev_region (n := 1) (by kernel_rfl) ?_
  refine Rg.pure (d := 9) (op := .binOp .lss 3 (.tmp 8) (.tmp 7) 3) (g := none) (v := .bool (decide ((k : Int) < (ns.length : Int)))) (by kernel_rfl) (by kernel_rfl) (pv_lss rfl rfl) ?_
  refine Rg.fin rfl ?_
  refine at_codeS [0, 1, 2, 3] [(0, _), (6, _), (7, _), (8, _), (9, _)] [blk b (.cells #[.slice p ns.length cap, .int .u32 gen] 25 (0, 0)), J (livTo ns k).length t, fr, base w0 (Low w0)] (.cons rfl (.cons rfl (.cons rfl (.cons rfl (.cons rfl (.nil _)))))) rfl (by decide) (fun _ _ h => h) ?_
  refine ev_seq (by kernel_rfl) ?_
  refine ev_cond (t := 9) (by kernel_rfl) rfl (fun h1 => ?_) (fun h1 => ?_)
  ·
    have h2 := of_decide_eq_true h1
    refine ev_skip (by kernel_rfl) ?_
    refine at_codeS [0, 1, 2, 3] [(0, _), (6, _), (7, _), (8, _), (9, _)] [blk b (.cells #[.slice p ns.length cap, .int .u32 gen] 25 (0, 0)), J (livTo ns k).length t, fr, base w0 (Low w0)] (.cons rfl (.cons rfl (.cons rfl (.cons rfl (.cons rfl (.nil _)))))) rfl (by decide) (fun _ _ h => h) ?_
    refine ev_seq (by kernel_rfl) ?_
    refine ev_block (id := 1) (by kernel_rfl) ?_
    refine ev_seq (by kernel_rfl) ?_
    refine ev_region (n := 6) (by kernel_rfl) ?_
    refine Rg.pure (d := 10) (op := .move (.tmp 8)) (g := none) (v := .int .i64 (k : Int)) (by kernel_rfl) (by kernel_rfl) (pv_move rfl) ?_
    have ⟨q1, o2, hp3⟩ := hT.rows.adr (by omega)
    refine Rg.pure (d := 11) (op := .indexAddr 22 (.tmp 6) (.tmp 8)) (g := none) (v := .pointer (some ⟨q1, o2 + ((k : Int)).toNat * 25, none⟩)) (by kernel_rfl) (by kernel_rfl) (pv_indexAddr' rfl hp3 rfl (e := 44) (sz := 25) (by kernel_rfl) (by omega) (by omega)) ?_
    refine Rg.pure (d := 12) (op := .load 44 (.tmp 11)) (g := none) (v := .agg ((nd ns k).cells)) (by kernel_rfl) (by kernel_rfl) (pv_load_node (i := ((k : Int)).toNat) (ns := ns) rfl hp3 (by omega) (by kernel_rfl) (by kernel_rfl) (fun w hw => ((hT).keep (hw.at_ 3 rfl) (fun k hk => hw.lt 3 rfl hk)))) ?_
    refine rg_alloc (d := 4) (t := 44) (g := none) (v := .agg #[.int .u32 0, .int .u32 0, .int .u32 0, .int .u32 0, .int .u32 0, .int .i64 0, .int .u32 0, .int .u32 0, .int .u32 0, .int .u32 0, .int .u32 0, .int .u32 0, .slice none 0 0, .int .u8 0, .int .u8 0, .int .u8 0, .int .u8 0, .int .u8 0, .int .u8 0, .int .u8 0, .int .u8 0, .string ⟨#[]⟩, .slice none 0 0, .int .i64 0, .int .u64 0]) (by kernel_rfl) (by kernel_rfl) (by kernel_rfl) ?_
    intro b4
    refine Rg.pure (d := 3) (op := .assign (.tmp 10)) (g := none) (v := .int .i64 (k : Int)) (by kernel_rfl) (by kernel_rfl) (pv_assign rfl) ?_
    refine rg_store (t := 44) (x := .tmp 4) (y := .tmp 12) (g := none) (cs' := (nd ns k).cells) 0 (by kernel_rfl) (by kernel_rfl) rfl rfl rfl (by kernel_rfl) (Nat.le_of_ble_eq_true (by kernel_rfl)) (by kernel_rfl) (by kernel_rfl) ?_
    refine Rg.fin rfl ?_
    refine at_codeS [0, 1, 2, 3, 4] [(0, _), (3, _), (4, _), (6, _), (7, _), (8, _), (9, _), (10, _), (11, _), (12, _)] [blk b4 (.cells ((nd ns k).cells) 44 (0, 0)), blk b (.cells #[.slice p ns.length cap, .int .u32 gen] 25 (0, 0)), J (livTo ns k).length t, fr, base w0 (Low w0)] (.cons rfl (.cons rfl (.cons rfl (.cons rfl (.cons rfl (.cons rfl (.cons rfl (.cons rfl (.cons rfl (.cons rfl (.nil _))))))))))) rfl (by decide) (fun _ _ h => h) ?_
    refine ev_seq (by kernel_rfl) ?_
    refine ev_region (n := 10) (by kernel_rfl) ?_
    refine Rg.pure (d := 13) (op := .fieldAddr 44 (.tmp 4) 0) (g := none) (v := .pointer (some ⟨b4, 0 + 0, none⟩)) (by kernel_rfl) (by kernel_rfl) (pv_fieldAddr rfl (n := 0) (by kernel_rfl)) ?_
    refine Rg.pure (d := 14) (op := .load 33 (.tmp 13)) (g := none) (v := .int .u32 ((nd ns k).kind)) (by kernel_rfl) (by kernel_rfl) (pv_load_blk 0 rfl rfl (by kernel_rfl) rfl) ?_
    refine Rg.pure (d := 15) (op := .binOp .neq 33 (.tmp 14) (.const (.int .u32 0)) 33) (g := none) (v := .bool (!(decide (((nd ns k).kind) = 0)))) (by kernel_rfl) (by kernel_rfl) (pv_neq rfl rfl) ?_
    refine Rg.pure (d := 16) (op := .move (.tmp 15)) (g := none) (v := .bool (!(decide (((nd ns k).kind) = 0)))) (by kernel_rfl) (by kernel_rfl) (pv_move rfl) ?_
    refine Rg.fork 16 (g := !(decide (((nd ns k).kind) = 0))) rfl (fun h3 => ?_) (fun h3 => ?_)
    ·
      have h4 := not_t h3
      have h5 := of_decide_eq_false h4
      refine Rg.pure (d := 17) (op := .move (.tmp 0)) (g := some (3, true)) (v := .func (.yield l) #[] #[]) (by kernel_rfl) (by kernel_rfl) (pv_move rfl) ?_
      refine Rg.pure (d := 18) (op := .move (.tmp 3)) (g := some (3, true)) (v := .int .i64 (k : Int)) (by kernel_rfl) (by kernel_rfl) (pv_move rfl) ?_
      refine Rg.pure (d := 19) (op := .load 44 (.tmp 4)) (g := some (3, true)) (v := .agg ((nd ns k).cells)) (by kernel_rfl) (by kernel_rfl) (pv_load_blk_whole 0 rfl rfl (by kernel_rfl) (by kernel_rfl)) ?_
      refine rg_yield (T := T) (d := 20) (l := l) (fo := .tmp 17) (xs := #[.tmp 18, .tmp 19]) (ts := #[3, 44]) (g := some (3, true)) (S1 := fun t5 => [blk b4 (.cells ((nd ns k).cells) 44 (0, 0)), blk b (.cells #[.slice p ns.length cap, .int .u32 gen] 25 (0, 0)), J ((livTo ns k).length + 1) t5, fr, base w0 (Low w0)]) (S2 := fun t5 => [blk b4 (.cells ((nd ns k).cells) 44 (0, 0)), blk b (.cells #[.slice p ns.length cap, .int .u32 gen] 25 (0, 0)), Jx ((livTo ns k).length + 1) t5, fr, base w0 (Low w0)]) rfl (by kernel_rfl) (by kernel_rfl) rfl rfl (yield_own hY [blk b4 (.cells ((nd ns k).cells) 44 (0, 0)), blk b (.cells #[.slice p ns.length cap, .int .u32 gen] 25 (0, 0))] ((livTo ns k).length) t (by rw [livRows_length]; exact (liv_at (by omega) h3).1) (by rw [livRows_get (liv_at (by omega) h3).1, (liv_at (by omega) h3).2]; rfl)) (fun t5 => ?_) (fun t5 => ?_)
      ·
        refine Rg.pure (d := 21) (op := .unOp .not 4 (.tmp 20)) (g := some (3, true)) (v := .bool false) (by kernel_rfl) (by kernel_rfl) (pv_not (b := true) rfl) ?_
        refine Rg.pure (d := 22) (op := .pick (.tmp 16) (.tmp 21) (.const (.bool false))) (g := none) (v := .bool false) (by kernel_rfl) (by kernel_rfl) (pv_pick_t rfl rfl) ?_
        refine Rg.fin rfl ?_
        refine at_codeS [0, 1, 2, 3, 4] [(0, _), (3, _), (4, _), (6, _), (7, _), (8, _), (9, _), (10, _), (11, _), (12, _), (13, _), (14, _), (15, _), (16, _), (17, _), (18, _), (19, _), (20, _), (21, _), (22, _)] [blk b4 (.cells ((nd ns k).cells) 44 (0, 0)), blk b (.cells #[.slice p ns.length cap, .int .u32 gen] 25 (0, 0)), J ((livTo ns k).length + 1) t5, fr, base w0 (Low w0)] (.cons rfl (.cons rfl (.cons rfl (.cons rfl (.cons rfl (.cons rfl (.cons rfl (.cons rfl (.cons rfl (.cons rfl (.cons rfl (.cons rfl (.cons rfl (.cons rfl (.cons rfl (.cons rfl (.cons rfl (.cons rfl (.cons rfl (.cons rfl (.nil _))))))))))))))))))))) rfl (by decide) (fun _ _ h => h) ?_
        refine ev_cond_f (t := 22) (by kernel_rfl) rfl ?_
        refine ev_skip (by kernel_rfl) ?_
        refine at_codeS [0, 1, 2, 3, 4] [(0, _), (3, _), (4, _), (6, _), (7, _), (8, _), (9, _), (10, _), (11, _), (12, _), (13, _), (14, _), (15, _), (16, _), (17, _), (18, _), (19, _), (20, _), (21, _), (22, _)] [blk b4 (.cells ((nd ns k).cells) 44 (0, 0)), blk b (.cells #[.slice p ns.length cap, .int .u32 gen] 25 (0, 0)), J ((livTo ns k).length + 1) t5, fr, base w0 (Low w0)] (.cons rfl (.cons rfl (.cons rfl (.cons rfl (.cons rfl (.cons rfl (.cons rfl (.cons rfl (.cons rfl (.cons rfl (.cons rfl (.cons rfl (.cons rfl (.cons rfl (.cons rfl (.cons rfl (.cons rfl (.cons rfl (.cons rfl (.cons rfl (.nil _))))))))))))))))))))) rfl (by decide) (fun _ _ h => h) ?_
        refine ev_region (n := 2) (by kernel_rfl) ?_
        refine Rg.pure (d := 23) (op := .binOp .add 3 (.tmp 8) (.const (.int .i64 1)) 3) (g := none) (v := .int .i64 ((k : Int) + 1)) (by kernel_rfl) (by kernel_rfl) (pv_addb rfl rfl (in_i64 (by omega) (by omega))) ?_
        refine Rg.pure (d := 8) (op := .move (.tmp 23)) (g := none) (v := .int .i64 ((k : Int) + 1)) (by kernel_rfl) (by kernel_rfl) (pv_move rfl) ?_
        refine Rg.fin rfl ?_
        refine At.round (t := (k, t)) (fun _ _ h => h) (k + 1, t5) [1, 2, 3, 4] (by show k + 1 ≤ ns.length; omega) (by show ns.length - (k + 1) < ns.length - k; omega) (.cons (rfl) (.cons (rfl) (.cons (rfl) (.cons (rfl) (.nil _))))) (by show _ = [blk b (.cells #[.slice p ns.length cap, .int .u32 gen] 25 (0, 0)), J (livTo ns (k + 1)).length t5, fr, base w0 (Low w0)]; rw [livTo_y h3, List.length_append]; rfl) (by decide)
      ·
        refine Rg.pure (d := 21) (op := .unOp .not 4 (.tmp 20)) (g := some (3, true)) (v := .bool true) (by kernel_rfl) (by kernel_rfl) (pv_not (b := false) rfl) ?_
        refine Rg.pure (d := 22) (op := .pick (.tmp 16) (.tmp 21) (.const (.bool false))) (g := none) (v := .bool true) (by kernel_rfl) (by kernel_rfl) (pv_pick_t rfl rfl) ?_
        refine Rg.fin rfl ?_
        refine at_codeS [0, 1, 2, 3, 4] [(0, _), (3, _), (4, _), (6, _), (7, _), (8, _), (9, _), (10, _), (11, _), (12, _), (13, _), (14, _), (15, _), (16, _), (17, _), (18, _), (19, _), (20, _), (21, _), (22, _)] [blk b4 (.cells ((nd ns k).cells) 44 (0, 0)), blk b (.cells #[.slice p ns.length cap, .int .u32 gen] 25 (0, 0)), Jx ((livTo ns k).length + 1) t5, fr, base w0 (Low w0)] (.cons rfl (.cons rfl (.cons rfl (.cons rfl (.cons rfl (.cons rfl (.cons rfl (.cons rfl (.cons rfl (.cons rfl (.cons rfl (.cons rfl (.cons rfl (.cons rfl (.cons rfl (.cons rfl (.cons rfl (.cons rfl (.cons rfl (.cons rfl (.nil _))))))))))))))))))))) rfl (by decide) (fun _ _ h => h) ?_
        refine ev_cond_t (t := 22) (by kernel_rfl) rfl ?_
        refine ev_ret (by kernel_rfl) ?_
        refine At.via (Q := Q) hQ ?_
        refine At.ret0 ?_ ?_ ?_
        · rfl
        · rfl
        exact fun w hw => ⟨⟨_, rfl⟩, .inr ⟨_, _, (by rw [livRows_length]; have := (liv_at (by omega) h3).1; omega), hw.pick [2, 3, 4] (by decide)⟩⟩
    ·
      have h6 := not_f h3
      have h7 := of_decide_eq_true h6
      refine Rg.skips 9 (by kernel_rfl) ?_
      refine Rg.pure (d := 22) (op := .pick (.tmp 16) (.tmp 21) (.const (.bool false))) (g := none) (v := .bool false) (by kernel_rfl) (by kernel_rfl) (pv_pick_f rfl rfl) ?_
      refine Rg.fin rfl ?_
      refine at_codeS [0, 1, 2, 3, 4] [(0, _), (3, _), (4, _), (6, _), (7, _), (8, _), (9, _), (10, _), (11, _), (12, _), (13, _), (14, _), (15, _), (16, _), (22, _)] [blk b4 (.cells ((nd ns k).cells) 44 (0, 0)), blk b (.cells #[.slice p ns.length cap, .int .u32 gen] 25 (0, 0)), J (livTo ns k).length t, fr, base w0 (Low w0)] (.cons rfl (.cons rfl (.cons rfl (.cons rfl (.cons rfl (.cons rfl (.cons rfl (.cons rfl (.cons rfl (.cons rfl (.cons rfl (.cons rfl (.cons rfl (.cons rfl (.cons rfl (.nil _)))))))))))))))) rfl (by decide) (fun _ _ h => h) ?_
      refine ev_cond_f (t := 22) (by kernel_rfl) rfl ?_
      refine ev_skip (by kernel_rfl) ?_
      refine at_codeS [0, 1, 2, 3, 4] [(0, _), (3, _), (4, _), (6, _), (7, _), (8, _), (9, _), (10, _), (11, _), (12, _), (13, _), (14, _), (15, _), (16, _), (22, _)] [blk b4 (.cells ((nd ns k).cells) 44 (0, 0)), blk b (.cells #[.slice p ns.length cap, .int .u32 gen] 25 (0, 0)), J (livTo ns k).length t, fr, base w0 (Low w0)] (.cons rfl (.cons rfl (.cons rfl (.cons rfl (.cons rfl (.cons rfl (.cons rfl (.cons rfl (.cons rfl (.cons rfl (.cons rfl (.cons rfl (.cons rfl (.cons rfl (.cons rfl (.nil _)))))))))))))))) rfl (by decide) (fun _ _ h => h) ?_
      refine ev_region (n := 2) (by kernel_rfl) ?_
      refine Rg.pure (d := 23) (op := .binOp .add 3 (.tmp 8) (.const (.int .i64 1)) 3) (g := none) (v := .int .i64 ((k : Int) + 1)) (by kernel_rfl) (by kernel_rfl) (pv_addb rfl rfl (in_i64 (by omega) (by omega))) ?_
      refine Rg.pure (d := 8) (op := .move (.tmp 23)) (g := none) (v := .int .i64 ((k : Int) + 1)) (by kernel_rfl) (by kernel_rfl) (pv_move rfl) ?_
      refine Rg.fin rfl ?_
      refine At.round (t := (k, t)) (fun _ _ h => h) (k + 1, t) [1, 2, 3, 4] (by show k + 1 ≤ ns.length; omega) (by show ns.length - (k + 1) < ns.length - k; omega) (.cons (rfl) (.cons (rfl) (.cons (rfl) (.cons (rfl) (.nil _))))) (by show _ = [blk b (.cells #[.slice p ns.length cap, .int .u32 gen] 25 (0, 0)), J (livTo ns (k + 1)).length t, fr, base w0 (Low w0)]; rw [livTo_n h3]; rfl) (by decide)
  ·
    have h8 := of_decide_eq_false h1
    refine ev_exit (id := 0) (by kernel_rfl) ?_
    refine At.via (Q := Q) hQ ?_
    refine At.norm0 ?_ ?_ ?_
    · rfl
    · rfl
    exact fun w hw => ⟨⟨_, rfl⟩, .inl ⟨t, (by have e : k = ns.length := (by omega); subst e; rw [livRows_length]; exact hw.pick [1, 2, 3] (by decide))⟩⟩

end Go.Proofs.Ytfhhggcdmgjbcaa.Sx
