/-
  A part of the walk of the seat: laws of a small proof system, and contracts of functions, each proved. Conditions: as each theorem says.
-/
import Derived.Test.YtfhhggcdmgjbcaaProg
import Derived.Test.YtfhhggcdmgjbcaaT26
namespace Go.Proofs.Ytfhhggcdmgjbcaa.Sx
open Go Go.RowKit Go.Proofs

def deed4 (s : SetD) (nows nown : Int) (n : Node) : Node := cond s.hs ({ ({ n with data := resize n.data s.size.toNat } : Node) with ws := nows, wn := nown } : Node) n
def deed5 (s : SetD) (nows nown : Int) (n : Node) : Node := cond (decide (s.rh = 2)) ({ n with rs := s.rs, rn := s.rn } : Node) (cond (decide (s.rh = 1)) ({ n with rs := nows, rn := nown } : Node) n)
def deed6 (s : SetD) (nows nown : Int) (n : Node) : Node := cond (decide (s.wh = 2)) ({ n with ws := s.ws, wn := s.wn } : Node) (cond (decide (s.wh = 1)) ({ n with ws := nows, wn := nown } : Node) n)

theorem firstCells_take {F : Nat → Prop} {w : World} {P : Program} {p : Option Addr} {xs : List Int} {L : Nat} (h : BytesAt F w p xs) {n' c' : Nat} :
    (Builtin.firstCells 1 (Nat.min xs.length L) (.slice p n' c')).run P w = .ok (bv (xs.take L)).toArray w := by
  have h2 := BytesAt.take h (l := Nat.min xs.length L) (Nat.min_le_left _ _)
  have e : xs.take (Nat.min xs.length L) = xs.take L := by
    rcases Nat.le_total xs.length L with h3 | h3
    · rw [show Nat.min xs.length L = xs.length from Nat.min_eq_left h3, List.take_length, List.take_of_length_le h3]
    · rw [show Nat.min xs.length L = L from Nat.min_eq_right h3]
  rw [e] at h2
  have h3 := firstCells_bytes (P := P) (n' := n') (c' := c') h2
  have hl : (xs.take L).length = Nat.min xs.length L := by rw [List.length_take]; exact Nat.min_comm _ _
  rwa [hl] at h3

set_option maxHeartbeats 8000000 in
theorem deed4_calls {s : SetD} {b8 b18 bl n cc k : Nat} {ns : List Node} {l : List Loc} {m : Node} {G : Nat → Prop} {nows nown bt0 bt1 bt2 bt3 bt4 bt5 bt6 bt7 : Int} {b9 : Nat} {a : Loc} (hk_ : k < ns.length) (hl_ : l.length = ns.length) (hs0 : 0 ≤ s.size) (hs1 : s.size ≤ 65536 ∨ s.hs = false) {w0 w : World} {fr : Item} (h : Heap w0 [blk b8 (.cells (s.cells) 59 (0, 0)), blk b18 (.cells #[.pointer (some ⟨bl, 0 + k * 25, none⟩)] 147 (0, 0)), blk b9 (.cells #[.int .u32 nows, .int .u32 nown, .int .u8 bt0, .int .u8 bt1, .int .u8 bt2, .int .u8 bt3, .int .u8 bt4, .int .u8 bt5, .int .u8 bt6, .int .u8 bt7] 61 (0, 0)), own 44 25 (some ⟨bl, 0, none⟩) n cc (flat (ns.set k m) (l.set k a)), dataI none G (ns.set k m) (l.set k a), fr] w) :
  Calls Try.prog 75 #[.pointer (some ⟨b8, 0, none⟩), .pointer (some ⟨b18, 0, none⟩), .pointer (some ⟨b9, 0, none⟩)] w (RetM w0 (fun _ : Loc × (Nat → Prop) => True) (fun _ => .bool s.hs) (fun t => [blk b8 (.cells (s.cells) 59 (0, 0)), blk b18 (.cells #[.pointer (some ⟨bl, 0 + k * 25, none⟩)] 147 (0, 0)), blk b9 (.cells #[.int .u32 nows, .int .u32 nown, .int .u8 bt0, .int .u8 bt1, .int .u8 bt2, .int .u8 bt3, .int .u8 bt4, .int .u8 bt5, .int .u8 bt6, .int .u8 bt7] 61 (0, 0)), own 44 25 (some ⟨bl, 0, none⟩) n cc (flat (ns.set k (deed4 s nows nown m)) (l.set k t.1)), dataI none t.2 (ns.set k (deed4 s nows nown m)) (l.set k t.1)]) fr) := by
 refine calls_ofQ (args := [_, _, _]) [blk b8 (.cells (s.cells) 59 (0, 0)), blk b18 (.cells #[.pointer (some ⟨bl, 0 + k * 25, none⟩)] 147 (0, 0)), blk b9 (.cells #[.int .u32 nows, .int .u32 nown, .int .u8 bt0, .int .u8 bt1, .int .u8 bt2, .int .u8 bt3, .int .u8 bt4, .int .u8 bt5, .int .u8 bt6, .int .u8 bt7] 61 (0, 0)), own 44 25 (some ⟨bl, 0, none⟩) n cc (flat (ns.set k m) (l.set k a)), dataI none G (ns.set k m) (l.set k a), fr] Try.func75 (by kernel_rfl) (by kernel_rfl) h ?_
 intro Q hQ
 refine Ev.sr 1 ?_
 refine Rg.ac 3 (.bool false) ?_
 refine Rg.nx (fun _ _ h => h) [3,2,1,0] rfl ?_
 refine Ev.sq ?_
 refine Ev.sr 2 ?_
 refine Rg.fa 5 59 0 6 6 rfl ?_
 refine Rg.ld 6 4 5 0 rfl rfl rfl ?_
 refine Rg.nx (fun _ _ h => h) [6,3,2,1,0] rfl ?_
 refine Ev.cd 6 rfl (fun h1 => ?_) (fun h1 => ?_)
 ·
  have hs2_ : s.size ≤ 65536 := by rcases hs1 with h_ | h_; exact h_; rw [h1] at h_; cases h_
  refine Ev.sr 5 ?_
  refine Rg.fa 7 59 0 7 7 rfl ?_
  refine Rg.ld 8 34 7 0 rfl rfl rfl ?_
  refine Rg.p 9 (.convert 34 3 (.tmp 8)) (pv_convertb (q' := .i64) rfl (by kernel_rfl) (by kernel_rfl) (in_i64 (by omega) (by omega))) ?_
  refine rg_makeSlice (d := 10) (t := 29) (e := 5) (x := .tmp 9) (y := .tmp 9) (g := none) (by kernel_rfl) (by kernel_rfl) rfl rfl (by kernel_rfl) (zv := .int .u8 0) (by kernel_rfl) (by kernel_rfl) rfl (by omega) (by omega) (by show bytesT Try.prog 5 ≤ 65536; rw [show bytesT Try.prog 5 = 1 from by kernel_rfl]; omega) ?_
  intro b1
  refine Rg.as 4 10 rfl ?_
  refine Rg.nx (fun _ _ h => h) [4,3,2,1,0] rfl ?_
  refine Ev.sr 6 ?_
  refine Rg.mv 11 4 rfl ?_
  refine Rg.ld 12 147 1 2 rfl rfl rfl ?_
  refine Rg.p 13 (.nilCheck (.tmp 12)) (pv_nilCheck rfl) ?_
  refine Rg.fa 14 44 13 9 12 rfl ?_
  refine Rg.p 15 (.load 29 (.tmp 14)) (v := .slice a.dA m.data.length a.dCap) (pv_load_kfield (ns := ns) (l := l) (m := m) (a := a) (kk := k) (f := 12) 4 rfl rfl hk_ hl_ (by kernel_rfl) rfl) ?_
  refine rg_copyMin (d := 16) (t := 29) (ty := 29) (e := 5) (sz := 1) (x := .tmp 11) (y := .tmp 15) (g := none) (mm := m.data.length) (m := Nat.min m.data.length s.size.toNat) (ys := bv (m.data.take s.size.toNat)) (zs := bv (resize m.data s.size.toNat)) 0 (by kernel_rfl) (by kernel_rfl) rfl rfl (by kernel_rfl) rfl rfl rfl (by rw [bv_length, List.length_take, Nat.mul_one]; exact Nat.min_comm _ _) (bv_one _) (fun w hw => (firstCells_take (data_k (hw.at_ 5 rfl) hk_ hl_).data.some_)) (putL_resize _ _) ?_
  refine Rg.nx (fun _ _ h => h) [4,3,2,1,0] rfl ?_
  refine Ev.rg 5 ?_
  refine Rg.ld 17 147 1 2 rfl rfl rfl ?_
  refine Rg.mv 18 4 rfl ?_
  refine Rg.p 19 (.nilCheck (.tmp 17)) (pv_nilCheck rfl) ?_
  refine Rg.fa 20 44 19 9 12 rfl ?_
  refine rg_store_ownV (t := 29) (x := .tmp 20) (y := .tmp 18) (g := none) (xs' := flat (ns.set k ({ m with data := resize m.data s.size.toNat } : Node)) (l.set k ({ a with dA := some ⟨b1, 0, none⟩, dCap := (s.size).toNat } : Loc))) 4 (by kernel_rfl) (by kernel_rfl) rfl rfl rfl (by kernel_rfl) (by kernel_rfl) (by rw [flat_length, List.length_set]; show 0 + k * 25 + 12 + 1 ≤ _; omega) (by rw [show 0 + k * 25 + 12 = k * 25 + 12 by omega]; exact flat_putK hk_ hl_ (Nat.le_of_ble_eq_true (by kernel_rfl)) (by have e_ := resize_length m.data s.size.toNat; unfold Node.cells; simp only [e_]; rfl)) ?_
  refine Rg.nx (fun _ _ h => h) [3,2,1,0] rfl ?_
  refine Ev.sq ?_
  refine Ev.ke [2,1,0] rfl ?_
  refine ev_csl (n := 9) (E := [(0, .pointer (some ⟨b8, 0, none⟩)), (1, .pointer (some ⟨b18, 0, none⟩)), (2, .pointer (some ⟨b9, 0, none⟩))]) ⟨9, 8, [[0], [0, 1], [2], [2, 3], [2, 3, 4], [5], [5, 6], [0, 1, 2, 3, 4, 5, 6, 7], [0, 1, 2, 3, 4, 5, 6, 7, 8]], [[], [0], [], [2], [3], [], [5], [1, 4, 6], [7]], [none, none, none, none, none, none, none, some 7], [none, none, none, none, some 7, none, none, none], [[], [1], [2], [], [], [], [3], [], []]⟩ (fun ch j => ([.pointer (some ⟨b8, 0 + 6, none⟩), .bool s.hs, .pointer (some ⟨bl, 0 + k * 25, none⟩), .pointer (some ⟨bl, 0 + k * 25, none⟩), .pointer (some ⟨bl, 0 + k * 25 + 8, none⟩), .pointer (some ⟨b9, 0 + 0, none⟩), .agg #[.int .u32 nows, .int .u32 nown], .bool s.hs, .bool s.hs] : List Value).getD j undef) (fun ch t => ([own 5 1 (some ⟨b1, 0, none⟩) ((s.size).toNat) ((s.size).toNat) (bv (resize m.data s.size.toNat)), blk b8 (.cells (s.cells) 59 (0, 0)), blk b18 (.cells #[.pointer (some ⟨bl, 0 + k * 25, none⟩)] 147 (0, 0)), blk b9 (.cells #[.int .u32 nows, .int .u32 nown, .int .u8 bt0, .int .u8 bt1, .int .u8 bt2, .int .u8 bt3, .int .u8 bt4, .int .u8 bt5, .int .u8 bt6, .int .u8 bt7] 61 (0, 0)), own 44 25 (some ⟨bl, 0, none⟩) n cc (flat (ns.set k ({ m with data := resize m.data s.size.toNat } : Node)) (l.set k ({ a with dA := some ⟨b1, 0, none⟩, dCap := (s.size).toNat } : Loc))), dataI none G (ns.set k m) (l.set k a), fr, own 44 25 (some ⟨bl, 0, none⟩) n cc (flat (ns.set k (cond s.hs ({ ({ m with data := resize m.data s.size.toNat } : Node) with ws := nows, wn := nown } : Node) ({ m with data := resize m.data s.size.toNat } : Node))) (l.set k ({ a with dA := some ⟨b1, 0, none⟩, dCap := (s.size).toNat } : Loc)))] : List Item).getD t noItem) (by kernel_rfl) (by kernel_rfl) (fun ch => by kernel_rfl) ?_ ?_
  ·
   refine all_lt_succ (all_lt_succ (all_lt_succ (all_lt_succ (all_lt_succ (all_lt_succ (all_lt_succ (all_lt_succ (all_lt_succ all_lt_zero ?_) ?_) ?_) ?_) ?_) ?_) ?_) ?_) ?_
   ·
    intro ch R F
    refine csl_go [] [] ?_
    refine Rg.fa 21 59 0 6 6 rfl ?_
    exact csl_end {}
   ·
    intro ch R F
    refine csl_go [(21, .pointer (some ⟨b8, 0 + 6, none⟩))] [blk b8 (.cells (s.cells) 59 (0, 0))] ?_
    refine Rg.ld 22 4 21 0 rfl rfl rfl ?_
    exact csl_end {}
   ·
    intro ch R F
    refine csl_go [] [blk b18 (.cells #[.pointer (some ⟨bl, 0 + k * 25, none⟩)] 147 (0, 0))] ?_
    refine Rg.ld 23 147 1 0 rfl rfl rfl ?_
    exact csl_end {}
   ·
    intro ch R F
    refine csl_go [(23, .pointer (some ⟨bl, 0 + k * 25, none⟩))] [] ?_
    refine Rg.p 24 (.nilCheck (.tmp 23)) (pv_nilCheck rfl) ?_
    exact csl_end {}
   ·
    intro ch R F
    refine csl_go [(24, .pointer (some ⟨bl, 0 + k * 25, none⟩))] [] ?_
    refine Rg.fa 25 44 24 7 8 rfl ?_
    exact csl_end {}
   ·
    intro ch R F
    refine csl_go [] [] ?_
    refine Rg.fa 26 61 2 0 0 rfl ?_
    exact csl_end {}
   ·
    intro ch R F
    refine csl_go [(26, .pointer (some ⟨b9, 0 + 0, none⟩))] [blk b9 (.cells #[.int .u32 nows, .int .u32 nown, .int .u8 bt0, .int .u8 bt1, .int .u8 bt2, .int .u8 bt3, .int .u8 bt4, .int .u8 bt5, .int .u8 bt6, .int .u8 bt7] 61 (0, 0))] ?_
    refine Rg.p 27 (.load 36 (.tmp 26)) (v := .agg #[.int .u32 nows, .int .u32 nown]) (pv_load_blk_agg 0 rfl rfl (vs := #[.int .u32 nows, .int .u32 nown]) (by kernel_rfl) (by kernel_rfl) (agg_rfl (by kernel_rfl))) ?_
    exact csl_end {}
   ·
    intro ch R F
    refine csl_go [(22, .bool s.hs), (25, .pointer (some ⟨bl, 0 + k * 25 + 8, none⟩)), (27, .agg #[.int .u32 nows, .int .u32 nown])] [own 44 25 (some ⟨bl, 0, none⟩) n cc (flat (ns.set k ({ m with data := resize m.data s.size.toNat } : Node)) (l.set k ({ a with dA := some ⟨b1, 0, none⟩, dCap := (s.size).toNat } : Loc)))] ?_
    refine rg_callM (T := Unit) (d := some 28) (f := 76) (fo := .func 76) (fs := #[]) (caps := #[]) (xs := #[.tmp 22, .tmp 25, .tmp 27]) (ts := #[4, 151, 36]) (g := none) (v := fun _ => .bool s.hs) (L := fun _ => [own 44 25 (some ⟨bl, 0, none⟩) n cc (flat (ns.set k (cond s.hs ({ ({ m with data := resize m.data s.size.toNat } : Node) with ws := nows, wn := nown } : Node) ({ m with data := resize m.data s.size.toNat } : Node))) (l.set k ({ a with dA := some ⟨b1, 0, none⟩, dCap := (s.size).toNat } : Loc)))]) [own 44 25 (some ⟨bl, 0, none⟩) n cc (flat (ns.set k ({ m with data := resize m.data s.size.toNat } : Node)) (l.set k ({ a with dA := some ⟨b1, 0, none⟩, dCap := (s.size).toNat } : Loc)))] ([] ++ F) (by kernel_rfl) (by kernel_rfl) rfl (by kernel_rfl) rfl (fun w hw => hw) (fun w fr_ hw => setT_calls (told := s.hs) (n' := ({ ({ m with data := resize m.data s.size.toNat } : Node) with ws := nows, wn := nown } : Node)) (m := ({ m with data := resize m.data s.size.toNat } : Node)) hk_ hl_ (by decide) (by kernel_rfl) hw) ?_
    rintro _ _
    dsimp only [putE, List.append, HAppend.hAppend, Append.append]
    exact csl_end {}
   ·
    intro ch R F
    refine csl_go [(28, .bool s.hs)] [] ?_
    refine Rg.as 3 28 rfl ?_
    exact csl_end {}
  ·
   intro ch
   refine at_codeS [0, 1, 2, 3, 4, 5, 6] [(3, .bool s.hs)] [own 5 1 (some ⟨b1, 0, none⟩) ((s.size).toNat) ((s.size).toNat) (bv (resize m.data s.size.toNat)), blk b8 (.cells (s.cells) 59 (0, 0)), blk b18 (.cells #[.pointer (some ⟨bl, 0 + k * 25, none⟩)] 147 (0, 0)), blk b9 (.cells #[.int .u32 nows, .int .u32 nown, .int .u8 bt0, .int .u8 bt1, .int .u8 bt2, .int .u8 bt3, .int .u8 bt4, .int .u8 bt5, .int .u8 bt6, .int .u8 bt7] 61 (0, 0)), dataI none G (ns.set k m) (l.set k a), fr, own 44 25 (some ⟨bl, 0, none⟩) n cc (flat (ns.set k (cond s.hs ({ ({ m with data := resize m.data s.size.toNat } : Node) with ws := nows, wn := nown } : Node) ({ m with data := resize m.data s.size.toNat } : Node))) (l.set k ({ a with dA := some ⟨b1, 0, none⟩, dCap := (s.size).toNat } : Loc)))] (.cons (by kernel_rfl) (.nil _)) (by kernel_rfl) (by decide) (fun _ _ h => h) ?_
   refine Ev.rt ?_
   refine At.via (Q := Q) hQ ?_
   refine At.ret1 rfl rfl rfl ?_
   exact fun w hw => ⟨((⟨some ⟨b1, 0, none⟩, s.size.toNat, a.lA, a.lCap⟩ : Loc), (fun q => G q ∨ (some ⟨b1, 0, none⟩ : Option Addr) = some ⟨q, 0, none⟩ : Nat → Prop)), trivial, rfl, by
     have e_ : deed4 s nows nown m = ({ ({ m with data := resize m.data s.size.toNat } : Node) with ws := nows, wn := nown } : Node) := by unfold deed4; rw [h1]; rfl
     rw [h1] at hw
     have h_ := (hw.pick [0, 4, 1, 2, 3, 6, 5] (by decide)).dataNewK (n' := ({ ({ m with data := resize m.data s.size.toNat } : Node) with ws := nows, wn := nown } : Node)) (c' := s.size.toNat) hk_ hl_ rfl rfl (by rw [resize_length]; exact Nat.le_refl _)
     rw [e_]
     exact h_.pick [1, 2, 3, 4, 0, 5] (by decide)⟩
 ·
  refine Ev.sk ?_
  refine At.nx (fun _ _ h => h) [3,2,1,0] rfl ?_
  refine Ev.sq ?_
  refine Ev.ke [2,1,0] rfl ?_
  refine ev_csl (n := 9) (E := [(0, .pointer (some ⟨b8, 0, none⟩)), (1, .pointer (some ⟨b18, 0, none⟩)), (2, .pointer (some ⟨b9, 0, none⟩))]) ⟨9, 7, [[0], [0, 1], [2], [2, 3], [2, 3, 4], [5], [5, 6], [0, 1, 2, 3, 4, 5, 6, 7], [0, 1, 2, 3, 4, 5, 6, 7, 8]], [[], [0], [], [2], [3], [], [5], [1, 4, 6], [7]], [none, none, none, none, none, none, some 7], [none, none, none, some 7, none, none, none], [[], [0], [1], [], [], [], [2], [], []]⟩ (fun ch j => ([.pointer (some ⟨b8, 0 + 6, none⟩), .bool s.hs, .pointer (some ⟨bl, 0 + k * 25, none⟩), .pointer (some ⟨bl, 0 + k * 25, none⟩), .pointer (some ⟨bl, 0 + k * 25 + 8, none⟩), .pointer (some ⟨b9, 0 + 0, none⟩), .agg #[.int .u32 nows, .int .u32 nown], .bool s.hs, .bool s.hs] : List Value).getD j undef) (fun ch t => ([blk b8 (.cells (s.cells) 59 (0, 0)), blk b18 (.cells #[.pointer (some ⟨bl, 0 + k * 25, none⟩)] 147 (0, 0)), blk b9 (.cells #[.int .u32 nows, .int .u32 nown, .int .u8 bt0, .int .u8 bt1, .int .u8 bt2, .int .u8 bt3, .int .u8 bt4, .int .u8 bt5, .int .u8 bt6, .int .u8 bt7] 61 (0, 0)), own 44 25 (some ⟨bl, 0, none⟩) n cc (flat (ns.set k m) (l.set k a)), dataI none G (ns.set k m) (l.set k a), fr, own 44 25 (some ⟨bl, 0, none⟩) n cc (flat (ns.set k (cond s.hs ({ m with ws := nows, wn := nown } : Node) m)) (l.set k a))] : List Item).getD t noItem) (by kernel_rfl) (by kernel_rfl) (fun ch => by kernel_rfl) ?_ ?_
  ·
   refine all_lt_succ (all_lt_succ (all_lt_succ (all_lt_succ (all_lt_succ (all_lt_succ (all_lt_succ (all_lt_succ (all_lt_succ all_lt_zero ?_) ?_) ?_) ?_) ?_) ?_) ?_) ?_) ?_
   ·
    intro ch R F
    refine csl_go [] [] ?_
    refine Rg.fa 21 59 0 6 6 rfl ?_
    exact csl_end {}
   ·
    intro ch R F
    refine csl_go [(21, .pointer (some ⟨b8, 0 + 6, none⟩))] [blk b8 (.cells (s.cells) 59 (0, 0))] ?_
    refine Rg.ld 22 4 21 0 rfl rfl rfl ?_
    exact csl_end {}
   ·
    intro ch R F
    refine csl_go [] [blk b18 (.cells #[.pointer (some ⟨bl, 0 + k * 25, none⟩)] 147 (0, 0))] ?_
    refine Rg.ld 23 147 1 0 rfl rfl rfl ?_
    exact csl_end {}
   ·
    intro ch R F
    refine csl_go [(23, .pointer (some ⟨bl, 0 + k * 25, none⟩))] [] ?_
    refine Rg.p 24 (.nilCheck (.tmp 23)) (pv_nilCheck rfl) ?_
    exact csl_end {}
   ·
    intro ch R F
    refine csl_go [(24, .pointer (some ⟨bl, 0 + k * 25, none⟩))] [] ?_
    refine Rg.fa 25 44 24 7 8 rfl ?_
    exact csl_end {}
   ·
    intro ch R F
    refine csl_go [] [] ?_
    refine Rg.fa 26 61 2 0 0 rfl ?_
    exact csl_end {}
   ·
    intro ch R F
    refine csl_go [(26, .pointer (some ⟨b9, 0 + 0, none⟩))] [blk b9 (.cells #[.int .u32 nows, .int .u32 nown, .int .u8 bt0, .int .u8 bt1, .int .u8 bt2, .int .u8 bt3, .int .u8 bt4, .int .u8 bt5, .int .u8 bt6, .int .u8 bt7] 61 (0, 0))] ?_
    refine Rg.p 27 (.load 36 (.tmp 26)) (v := .agg #[.int .u32 nows, .int .u32 nown]) (pv_load_blk_agg 0 rfl rfl (vs := #[.int .u32 nows, .int .u32 nown]) (by kernel_rfl) (by kernel_rfl) (agg_rfl (by kernel_rfl))) ?_
    exact csl_end {}
   ·
    intro ch R F
    refine csl_go [(22, .bool s.hs), (25, .pointer (some ⟨bl, 0 + k * 25 + 8, none⟩)), (27, .agg #[.int .u32 nows, .int .u32 nown])] [own 44 25 (some ⟨bl, 0, none⟩) n cc (flat (ns.set k m) (l.set k a))] ?_
    refine rg_callM (T := Unit) (d := some 28) (f := 76) (fo := .func 76) (fs := #[]) (caps := #[]) (xs := #[.tmp 22, .tmp 25, .tmp 27]) (ts := #[4, 151, 36]) (g := none) (v := fun _ => .bool s.hs) (L := fun _ => [own 44 25 (some ⟨bl, 0, none⟩) n cc (flat (ns.set k (cond s.hs ({ m with ws := nows, wn := nown } : Node) m)) (l.set k a))]) [own 44 25 (some ⟨bl, 0, none⟩) n cc (flat (ns.set k m) (l.set k a))] ([] ++ F) (by kernel_rfl) (by kernel_rfl) rfl (by kernel_rfl) rfl (fun w hw => hw) (fun w fr_ hw => setT_calls (told := s.hs) (n' := ({ m with ws := nows, wn := nown } : Node)) (m := m) hk_ hl_ (by decide) (by kernel_rfl) hw) ?_
    rintro _ _
    dsimp only [putE, List.append, HAppend.hAppend, Append.append]
    exact csl_end {}
   ·
    intro ch R F
    refine csl_go [(28, .bool s.hs)] [] ?_
    refine Rg.as 3 28 rfl ?_
    exact csl_end {}
  ·
   intro ch
   refine at_codeS [0, 1, 2, 3, 4, 5] [(3, .bool s.hs)] [blk b8 (.cells (s.cells) 59 (0, 0)), blk b18 (.cells #[.pointer (some ⟨bl, 0 + k * 25, none⟩)] 147 (0, 0)), blk b9 (.cells #[.int .u32 nows, .int .u32 nown, .int .u8 bt0, .int .u8 bt1, .int .u8 bt2, .int .u8 bt3, .int .u8 bt4, .int .u8 bt5, .int .u8 bt6, .int .u8 bt7] 61 (0, 0)), dataI none G (ns.set k m) (l.set k a), fr, own 44 25 (some ⟨bl, 0, none⟩) n cc (flat (ns.set k (cond s.hs ({ m with ws := nows, wn := nown } : Node) m)) (l.set k a))] (.cons (by kernel_rfl) (.nil _)) (by kernel_rfl) (by decide) (fun _ _ h => h) ?_
   refine Ev.rt ?_
   refine At.via (Q := Q) hQ ?_
   refine At.ret1 rfl rfl rfl ?_
   exact fun w hw => ⟨(a, G), trivial, rfl, by
     have e_ : deed4 s nows nown m = m := by unfold deed4; rw [h1]; rfl
     rw [h1] at hw
     rw [e_]
     exact hw.pick [0, 1, 2, 5, 3, 4] (by decide)⟩

set_option maxHeartbeats 8000000 in
theorem deed5_calls {s : SetD} {b8 b18 bl n cc k : Nat} {ns : List Node} {l : List Loc} {m : Node} {nows nown bt0 bt1 bt2 bt3 bt4 bt5 bt6 bt7 : Int} {b9 : Nat} {a : Loc} (hk_ : k < ns.length) (hl_ : l.length = ns.length) {w0 w : World} {fr : Item} (h : Heap w0 [blk b8 (.cells (s.cells) 59 (0, 0)), blk b18 (.cells #[.pointer (some ⟨bl, 0 + k * 25, none⟩)] 147 (0, 0)), blk b9 (.cells #[.int .u32 nows, .int .u32 nown, .int .u8 bt0, .int .u8 bt1, .int .u8 bt2, .int .u8 bt3, .int .u8 bt4, .int .u8 bt5, .int .u8 bt6, .int .u8 bt7] 61 (0, 0)), own 44 25 (some ⟨bl, 0, none⟩) n cc (flat (ns.set k m) (l.set k a)), fr] w) :
  Calls Try.prog 77 #[.pointer (some ⟨b8, 0, none⟩), .pointer (some ⟨b18, 0, none⟩), .pointer (some ⟨b9, 0, none⟩)] w (RetM w0 (fun _ : Unit => True) (fun _ => .bool (decide (s.rh = 2) || decide (s.rh = 1))) (fun _ => [blk b8 (.cells (s.cells) 59 (0, 0)), blk b18 (.cells #[.pointer (some ⟨bl, 0 + k * 25, none⟩)] 147 (0, 0)), blk b9 (.cells #[.int .u32 nows, .int .u32 nown, .int .u8 bt0, .int .u8 bt1, .int .u8 bt2, .int .u8 bt3, .int .u8 bt4, .int .u8 bt5, .int .u8 bt6, .int .u8 bt7] 61 (0, 0)), own 44 25 (some ⟨bl, 0, none⟩) n cc (flat (ns.set k (deed5 s nows nown m)) (l.set k a))]) fr) := by
 refine calls_ofQ (args := [_, _, _]) [blk b8 (.cells (s.cells) 59 (0, 0)), blk b18 (.cells #[.pointer (some ⟨bl, 0 + k * 25, none⟩)] 147 (0, 0)), blk b9 (.cells #[.int .u32 nows, .int .u32 nown, .int .u8 bt0, .int .u8 bt1, .int .u8 bt2, .int .u8 bt3, .int .u8 bt4, .int .u8 bt5, .int .u8 bt6, .int .u8 bt7] 61 (0, 0)), own 44 25 (some ⟨bl, 0, none⟩) n cc (flat (ns.set k m) (l.set k a)), fr] Try.func77 (by kernel_rfl) (by kernel_rfl) h ?_
 intro Q hQ
 refine Ev.sr 1 ?_
 refine Rg.ac 3 (.bool false) ?_
 refine Rg.nx (fun _ _ h => h) [3,2,1,0] rfl ?_
 refine Ev.sq ?_
 refine Ev.byCases (decide (s.rh = 2)) (fun hb_ => ?_) (fun hb_ => ?_)
 ·
  refine Ev.ke [2,1,0] rfl ?_
  refine ev_csl (n := 21) (E := [(0, .pointer (some ⟨b8, 0, none⟩)), (1, .pointer (some ⟨b18, 0, none⟩)), (2, .pointer (some ⟨b9, 0, none⟩))]) ⟨21, 6, [[0], [0, 1], [0, 1, 2], [3], [3, 4], [3, 4, 5], [6], [6, 7], [0, 1, 2, 3, 4, 5, 6, 7, 8], [0, 1, 2, 3, 4, 5, 6, 7, 8, 9], [0, 1, 2, 3, 4, 5, 6, 7, 8, 9, 10], [0, 1, 2, 3, 4, 5, 6, 7, 8, 9, 10, 11], [0, 1, 2, 3, 4, 5, 6, 7, 8, 9, 10, 11, 12], [0, 1, 2, 3, 4, 5, 6, 7, 8, 9, 13], [0, 1, 2, 3, 4, 5, 6, 7, 8, 9, 13, 14], [0, 1, 2, 3, 4, 5, 6, 7, 8, 9, 13, 14, 15], [0, 1, 2, 3, 4, 5, 6, 7, 8, 9, 16], [0, 1, 2, 3, 4, 5, 6, 7, 8, 9, 16, 17], [0, 1, 2, 3, 4, 5, 6, 7, 8, 9, 10, 11, 12, 13, 14, 15, 16, 17, 18], [0, 1, 2, 3, 4, 5, 6, 7, 8, 9, 10, 11, 12, 13, 14, 15, 16, 17, 18, 19], [0, 1, 2, 3, 4, 5, 6, 7, 8, 9, 10, 11, 12, 13, 14, 15, 16, 17, 18, 19, 20]], [[], [0], [1], [], [3], [4], [], [6], [2, 5, 7], [8], [9], [9, 10], [9, 11], [9], [9, 13], [9, 14], [9], [9, 16], [9, 12, 15, 17], [9, 18], [19]], [none, none, none, none, none, some 8], [none, none, none, some 8, none, none], [[], [0], [], [1], [], [], [], [0], [], [], [], [], [], [], [], [], [], [], [], [], []]⟩ (fun ch j => ([.pointer (some ⟨b8, 0 + 8, none⟩), .int .u32 s.rh, .bool true, .pointer (some ⟨bl, 0 + k * 25, none⟩), .pointer (some ⟨bl, 0 + k * 25, none⟩), .pointer (some ⟨bl, 0 + k * 25 + 6, none⟩), .pointer (some ⟨b8, 0 + 9, none⟩), .agg #[.int .u32 s.rs, .int .u32 s.rn], .bool true, .bool true, undef, undef, undef, undef, undef, undef, undef, undef, undef, .bool true, .bool true] : List Value).getD j undef) (fun ch t => ([blk b8 (.cells (s.cells) 59 (0, 0)), blk b18 (.cells #[.pointer (some ⟨bl, 0 + k * 25, none⟩)] 147 (0, 0)), blk b9 (.cells #[.int .u32 nows, .int .u32 nown, .int .u8 bt0, .int .u8 bt1, .int .u8 bt2, .int .u8 bt3, .int .u8 bt4, .int .u8 bt5, .int .u8 bt6, .int .u8 bt7] 61 (0, 0)), own 44 25 (some ⟨bl, 0, none⟩) n cc (flat (ns.set k m) (l.set k a)), fr, own 44 25 (some ⟨bl, 0, none⟩) n cc (flat (ns.set k ({ m with rs := s.rs, rn := s.rn } : Node)) (l.set k a))] : List Item).getD t noItem) (by kernel_rfl) (by kernel_rfl) (fun ch => by kernel_rfl) ?_ ?_
  ·
   refine all_lt_succ (all_lt_succ (all_lt_succ (all_lt_succ (all_lt_succ (all_lt_succ (all_lt_succ (all_lt_succ (all_lt_succ (all_lt_succ (all_lt_succ (all_lt_succ (all_lt_succ (all_lt_succ (all_lt_succ (all_lt_succ (all_lt_succ (all_lt_succ (all_lt_succ (all_lt_succ (all_lt_succ all_lt_zero ?_) ?_) ?_) ?_) ?_) ?_) ?_) ?_) ?_) ?_) ?_) ?_) ?_) ?_) ?_) ?_) ?_) ?_) ?_) ?_) ?_
   ·
    intro ch R F
    refine csl_go [] [] ?_
    refine Rg.fa 4 59 0 8 8 rfl ?_
    exact csl_end {}
   ·
    intro ch R F
    refine csl_go [(4, .pointer (some ⟨b8, 0 + 8, none⟩))] [blk b8 (.cells (s.cells) 59 (0, 0))] ?_
    refine Rg.ld 5 57 4 0 rfl rfl rfl ?_
    exact csl_end {}
   ·
    intro ch R F
    refine csl_go [(5, .int .u32 s.rh)] [] ?_
    refine Rg.p 6 (.binOp .eql 57 (.tmp 5) (.const (.int .u32 2)) 57) (pv_eql rfl rfl) ?_
    rw [hb_]
    exact csl_end {}
   ·
    intro ch R F
    refine csl_go [] [blk b18 (.cells #[.pointer (some ⟨bl, 0 + k * 25, none⟩)] 147 (0, 0))] ?_
    refine Rg.ld 7 147 1 0 rfl rfl rfl ?_
    exact csl_end {}
   ·
    intro ch R F
    refine csl_go [(7, .pointer (some ⟨bl, 0 + k * 25, none⟩))] [] ?_
    refine Rg.p 8 (.nilCheck (.tmp 7)) (pv_nilCheck rfl) ?_
    exact csl_end {}
   ·
    intro ch R F
    refine csl_go [(8, .pointer (some ⟨bl, 0 + k * 25, none⟩))] [] ?_
    refine Rg.fa 9 44 8 6 6 rfl ?_
    exact csl_end {}
   ·
    intro ch R F
    refine csl_go [] [] ?_
    refine Rg.fa 10 59 0 9 9 rfl ?_
    exact csl_end {}
   ·
    intro ch R F
    refine csl_go [(10, .pointer (some ⟨b8, 0 + 9, none⟩))] [blk b8 (.cells (s.cells) 59 (0, 0))] ?_
    refine Rg.p 11 (.load 36 (.tmp 10)) (v := .agg #[.int .u32 s.rs, .int .u32 s.rn]) (pv_load_blk_agg 0 rfl rfl (vs := #[.int .u32 s.rs, .int .u32 s.rn]) (by kernel_rfl) (by kernel_rfl) (agg_rfl (by kernel_rfl))) ?_
    exact csl_end {}
   ·
    intro ch R F
    refine csl_go [(6, .bool true), (9, .pointer (some ⟨bl, 0 + k * 25 + 6, none⟩)), (11, .agg #[.int .u32 s.rs, .int .u32 s.rn])] [own 44 25 (some ⟨bl, 0, none⟩) n cc (flat (ns.set k m) (l.set k a))] ?_
    refine rg_callM (T := Unit) (d := some 12) (f := 76) (fo := .func 76) (fs := #[]) (caps := #[]) (xs := #[.tmp 6, .tmp 9, .tmp 11]) (ts := #[4, 151, 36]) (g := none) (v := fun _ => .bool true) (L := fun _ => [own 44 25 (some ⟨bl, 0, none⟩) n cc (flat (ns.set k ({ m with rs := s.rs, rn := s.rn } : Node)) (l.set k a))]) [own 44 25 (some ⟨bl, 0, none⟩) n cc (flat (ns.set k m) (l.set k a))] ([] ++ F) (by kernel_rfl) (by kernel_rfl) rfl (by kernel_rfl) rfl (fun w hw => hw) (fun w fr_ hw => setT_calls (told := true) (n' := ({ m with rs := s.rs, rn := s.rn } : Node)) (m := m) hk_ hl_ (by decide) (by kernel_rfl) hw) ?_
    rintro _ _
    dsimp only [putE, List.append, HAppend.hAppend, Append.append]
    exact csl_end {}
   ·
    intro ch R F
    refine csl_go [(12, .bool true)] [] ?_
    refine Rg.mv 13 12 rfl ?_
    exact csl_end {}
   ·
    intro ch R F
    refine csl_go [(13, .bool true)] [] ?_
    refine Rg.sk 14 9 false ?_
    exact csl_end {}
   ·
    intro ch R F
    refine csl_go [(13, .bool true), (14, undef)] [] ?_
    refine Rg.sk 15 9 false ?_
    exact csl_end {}
   ·
    intro ch R F
    refine csl_go [(13, .bool true), (15, undef)] [] ?_
    refine Rg.sk 16 9 false ?_
    exact csl_end {}
   ·
    intro ch R F
    refine csl_go [(13, .bool true)] [] ?_
    refine Rg.sk 17 9 false ?_
    exact csl_end {}
   ·
    intro ch R F
    refine csl_go [(13, .bool true), (17, undef)] [] ?_
    refine Rg.sk 18 9 false ?_
    exact csl_end {}
   ·
    intro ch R F
    refine csl_go [(13, .bool true), (18, undef)] [] ?_
    refine Rg.sk 19 9 false ?_
    exact csl_end {}
   ·
    intro ch R F
    refine csl_go [(13, .bool true)] [] ?_
    refine Rg.sk 20 9 false ?_
    exact csl_end {}
   ·
    intro ch R F
    refine csl_go [(13, .bool true), (20, undef)] [] ?_
    refine Rg.sk 21 9 false ?_
    exact csl_end {}
   ·
    intro ch R F
    refine csl_go [(13, .bool true), (16, undef), (19, undef), (21, undef)] [] ?_
    refine Rg.sk 22 9 false ?_
    exact csl_end {}
   ·
    intro ch R F
    refine csl_go [(13, .bool true), (22, undef)] [] ?_
    refine Rg.p 23 (.pick (.tmp 13) (.const (.bool true)) (.tmp 22)) (pv_pick_t rfl rfl) ?_
    exact csl_end {}
   ·
    intro ch R F
    refine csl_go [(23, .bool true)] [] ?_
    refine Rg.as 3 23 rfl ?_
    exact csl_end {}
  ·
   intro ch
   refine at_codeS [0, 1, 2, 3, 4] [(3, .bool true)] [blk b8 (.cells (s.cells) 59 (0, 0)), blk b18 (.cells #[.pointer (some ⟨bl, 0 + k * 25, none⟩)] 147 (0, 0)), blk b9 (.cells #[.int .u32 nows, .int .u32 nown, .int .u8 bt0, .int .u8 bt1, .int .u8 bt2, .int .u8 bt3, .int .u8 bt4, .int .u8 bt5, .int .u8 bt6, .int .u8 bt7] 61 (0, 0)), fr, own 44 25 (some ⟨bl, 0, none⟩) n cc (flat (ns.set k ({ m with rs := s.rs, rn := s.rn } : Node)) (l.set k a))] (.cons (by kernel_rfl) (.nil _)) (by kernel_rfl) (by decide) (fun _ _ h => h) ?_
   refine Ev.rt ?_
   refine At.via (Q := Q) hQ ?_
   refine At.ret1 rfl rfl rfl ?_
   exact fun w hw => ⟨(), trivial, (by rw [hb_]; rfl), by unfold deed5; rw [hb_]; exact hw.pick [0, 1, 2, 4, 3] (by decide)⟩
 ·
  refine Ev.ke [2,1,0] rfl ?_
  refine ev_csl (n := 21) (E := [(0, .pointer (some ⟨b8, 0, none⟩)), (1, .pointer (some ⟨b18, 0, none⟩)), (2, .pointer (some ⟨b9, 0, none⟩))]) ⟨21, 7, [[0], [0, 1], [0, 1, 2], [3], [3, 4], [3, 4, 5], [6], [6, 7], [0, 1, 2, 3, 4, 5, 6, 7, 8], [0, 1, 2, 3, 4, 5, 6, 7, 8, 9], [0, 1, 2, 3, 4, 5, 6, 7, 8, 9, 10], [0, 1, 2, 3, 4, 5, 6, 7, 8, 9, 10, 11], [0, 1, 2, 3, 4, 5, 6, 7, 8, 9, 10, 11, 12], [0, 1, 2, 3, 4, 5, 6, 7, 8, 9, 13], [0, 1, 2, 3, 4, 5, 6, 7, 8, 9, 13, 14], [0, 1, 2, 3, 4, 5, 6, 7, 8, 9, 13, 14, 15], [0, 1, 2, 3, 4, 5, 6, 7, 8, 9, 16], [0, 1, 2, 3, 4, 5, 6, 7, 8, 9, 16, 17], [0, 1, 2, 3, 4, 5, 6, 7, 8, 9, 10, 11, 12, 13, 14, 15, 16, 17, 18], [0, 1, 2, 3, 4, 5, 6, 7, 8, 9, 10, 11, 12, 13, 14, 15, 16, 17, 18, 19], [0, 1, 2, 3, 4, 5, 6, 7, 8, 9, 10, 11, 12, 13, 14, 15, 16, 17, 18, 19, 20]], [[], [0], [1], [], [3], [4], [], [6], [2, 5, 7], [8], [9], [9, 10], [9, 11], [9], [9, 13], [9, 14], [9], [9, 16], [9, 12, 15, 17], [9, 18], [19]], [none, none, none, none, none, some 8, some 18], [none, none, none, some 8, none, some 18, none], [[], [0], [], [1], [], [], [], [0], [], [], [], [0], [], [1], [], [], [], [2], [], [], []]⟩ (fun ch j => ([.pointer (some ⟨b8, 0 + 8, none⟩), .int .u32 s.rh, .bool false, .pointer (some ⟨bl, 0 + k * 25, none⟩), .pointer (some ⟨bl, 0 + k * 25, none⟩), .pointer (some ⟨bl, 0 + k * 25 + 6, none⟩), .pointer (some ⟨b8, 0 + 9, none⟩), .agg #[.int .u32 s.rs, .int .u32 s.rn], .bool false, .bool false, .pointer (some ⟨b8, 0 + 8, none⟩), .int .u32 s.rh, .bool (decide (s.rh = 1)), .pointer (some ⟨bl, 0 + k * 25, none⟩), .pointer (some ⟨bl, 0 + k * 25, none⟩), .pointer (some ⟨bl, 0 + k * 25 + 6, none⟩), .pointer (some ⟨b9, 0 + 0, none⟩), .agg #[.int .u32 nows, .int .u32 nown], .bool (decide (s.rh = 1)), .bool (decide (s.rh = 1)), .bool (decide (s.rh = 1))] : List Value).getD j undef) (fun ch t => ([blk b8 (.cells (s.cells) 59 (0, 0)), blk b18 (.cells #[.pointer (some ⟨bl, 0 + k * 25, none⟩)] 147 (0, 0)), blk b9 (.cells #[.int .u32 nows, .int .u32 nown, .int .u8 bt0, .int .u8 bt1, .int .u8 bt2, .int .u8 bt3, .int .u8 bt4, .int .u8 bt5, .int .u8 bt6, .int .u8 bt7] 61 (0, 0)), own 44 25 (some ⟨bl, 0, none⟩) n cc (flat (ns.set k m) (l.set k a)), fr, own 44 25 (some ⟨bl, 0, none⟩) n cc (flat (ns.set k m) (l.set k a)), own 44 25 (some ⟨bl, 0, none⟩) n cc (flat (ns.set k (cond (decide (s.rh = 1)) ({ m with rs := nows, rn := nown } : Node) m)) (l.set k a))] : List Item).getD t noItem) (by kernel_rfl) (by kernel_rfl) (fun ch => by kernel_rfl) ?_ ?_
  ·
   refine all_lt_succ (all_lt_succ (all_lt_succ (all_lt_succ (all_lt_succ (all_lt_succ (all_lt_succ (all_lt_succ (all_lt_succ (all_lt_succ (all_lt_succ (all_lt_succ (all_lt_succ (all_lt_succ (all_lt_succ (all_lt_succ (all_lt_succ (all_lt_succ (all_lt_succ (all_lt_succ (all_lt_succ all_lt_zero ?_) ?_) ?_) ?_) ?_) ?_) ?_) ?_) ?_) ?_) ?_) ?_) ?_) ?_) ?_) ?_) ?_) ?_) ?_) ?_) ?_
   ·
    intro ch R F
    refine csl_go [] [] ?_
    refine Rg.fa 4 59 0 8 8 rfl ?_
    exact csl_end {}
   ·
    intro ch R F
    refine csl_go [(4, .pointer (some ⟨b8, 0 + 8, none⟩))] [blk b8 (.cells (s.cells) 59 (0, 0))] ?_
    refine Rg.ld 5 57 4 0 rfl rfl rfl ?_
    exact csl_end {}
   ·
    intro ch R F
    refine csl_go [(5, .int .u32 s.rh)] [] ?_
    refine Rg.p 6 (.binOp .eql 57 (.tmp 5) (.const (.int .u32 2)) 57) (pv_eql rfl rfl) ?_
    rw [hb_]
    exact csl_end {}
   ·
    intro ch R F
    refine csl_go [] [blk b18 (.cells #[.pointer (some ⟨bl, 0 + k * 25, none⟩)] 147 (0, 0))] ?_
    refine Rg.ld 7 147 1 0 rfl rfl rfl ?_
    exact csl_end {}
   ·
    intro ch R F
    refine csl_go [(7, .pointer (some ⟨bl, 0 + k * 25, none⟩))] [] ?_
    refine Rg.p 8 (.nilCheck (.tmp 7)) (pv_nilCheck rfl) ?_
    exact csl_end {}
   ·
    intro ch R F
    refine csl_go [(8, .pointer (some ⟨bl, 0 + k * 25, none⟩))] [] ?_
    refine Rg.fa 9 44 8 6 6 rfl ?_
    exact csl_end {}
   ·
    intro ch R F
    refine csl_go [] [] ?_
    refine Rg.fa 10 59 0 9 9 rfl ?_
    exact csl_end {}
   ·
    intro ch R F
    refine csl_go [(10, .pointer (some ⟨b8, 0 + 9, none⟩))] [blk b8 (.cells (s.cells) 59 (0, 0))] ?_
    refine Rg.p 11 (.load 36 (.tmp 10)) (v := .agg #[.int .u32 s.rs, .int .u32 s.rn]) (pv_load_blk_agg 0 rfl rfl (vs := #[.int .u32 s.rs, .int .u32 s.rn]) (by kernel_rfl) (by kernel_rfl) (agg_rfl (by kernel_rfl))) ?_
    exact csl_end {}
   ·
    intro ch R F
    refine csl_go [(6, .bool false), (9, .pointer (some ⟨bl, 0 + k * 25 + 6, none⟩)), (11, .agg #[.int .u32 s.rs, .int .u32 s.rn])] [own 44 25 (some ⟨bl, 0, none⟩) n cc (flat (ns.set k m) (l.set k a))] ?_
    refine rg_callM (T := Unit) (d := some 12) (f := 76) (fo := .func 76) (fs := #[]) (caps := #[]) (xs := #[.tmp 6, .tmp 9, .tmp 11]) (ts := #[4, 151, 36]) (g := none) (v := fun _ => .bool false) (L := fun _ => [own 44 25 (some ⟨bl, 0, none⟩) n cc (flat (ns.set k m) (l.set k a))]) [own 44 25 (some ⟨bl, 0, none⟩) n cc (flat (ns.set k m) (l.set k a))] ([] ++ F) (by kernel_rfl) (by kernel_rfl) rfl (by kernel_rfl) rfl (fun w hw => hw) (fun w fr_ hw => setT_calls (told := false) (n' := ({ m with rs := s.rs, rn := s.rn } : Node)) (m := m) hk_ hl_ (by decide) (by kernel_rfl) hw) ?_
    rintro _ _
    dsimp only [putE, List.append, HAppend.hAppend, Append.append]
    exact csl_end {}
   ·
    intro ch R F
    refine csl_go [(12, .bool false)] [] ?_
    refine Rg.mv 13 12 rfl ?_
    exact csl_end {}
   ·
    intro ch R F
    refine csl_go [(13, .bool false)] [] ?_
    refine Rg.pg 9 false 14 (.fieldAddr 59 (.tmp 0) 8) (pv_fieldAddr rfl (n := 8) (by kernel_rfl)) ?_
    exact csl_end {}
   ·
    intro ch R F
    refine csl_go [(13, .bool false), (14, .pointer (some ⟨b8, 0 + 8, none⟩))] [blk b8 (.cells (s.cells) 59 (0, 0))] ?_
    refine Rg.pg 9 false 15 (.load 57 (.tmp 14)) (v := .int .u32 s.rh) (pv_load_blk 0 rfl rfl (by kernel_rfl) rfl) ?_
    exact csl_end {}
   ·
    intro ch R F
    refine csl_go [(13, .bool false), (15, .int .u32 s.rh)] [] ?_
    refine Rg.pg 9 false 16 (.binOp .eql 57 (.tmp 15) (.const (.int .u32 1)) 57) (pv_eql rfl rfl) ?_
    exact csl_end {}
   ·
    intro ch R F
    refine csl_go [(13, .bool false)] [blk b18 (.cells #[.pointer (some ⟨bl, 0 + k * 25, none⟩)] 147 (0, 0))] ?_
    refine Rg.pg 9 false 17 (.load 147 (.tmp 1)) (v := .pointer (some ⟨bl, 0 + k * 25, none⟩)) (pv_load_blk 0 rfl rfl (by kernel_rfl) rfl) ?_
    exact csl_end {}
   ·
    intro ch R F
    refine csl_go [(13, .bool false), (17, .pointer (some ⟨bl, 0 + k * 25, none⟩))] [] ?_
    refine Rg.pg 9 false 18 (.nilCheck (.tmp 17)) (pv_nilCheck rfl) ?_
    exact csl_end {}
   ·
    intro ch R F
    refine csl_go [(13, .bool false), (18, .pointer (some ⟨bl, 0 + k * 25, none⟩))] [] ?_
    refine Rg.pg 9 false 19 (.fieldAddr 44 (.tmp 18) 6) (pv_fieldAddr rfl (n := 6) (by kernel_rfl)) ?_
    exact csl_end {}
   ·
    intro ch R F
    refine csl_go [(13, .bool false)] [] ?_
    refine Rg.pg 9 false 20 (.fieldAddr 61 (.tmp 2) 0) (pv_fieldAddr rfl (n := 0) (by kernel_rfl)) ?_
    exact csl_end {}
   ·
    intro ch R F
    refine csl_go [(13, .bool false), (20, .pointer (some ⟨b9, 0 + 0, none⟩))] [blk b9 (.cells #[.int .u32 nows, .int .u32 nown, .int .u8 bt0, .int .u8 bt1, .int .u8 bt2, .int .u8 bt3, .int .u8 bt4, .int .u8 bt5, .int .u8 bt6, .int .u8 bt7] 61 (0, 0))] ?_
    refine Rg.pg 9 false 21 (.load 36 (.tmp 20)) (v := .agg #[.int .u32 nows, .int .u32 nown]) (pv_load_blk_agg 0 rfl rfl (vs := #[.int .u32 nows, .int .u32 nown]) (by kernel_rfl) (by kernel_rfl) (agg_rfl (by kernel_rfl))) ?_
    exact csl_end {}
   ·
    intro ch R F
    refine csl_go [(13, .bool false), (16, .bool (decide (s.rh = 1))), (19, .pointer (some ⟨bl, 0 + k * 25 + 6, none⟩)), (21, .agg #[.int .u32 nows, .int .u32 nown])] [own 44 25 (some ⟨bl, 0, none⟩) n cc (flat (ns.set k m) (l.set k a))] ?_
    refine rg_callM (T := Unit) (d := some 22) (f := 76) (fo := .func 76) (fs := #[]) (caps := #[]) (xs := #[.tmp 16, .tmp 19, .tmp 21]) (ts := #[4, 151, 36]) (g := some (9, false)) (v := fun _ => .bool (decide (s.rh = 1))) (L := fun _ => [own 44 25 (some ⟨bl, 0, none⟩) n cc (flat (ns.set k (cond (decide (s.rh = 1)) ({ m with rs := nows, rn := nown } : Node) m)) (l.set k a))]) [own 44 25 (some ⟨bl, 0, none⟩) n cc (flat (ns.set k m) (l.set k a))] ([] ++ F) (by kernel_rfl) (by kernel_rfl) rfl (by kernel_rfl) rfl (fun w hw => hw) (fun w fr_ hw => setT_calls (told := (decide (s.rh = 1))) (n' := ({ m with rs := nows, rn := nown } : Node)) (m := m) hk_ hl_ (by decide) (by kernel_rfl) hw) ?_
    rintro _ _
    dsimp only [putE, List.append, HAppend.hAppend, Append.append]
    exact csl_end {}
   ·
    intro ch R F
    refine csl_go [(13, .bool false), (22, .bool (decide (s.rh = 1)))] [] ?_
    refine Rg.p 23 (.pick (.tmp 13) (.const (.bool true)) (.tmp 22)) (pv_pick_f rfl rfl) ?_
    exact csl_end {}
   ·
    intro ch R F
    refine csl_go [(23, .bool (decide (s.rh = 1)))] [] ?_
    refine Rg.as 3 23 rfl ?_
    exact csl_end {}
  ·
   intro ch
   refine at_codeS [0, 1, 2, 3, 4] [(3, .bool (decide (s.rh = 1)))] [blk b8 (.cells (s.cells) 59 (0, 0)), blk b18 (.cells #[.pointer (some ⟨bl, 0 + k * 25, none⟩)] 147 (0, 0)), blk b9 (.cells #[.int .u32 nows, .int .u32 nown, .int .u8 bt0, .int .u8 bt1, .int .u8 bt2, .int .u8 bt3, .int .u8 bt4, .int .u8 bt5, .int .u8 bt6, .int .u8 bt7] 61 (0, 0)), fr, own 44 25 (some ⟨bl, 0, none⟩) n cc (flat (ns.set k (cond (decide (s.rh = 1)) ({ m with rs := nows, rn := nown } : Node) m)) (l.set k a))] (.cons (by kernel_rfl) (.nil _)) (by kernel_rfl) (by decide) (fun _ _ h => h) ?_
   refine Ev.rt ?_
   refine At.via (Q := Q) hQ ?_
   refine At.ret1 rfl rfl rfl ?_
   exact fun w hw => ⟨(), trivial, (by rw [hb_]; rfl), by unfold deed5; rw [hb_]; exact hw.pick [0, 1, 2, 4, 3] (by decide)⟩

set_option maxHeartbeats 8000000 in
theorem deed6_calls {s : SetD} {b8 b18 bl n cc k : Nat} {ns : List Node} {l : List Loc} {m : Node} {nows nown bt0 bt1 bt2 bt3 bt4 bt5 bt6 bt7 : Int} {b9 : Nat} {a : Loc} (hk_ : k < ns.length) (hl_ : l.length = ns.length) {w0 w : World} {fr : Item} (h : Heap w0 [blk b8 (.cells (s.cells) 59 (0, 0)), blk b18 (.cells #[.pointer (some ⟨bl, 0 + k * 25, none⟩)] 147 (0, 0)), blk b9 (.cells #[.int .u32 nows, .int .u32 nown, .int .u8 bt0, .int .u8 bt1, .int .u8 bt2, .int .u8 bt3, .int .u8 bt4, .int .u8 bt5, .int .u8 bt6, .int .u8 bt7] 61 (0, 0)), own 44 25 (some ⟨bl, 0, none⟩) n cc (flat (ns.set k m) (l.set k a)), fr] w) :
  Calls Try.prog 78 #[.pointer (some ⟨b8, 0, none⟩), .pointer (some ⟨b18, 0, none⟩), .pointer (some ⟨b9, 0, none⟩)] w (RetM w0 (fun _ : Unit => True) (fun _ => .bool (decide (s.wh = 2) || decide (s.wh = 1))) (fun _ => [blk b8 (.cells (s.cells) 59 (0, 0)), blk b18 (.cells #[.pointer (some ⟨bl, 0 + k * 25, none⟩)] 147 (0, 0)), blk b9 (.cells #[.int .u32 nows, .int .u32 nown, .int .u8 bt0, .int .u8 bt1, .int .u8 bt2, .int .u8 bt3, .int .u8 bt4, .int .u8 bt5, .int .u8 bt6, .int .u8 bt7] 61 (0, 0)), own 44 25 (some ⟨bl, 0, none⟩) n cc (flat (ns.set k (deed6 s nows nown m)) (l.set k a))]) fr) := by
 refine calls_ofQ (args := [_, _, _]) [blk b8 (.cells (s.cells) 59 (0, 0)), blk b18 (.cells #[.pointer (some ⟨bl, 0 + k * 25, none⟩)] 147 (0, 0)), blk b9 (.cells #[.int .u32 nows, .int .u32 nown, .int .u8 bt0, .int .u8 bt1, .int .u8 bt2, .int .u8 bt3, .int .u8 bt4, .int .u8 bt5, .int .u8 bt6, .int .u8 bt7] 61 (0, 0)), own 44 25 (some ⟨bl, 0, none⟩) n cc (flat (ns.set k m) (l.set k a)), fr] Try.func78 (by kernel_rfl) (by kernel_rfl) h ?_
 intro Q hQ
 refine Ev.sr 1 ?_
 refine Rg.ac 3 (.bool false) ?_
 refine Rg.nx (fun _ _ h => h) [3,2,1,0] rfl ?_
 refine Ev.sq ?_
 refine Ev.byCases (decide (s.wh = 2)) (fun hb_ => ?_) (fun hb_ => ?_)
 ·
  refine Ev.ke [2,1,0] rfl ?_
  refine ev_csl (n := 21) (E := [(0, .pointer (some ⟨b8, 0, none⟩)), (1, .pointer (some ⟨b18, 0, none⟩)), (2, .pointer (some ⟨b9, 0, none⟩))]) ⟨21, 6, [[0], [0, 1], [0, 1, 2], [3], [3, 4], [3, 4, 5], [6], [6, 7], [0, 1, 2, 3, 4, 5, 6, 7, 8], [0, 1, 2, 3, 4, 5, 6, 7, 8, 9], [0, 1, 2, 3, 4, 5, 6, 7, 8, 9, 10], [0, 1, 2, 3, 4, 5, 6, 7, 8, 9, 10, 11], [0, 1, 2, 3, 4, 5, 6, 7, 8, 9, 10, 11, 12], [0, 1, 2, 3, 4, 5, 6, 7, 8, 9, 13], [0, 1, 2, 3, 4, 5, 6, 7, 8, 9, 13, 14], [0, 1, 2, 3, 4, 5, 6, 7, 8, 9, 13, 14, 15], [0, 1, 2, 3, 4, 5, 6, 7, 8, 9, 16], [0, 1, 2, 3, 4, 5, 6, 7, 8, 9, 16, 17], [0, 1, 2, 3, 4, 5, 6, 7, 8, 9, 10, 11, 12, 13, 14, 15, 16, 17, 18], [0, 1, 2, 3, 4, 5, 6, 7, 8, 9, 10, 11, 12, 13, 14, 15, 16, 17, 18, 19], [0, 1, 2, 3, 4, 5, 6, 7, 8, 9, 10, 11, 12, 13, 14, 15, 16, 17, 18, 19, 20]], [[], [0], [1], [], [3], [4], [], [6], [2, 5, 7], [8], [9], [9, 10], [9, 11], [9], [9, 13], [9, 14], [9], [9, 16], [9, 12, 15, 17], [9, 18], [19]], [none, none, none, none, none, some 8], [none, none, none, some 8, none, none], [[], [0], [], [1], [], [], [], [0], [], [], [], [], [], [], [], [], [], [], [], [], []]⟩ (fun ch j => ([.pointer (some ⟨b8, 0 + 11, none⟩), .int .u32 s.wh, .bool true, .pointer (some ⟨bl, 0 + k * 25, none⟩), .pointer (some ⟨bl, 0 + k * 25, none⟩), .pointer (some ⟨bl, 0 + k * 25 + 8, none⟩), .pointer (some ⟨b8, 0 + 12, none⟩), .agg #[.int .u32 s.ws, .int .u32 s.wn], .bool true, .bool true, undef, undef, undef, undef, undef, undef, undef, undef, undef, .bool true, .bool true] : List Value).getD j undef) (fun ch t => ([blk b8 (.cells (s.cells) 59 (0, 0)), blk b18 (.cells #[.pointer (some ⟨bl, 0 + k * 25, none⟩)] 147 (0, 0)), blk b9 (.cells #[.int .u32 nows, .int .u32 nown, .int .u8 bt0, .int .u8 bt1, .int .u8 bt2, .int .u8 bt3, .int .u8 bt4, .int .u8 bt5, .int .u8 bt6, .int .u8 bt7] 61 (0, 0)), own 44 25 (some ⟨bl, 0, none⟩) n cc (flat (ns.set k m) (l.set k a)), fr, own 44 25 (some ⟨bl, 0, none⟩) n cc (flat (ns.set k ({ m with ws := s.ws, wn := s.wn } : Node)) (l.set k a))] : List Item).getD t noItem) (by kernel_rfl) (by kernel_rfl) (fun ch => by kernel_rfl) ?_ ?_
  ·
   refine all_lt_succ (all_lt_succ (all_lt_succ (all_lt_succ (all_lt_succ (all_lt_succ (all_lt_succ (all_lt_succ (all_lt_succ (all_lt_succ (all_lt_succ (all_lt_succ (all_lt_succ (all_lt_succ (all_lt_succ (all_lt_succ (all_lt_succ (all_lt_succ (all_lt_succ (all_lt_succ (all_lt_succ all_lt_zero ?_) ?_) ?_) ?_) ?_) ?_) ?_) ?_) ?_) ?_) ?_) ?_) ?_) ?_) ?_) ?_) ?_) ?_) ?_) ?_) ?_
   ·
    intro ch R F
    refine csl_go [] [] ?_
    refine Rg.fa 4 59 0 10 11 rfl ?_
    exact csl_end {}
   ·
    intro ch R F
    refine csl_go [(4, .pointer (some ⟨b8, 0 + 11, none⟩))] [blk b8 (.cells (s.cells) 59 (0, 0))] ?_
    refine Rg.ld 5 57 4 0 rfl rfl rfl ?_
    exact csl_end {}
   ·
    intro ch R F
    refine csl_go [(5, .int .u32 s.wh)] [] ?_
    refine Rg.p 6 (.binOp .eql 57 (.tmp 5) (.const (.int .u32 2)) 57) (pv_eql rfl rfl) ?_
    rw [hb_]
    exact csl_end {}
   ·
    intro ch R F
    refine csl_go [] [blk b18 (.cells #[.pointer (some ⟨bl, 0 + k * 25, none⟩)] 147 (0, 0))] ?_
    refine Rg.ld 7 147 1 0 rfl rfl rfl ?_
    exact csl_end {}
   ·
    intro ch R F
    refine csl_go [(7, .pointer (some ⟨bl, 0 + k * 25, none⟩))] [] ?_
    refine Rg.p 8 (.nilCheck (.tmp 7)) (pv_nilCheck rfl) ?_
    exact csl_end {}
   ·
    intro ch R F
    refine csl_go [(8, .pointer (some ⟨bl, 0 + k * 25, none⟩))] [] ?_
    refine Rg.fa 9 44 8 7 8 rfl ?_
    exact csl_end {}
   ·
    intro ch R F
    refine csl_go [] [] ?_
    refine Rg.fa 10 59 0 11 12 rfl ?_
    exact csl_end {}
   ·
    intro ch R F
    refine csl_go [(10, .pointer (some ⟨b8, 0 + 12, none⟩))] [blk b8 (.cells (s.cells) 59 (0, 0))] ?_
    refine Rg.p 11 (.load 36 (.tmp 10)) (v := .agg #[.int .u32 s.ws, .int .u32 s.wn]) (pv_load_blk_agg 0 rfl rfl (vs := #[.int .u32 s.ws, .int .u32 s.wn]) (by kernel_rfl) (by kernel_rfl) (agg_rfl (by kernel_rfl))) ?_
    exact csl_end {}
   ·
    intro ch R F
    refine csl_go [(6, .bool true), (9, .pointer (some ⟨bl, 0 + k * 25 + 8, none⟩)), (11, .agg #[.int .u32 s.ws, .int .u32 s.wn])] [own 44 25 (some ⟨bl, 0, none⟩) n cc (flat (ns.set k m) (l.set k a))] ?_
    refine rg_callM (T := Unit) (d := some 12) (f := 76) (fo := .func 76) (fs := #[]) (caps := #[]) (xs := #[.tmp 6, .tmp 9, .tmp 11]) (ts := #[4, 151, 36]) (g := none) (v := fun _ => .bool true) (L := fun _ => [own 44 25 (some ⟨bl, 0, none⟩) n cc (flat (ns.set k ({ m with ws := s.ws, wn := s.wn } : Node)) (l.set k a))]) [own 44 25 (some ⟨bl, 0, none⟩) n cc (flat (ns.set k m) (l.set k a))] ([] ++ F) (by kernel_rfl) (by kernel_rfl) rfl (by kernel_rfl) rfl (fun w hw => hw) (fun w fr_ hw => setT_calls (told := true) (n' := ({ m with ws := s.ws, wn := s.wn } : Node)) (m := m) hk_ hl_ (by decide) (by kernel_rfl) hw) ?_
    rintro _ _
    dsimp only [putE, List.append, HAppend.hAppend, Append.append]
    exact csl_end {}
   ·
    intro ch R F
    refine csl_go [(12, .bool true)] [] ?_
    refine Rg.mv 13 12 rfl ?_
    exact csl_end {}
   ·
    intro ch R F
    refine csl_go [(13, .bool true)] [] ?_
    refine Rg.sk 14 9 false ?_
    exact csl_end {}
   ·
    intro ch R F
    refine csl_go [(13, .bool true), (14, undef)] [] ?_
    refine Rg.sk 15 9 false ?_
    exact csl_end {}
   ·
    intro ch R F
    refine csl_go [(13, .bool true), (15, undef)] [] ?_
    refine Rg.sk 16 9 false ?_
    exact csl_end {}
   ·
    intro ch R F
    refine csl_go [(13, .bool true)] [] ?_
    refine Rg.sk 17 9 false ?_
    exact csl_end {}
   ·
    intro ch R F
    refine csl_go [(13, .bool true), (17, undef)] [] ?_
    refine Rg.sk 18 9 false ?_
    exact csl_end {}
   ·
    intro ch R F
    refine csl_go [(13, .bool true), (18, undef)] [] ?_
    refine Rg.sk 19 9 false ?_
    exact csl_end {}
   ·
    intro ch R F
    refine csl_go [(13, .bool true)] [] ?_
    refine Rg.sk 20 9 false ?_
    exact csl_end {}
   ·
    intro ch R F
    refine csl_go [(13, .bool true), (20, undef)] [] ?_
    refine Rg.sk 21 9 false ?_
    exact csl_end {}
   ·
    intro ch R F
    refine csl_go [(13, .bool true), (16, undef), (19, undef), (21, undef)] [] ?_
    refine Rg.sk 22 9 false ?_
    exact csl_end {}
   ·
    intro ch R F
    refine csl_go [(13, .bool true), (22, undef)] [] ?_
    refine Rg.p 23 (.pick (.tmp 13) (.const (.bool true)) (.tmp 22)) (pv_pick_t rfl rfl) ?_
    exact csl_end {}
   ·
    intro ch R F
    refine csl_go [(23, .bool true)] [] ?_
    refine Rg.as 3 23 rfl ?_
    exact csl_end {}
  ·
   intro ch
   refine at_codeS [0, 1, 2, 3, 4] [(3, .bool true)] [blk b8 (.cells (s.cells) 59 (0, 0)), blk b18 (.cells #[.pointer (some ⟨bl, 0 + k * 25, none⟩)] 147 (0, 0)), blk b9 (.cells #[.int .u32 nows, .int .u32 nown, .int .u8 bt0, .int .u8 bt1, .int .u8 bt2, .int .u8 bt3, .int .u8 bt4, .int .u8 bt5, .int .u8 bt6, .int .u8 bt7] 61 (0, 0)), fr, own 44 25 (some ⟨bl, 0, none⟩) n cc (flat (ns.set k ({ m with ws := s.ws, wn := s.wn } : Node)) (l.set k a))] (.cons (by kernel_rfl) (.nil _)) (by kernel_rfl) (by decide) (fun _ _ h => h) ?_
   refine Ev.rt ?_
   refine At.via (Q := Q) hQ ?_
   refine At.ret1 rfl rfl rfl ?_
   exact fun w hw => ⟨(), trivial, (by rw [hb_]; rfl), by unfold deed6; rw [hb_]; exact hw.pick [0, 1, 2, 4, 3] (by decide)⟩
 ·
  refine Ev.ke [2,1,0] rfl ?_
  refine ev_csl (n := 21) (E := [(0, .pointer (some ⟨b8, 0, none⟩)), (1, .pointer (some ⟨b18, 0, none⟩)), (2, .pointer (some ⟨b9, 0, none⟩))]) ⟨21, 7, [[0], [0, 1], [0, 1, 2], [3], [3, 4], [3, 4, 5], [6], [6, 7], [0, 1, 2, 3, 4, 5, 6, 7, 8], [0, 1, 2, 3, 4, 5, 6, 7, 8, 9], [0, 1, 2, 3, 4, 5, 6, 7, 8, 9, 10], [0, 1, 2, 3, 4, 5, 6, 7, 8, 9, 10, 11], [0, 1, 2, 3, 4, 5, 6, 7, 8, 9, 10, 11, 12], [0, 1, 2, 3, 4, 5, 6, 7, 8, 9, 13], [0, 1, 2, 3, 4, 5, 6, 7, 8, 9, 13, 14], [0, 1, 2, 3, 4, 5, 6, 7, 8, 9, 13, 14, 15], [0, 1, 2, 3, 4, 5, 6, 7, 8, 9, 16], [0, 1, 2, 3, 4, 5, 6, 7, 8, 9, 16, 17], [0, 1, 2, 3, 4, 5, 6, 7, 8, 9, 10, 11, 12, 13, 14, 15, 16, 17, 18], [0, 1, 2, 3, 4, 5, 6, 7, 8, 9, 10, 11, 12, 13, 14, 15, 16, 17, 18, 19], [0, 1, 2, 3, 4, 5, 6, 7, 8, 9, 10, 11, 12, 13, 14, 15, 16, 17, 18, 19, 20]], [[], [0], [1], [], [3], [4], [], [6], [2, 5, 7], [8], [9], [9, 10], [9, 11], [9], [9, 13], [9, 14], [9], [9, 16], [9, 12, 15, 17], [9, 18], [19]], [none, none, none, none, none, some 8, some 18], [none, none, none, some 8, none, some 18, none], [[], [0], [], [1], [], [], [], [0], [], [], [], [0], [], [1], [], [], [], [2], [], [], []]⟩ (fun ch j => ([.pointer (some ⟨b8, 0 + 11, none⟩), .int .u32 s.wh, .bool false, .pointer (some ⟨bl, 0 + k * 25, none⟩), .pointer (some ⟨bl, 0 + k * 25, none⟩), .pointer (some ⟨bl, 0 + k * 25 + 8, none⟩), .pointer (some ⟨b8, 0 + 12, none⟩), .agg #[.int .u32 s.ws, .int .u32 s.wn], .bool false, .bool false, .pointer (some ⟨b8, 0 + 11, none⟩), .int .u32 s.wh, .bool (decide (s.wh = 1)), .pointer (some ⟨bl, 0 + k * 25, none⟩), .pointer (some ⟨bl, 0 + k * 25, none⟩), .pointer (some ⟨bl, 0 + k * 25 + 8, none⟩), .pointer (some ⟨b9, 0 + 0, none⟩), .agg #[.int .u32 nows, .int .u32 nown], .bool (decide (s.wh = 1)), .bool (decide (s.wh = 1)), .bool (decide (s.wh = 1))] : List Value).getD j undef) (fun ch t => ([blk b8 (.cells (s.cells) 59 (0, 0)), blk b18 (.cells #[.pointer (some ⟨bl, 0 + k * 25, none⟩)] 147 (0, 0)), blk b9 (.cells #[.int .u32 nows, .int .u32 nown, .int .u8 bt0, .int .u8 bt1, .int .u8 bt2, .int .u8 bt3, .int .u8 bt4, .int .u8 bt5, .int .u8 bt6, .int .u8 bt7] 61 (0, 0)), own 44 25 (some ⟨bl, 0, none⟩) n cc (flat (ns.set k m) (l.set k a)), fr, own 44 25 (some ⟨bl, 0, none⟩) n cc (flat (ns.set k m) (l.set k a)), own 44 25 (some ⟨bl, 0, none⟩) n cc (flat (ns.set k (cond (decide (s.wh = 1)) ({ m with ws := nows, wn := nown } : Node) m)) (l.set k a))] : List Item).getD t noItem) (by kernel_rfl) (by kernel_rfl) (fun ch => by kernel_rfl) ?_ ?_
  ·
   refine all_lt_succ (all_lt_succ (all_lt_succ (all_lt_succ (all_lt_succ (all_lt_succ (all_lt_succ (all_lt_succ (all_lt_succ (all_lt_succ (all_lt_succ (all_lt_succ (all_lt_succ (all_lt_succ (all_lt_succ (all_lt_succ (all_lt_succ (all_lt_succ (all_lt_succ (all_lt_succ (all_lt_succ all_lt_zero ?_) ?_) ?_) ?_) ?_) ?_) ?_) ?_) ?_) ?_) ?_) ?_) ?_) ?_) ?_) ?_) ?_) ?_) ?_) ?_) ?_
   ·
    intro ch R F
    refine csl_go [] [] ?_
    refine Rg.fa 4 59 0 10 11 rfl ?_
    exact csl_end {}
   ·
    intro ch R F
    refine csl_go [(4, .pointer (some ⟨b8, 0 + 11, none⟩))] [blk b8 (.cells (s.cells) 59 (0, 0))] ?_
    refine Rg.ld 5 57 4 0 rfl rfl rfl ?_
    exact csl_end {}
   ·
    intro ch R F
    refine csl_go [(5, .int .u32 s.wh)] [] ?_
    refine Rg.p 6 (.binOp .eql 57 (.tmp 5) (.const (.int .u32 2)) 57) (pv_eql rfl rfl) ?_
    rw [hb_]
    exact csl_end {}
   ·
    intro ch R F
    refine csl_go [] [blk b18 (.cells #[.pointer (some ⟨bl, 0 + k * 25, none⟩)] 147 (0, 0))] ?_
    refine Rg.ld 7 147 1 0 rfl rfl rfl ?_
    exact csl_end {}
   ·
    intro ch R F
    refine csl_go [(7, .pointer (some ⟨bl, 0 + k * 25, none⟩))] [] ?_
    refine Rg.p 8 (.nilCheck (.tmp 7)) (pv_nilCheck rfl) ?_
    exact csl_end {}
   ·
    intro ch R F
    refine csl_go [(8, .pointer (some ⟨bl, 0 + k * 25, none⟩))] [] ?_
    refine Rg.fa 9 44 8 7 8 rfl ?_
    exact csl_end {}
   ·
    intro ch R F
    refine csl_go [] [] ?_
    refine Rg.fa 10 59 0 11 12 rfl ?_
    exact csl_end {}
   ·
    intro ch R F
    refine csl_go [(10, .pointer (some ⟨b8, 0 + 12, none⟩))] [blk b8 (.cells (s.cells) 59 (0, 0))] ?_
    refine Rg.p 11 (.load 36 (.tmp 10)) (v := .agg #[.int .u32 s.ws, .int .u32 s.wn]) (pv_load_blk_agg 0 rfl rfl (vs := #[.int .u32 s.ws, .int .u32 s.wn]) (by kernel_rfl) (by kernel_rfl) (agg_rfl (by kernel_rfl))) ?_
    exact csl_end {}
   ·
    intro ch R F
    refine csl_go [(6, .bool false), (9, .pointer (some ⟨bl, 0 + k * 25 + 8, none⟩)), (11, .agg #[.int .u32 s.ws, .int .u32 s.wn])] [own 44 25 (some ⟨bl, 0, none⟩) n cc (flat (ns.set k m) (l.set k a))] ?_
    refine rg_callM (T := Unit) (d := some 12) (f := 76) (fo := .func 76) (fs := #[]) (caps := #[]) (xs := #[.tmp 6, .tmp 9, .tmp 11]) (ts := #[4, 151, 36]) (g := none) (v := fun _ => .bool false) (L := fun _ => [own 44 25 (some ⟨bl, 0, none⟩) n cc (flat (ns.set k m) (l.set k a))]) [own 44 25 (some ⟨bl, 0, none⟩) n cc (flat (ns.set k m) (l.set k a))] ([] ++ F) (by kernel_rfl) (by kernel_rfl) rfl (by kernel_rfl) rfl (fun w hw => hw) (fun w fr_ hw => setT_calls (told := false) (n' := ({ m with ws := s.ws, wn := s.wn } : Node)) (m := m) hk_ hl_ (by decide) (by kernel_rfl) hw) ?_
    rintro _ _
    dsimp only [putE, List.append, HAppend.hAppend, Append.append]
    exact csl_end {}
   ·
    intro ch R F
    refine csl_go [(12, .bool false)] [] ?_
    refine Rg.mv 13 12 rfl ?_
    exact csl_end {}
   ·
    intro ch R F
    refine csl_go [(13, .bool false)] [] ?_
    refine Rg.pg 9 false 14 (.fieldAddr 59 (.tmp 0) 10) (pv_fieldAddr rfl (n := 11) (by kernel_rfl)) ?_
    exact csl_end {}
   ·
    intro ch R F
    refine csl_go [(13, .bool false), (14, .pointer (some ⟨b8, 0 + 11, none⟩))] [blk b8 (.cells (s.cells) 59 (0, 0))] ?_
    refine Rg.pg 9 false 15 (.load 57 (.tmp 14)) (v := .int .u32 s.wh) (pv_load_blk 0 rfl rfl (by kernel_rfl) rfl) ?_
    exact csl_end {}
   ·
    intro ch R F
    refine csl_go [(13, .bool false), (15, .int .u32 s.wh)] [] ?_
    refine Rg.pg 9 false 16 (.binOp .eql 57 (.tmp 15) (.const (.int .u32 1)) 57) (pv_eql rfl rfl) ?_
    exact csl_end {}
   ·
    intro ch R F
    refine csl_go [(13, .bool false)] [blk b18 (.cells #[.pointer (some ⟨bl, 0 + k * 25, none⟩)] 147 (0, 0))] ?_
    refine Rg.pg 9 false 17 (.load 147 (.tmp 1)) (v := .pointer (some ⟨bl, 0 + k * 25, none⟩)) (pv_load_blk 0 rfl rfl (by kernel_rfl) rfl) ?_
    exact csl_end {}
   ·
    intro ch R F
    refine csl_go [(13, .bool false), (17, .pointer (some ⟨bl, 0 + k * 25, none⟩))] [] ?_
    refine Rg.pg 9 false 18 (.nilCheck (.tmp 17)) (pv_nilCheck rfl) ?_
    exact csl_end {}
   ·
    intro ch R F
    refine csl_go [(13, .bool false), (18, .pointer (some ⟨bl, 0 + k * 25, none⟩))] [] ?_
    refine Rg.pg 9 false 19 (.fieldAddr 44 (.tmp 18) 7) (pv_fieldAddr rfl (n := 8) (by kernel_rfl)) ?_
    exact csl_end {}
   ·
    intro ch R F
    refine csl_go [(13, .bool false)] [] ?_
    refine Rg.pg 9 false 20 (.fieldAddr 61 (.tmp 2) 0) (pv_fieldAddr rfl (n := 0) (by kernel_rfl)) ?_
    exact csl_end {}
   ·
    intro ch R F
    refine csl_go [(13, .bool false), (20, .pointer (some ⟨b9, 0 + 0, none⟩))] [blk b9 (.cells #[.int .u32 nows, .int .u32 nown, .int .u8 bt0, .int .u8 bt1, .int .u8 bt2, .int .u8 bt3, .int .u8 bt4, .int .u8 bt5, .int .u8 bt6, .int .u8 bt7] 61 (0, 0))] ?_
    refine Rg.pg 9 false 21 (.load 36 (.tmp 20)) (v := .agg #[.int .u32 nows, .int .u32 nown]) (pv_load_blk_agg 0 rfl rfl (vs := #[.int .u32 nows, .int .u32 nown]) (by kernel_rfl) (by kernel_rfl) (agg_rfl (by kernel_rfl))) ?_
    exact csl_end {}
   ·
    intro ch R F
    refine csl_go [(13, .bool false), (16, .bool (decide (s.wh = 1))), (19, .pointer (some ⟨bl, 0 + k * 25 + 8, none⟩)), (21, .agg #[.int .u32 nows, .int .u32 nown])] [own 44 25 (some ⟨bl, 0, none⟩) n cc (flat (ns.set k m) (l.set k a))] ?_
    refine rg_callM (T := Unit) (d := some 22) (f := 76) (fo := .func 76) (fs := #[]) (caps := #[]) (xs := #[.tmp 16, .tmp 19, .tmp 21]) (ts := #[4, 151, 36]) (g := some (9, false)) (v := fun _ => .bool (decide (s.wh = 1))) (L := fun _ => [own 44 25 (some ⟨bl, 0, none⟩) n cc (flat (ns.set k (cond (decide (s.wh = 1)) ({ m with ws := nows, wn := nown } : Node) m)) (l.set k a))]) [own 44 25 (some ⟨bl, 0, none⟩) n cc (flat (ns.set k m) (l.set k a))] ([] ++ F) (by kernel_rfl) (by kernel_rfl) rfl (by kernel_rfl) rfl (fun w hw => hw) (fun w fr_ hw => setT_calls (told := (decide (s.wh = 1))) (n' := ({ m with ws := nows, wn := nown } : Node)) (m := m) hk_ hl_ (by decide) (by kernel_rfl) hw) ?_
    rintro _ _
    dsimp only [putE, List.append, HAppend.hAppend, Append.append]
    exact csl_end {}
   ·
    intro ch R F
    refine csl_go [(13, .bool false), (22, .bool (decide (s.wh = 1)))] [] ?_
    refine Rg.p 23 (.pick (.tmp 13) (.const (.bool true)) (.tmp 22)) (pv_pick_f rfl rfl) ?_
    exact csl_end {}
   ·
    intro ch R F
    refine csl_go [(23, .bool (decide (s.wh = 1)))] [] ?_
    refine Rg.as 3 23 rfl ?_
    exact csl_end {}
  ·
   intro ch
   refine at_codeS [0, 1, 2, 3, 4] [(3, .bool (decide (s.wh = 1)))] [blk b8 (.cells (s.cells) 59 (0, 0)), blk b18 (.cells #[.pointer (some ⟨bl, 0 + k * 25, none⟩)] 147 (0, 0)), blk b9 (.cells #[.int .u32 nows, .int .u32 nown, .int .u8 bt0, .int .u8 bt1, .int .u8 bt2, .int .u8 bt3, .int .u8 bt4, .int .u8 bt5, .int .u8 bt6, .int .u8 bt7] 61 (0, 0)), fr, own 44 25 (some ⟨bl, 0, none⟩) n cc (flat (ns.set k (cond (decide (s.wh = 1)) ({ m with ws := nows, wn := nown } : Node) m)) (l.set k a))] (.cons (by kernel_rfl) (.nil _)) (by kernel_rfl) (by decide) (fun _ _ h => h) ?_
   refine Ev.rt ?_
   refine At.via (Q := Q) hQ ?_
   refine At.ret1 rfl rfl rfl ?_
   exact fun w hw => ⟨(), trivial, (by rw [hb_]; rfl), by unfold deed6; rw [hb_]; exact hw.pick [0, 1, 2, 4, 3] (by decide)⟩

end Go.Proofs.Ytfhhggcdmgjbcaa.Sx
