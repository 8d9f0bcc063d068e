/-
  A part of the walk of the seat: laws of a small proof system, and contracts of functions, each proved. Conditions: as each theorem says.
-/
import Derived.Test.YtfhhggcdmgjbcaaProg
import Derived.Test.YtfhhggcdmgjbcaaT27
import Derived.Test.YtfhhggcdmgjbcaaT23G
namespace Go.Proofs.Ytfhhggcdmgjbcaa.Sx
open Go Go.RowKit Go.Proofs

def told (s : SetD) : Nat → Bool
  | 0 => s.hm
  | 1 => s.hu
  | 2 => s.hg
  | 3 => s.hs
  | 4 => decide (s.rh = 2) || decide (s.rh = 1)
  | _ => decide (s.wh = 2) || decide (s.wh = 1)
def deedQ (s : SetD) (a b : Int) : Nat → Node → Node
  | 0 => deed1 s
  | 1 => deed2 s
  | 2 => deed3 s
  | 3 => deed4 s a b
  | 4 => deed5 s a b
  | _ => deed6 s a b
def setN (s : SetD) (a b : Int) (n : Node) : Nat → Node
  | 0 => n
  | q + 1 => cond (told s q) ({ deedQ s a b q (setN s a b n q) with ts := a, tn := b } : Node) (deedQ s a b q (setN s a b n q))
theorem deed1_same (s : SetD) (n : Node) : (deed1 s n).data = n.data ∧ (deed1 s n).list = n.list := by unfold deed1; cases s.hm <;> exact ⟨rfl, rfl⟩
theorem deed2_same (s : SetD) (n : Node) : (deed2 s n).data = n.data ∧ (deed2 s n).list = n.list := by unfold deed2; cases s.hu <;> exact ⟨rfl, rfl⟩
theorem deed3_same (s : SetD) (n : Node) : (deed3 s n).data = n.data ∧ (deed3 s n).list = n.list := by unfold deed3; cases s.hg <;> exact ⟨rfl, rfl⟩
theorem deed5_same (s : SetD) (a b : Int) (n : Node) : (deed5 s a b n).data = n.data ∧ (deed5 s a b n).list = n.list := by unfold deed5; cases decide (s.rh = 2) <;> cases decide (s.rh = 1) <;> exact ⟨rfl, rfl⟩
theorem deed6_same (s : SetD) (a b : Int) (n : Node) : (deed6 s a b n).data = n.data ∧ (deed6 s a b n).list = n.list := by unfold deed6; cases decide (s.wh = 2) <;> cases decide (s.wh = 1) <;> exact ⟨rfl, rfl⟩
noncomputable def setE (ns : List Node) (n : Int) (c : CredD) (s : SetD) (a b : Int) : Int :=
  cond (!thereS ns n) 70 <| cond (!decide (formS ns n c s a b (ownsS ns n c) = 0)) (formS ns n c s a b (ownsS ns n c)) <| cond (!decide (ownerS ns n c s a b (ownsS ns n c) = 0)) (ownerS ns n c s a b (ownsS ns n c)) <|
  cond (!decide (sizeSt ns n c s a b (ownsS ns n c) = 0)) (sizeSt ns n c s a b (ownsS ns n c)) <| cond (!decide (stampsS ns n c s a b (ownsS ns n c) = 0)) (stampsS ns n c s a b (ownsS ns n c)) 0
noncomputable def setNs (ns : List Node) (n : Int) (c : CredD) (s : SetD) (a b : Int) : List Node := cond (decide (setE ns n c s a b = 0)) (ns.set n.toNat (setN s a b (nd ns n.toNat) 6)) []
noncomputable def setG (ns : List Node) (n : Int) (c : CredD) (s : SetD) (a b gen : Int) : Int := cond (decide (setE ns n c s a b = 0)) gen 0
theorem setE_bad {ns : List Node} {n : Int} {c : CredD} {s : SetD} {a b gen e : Int} (h : setE ns n c s a b = e) (he : e ≠ 0) : setNs ns n c s a b = [] ∧ setG ns n c s a b gen = 0 := by
  unfold setNs setG
  rw [decide_eq_false (by rw [h]; exact he)]
  exact ⟨rfl, rfl⟩
theorem setE_ok {ns : List Node} {n : Int} {c : CredD} {s : SetD} {a b gen : Int} (h : setE ns n c s a b = 0) : setNs ns n c s a b = ns.set n.toNat (setN s a b (nd ns n.toNat) 6) ∧ setG ns n c s a b gen = gen := by
  unfold setNs setG
  rw [decide_eq_true h]
  exact ⟨rfl, rfl⟩
theorem sizeSt_ok {ns : List Node} {n : Int} {c : CredD} {s : SetD} {a b : Int} {o : Bool} (h : sizeSt ns n c s a b o = 0) : s.size ≤ 65536 ∨ s.hs = false := by
  unfold sizeSt at h
  cases hs : s.hs with
  | false => exact .inr rfl
  | true =>
    rw [hs] at h
    simp only [Bool.not_true, cond_false] at h
    left
    cases h1 : decide ((nd ns n.toNat).kind = 2) with
    | true => rw [h1] at h; simp at h
    | false =>
      cases h2 : decide ((nd ns n.toNat).kind = 5) with
      | true => rw [h1, h2] at h; simp at h
      | false =>
        cases h3 : decide (65536 < s.size) with
        | true => rw [h1, h2, h3] at h; simp at h
        | false => have := of_decide_eq_false h3; omega

set_option maxHeartbeats 8000000 in
theorem Set_calls {n nows nown bt0 bt1 bt2 bt3 bt4 bt5 bt6 bt7 : Int} {s : SetD} {p : Option Addr} {ns : List Node} {al : List Loc} {cap : Nat} {gen : Int} {w : World} (hT : NodesAt (Low w) w p ns al) (hW : NodesWf ns) {pg : Option Addr} {c : CredD} {cg : Nat} (hG : NumsAt (Low w) w pg c.groups) (hgl : c.groups.length ≤ 16777216) (hs0_ : 0 ≤ s.size) :
  Calls Try.prog 24 #[.agg #[.slice p ns.length cap, .int .u32 gen], .int .i64 n, .agg #[.int .u32 c.user, .int .u32 c.group, .slice pg c.groups.length cg], .agg (s.cells), .agg #[.int .u32 nows, .int .u32 nown, .int .u8 bt0, .int .u8 bt1, .int .u8 bt2, .int .u8 bt3, .int .u8 bt4, .int .u8 bt5, .int .u8 bt6, .int .u8 bt7]] w (RetN w (fun _ : TL => True) (fun x => .tuple #[.agg #[.slice x.p (setNs ns n c s nows nown).length x.c, .int .u32 (setG ns n c s nows nown gen)], .int .u32 (setE ns n c s nows nown)]) (fun x => [own 44 25 x.p (setNs ns n c s nows nown).length x.d (flat (setNs ns n c s nows nown) x.l), dataI none x.G (setNs ns n c s nows nown) x.l])) := by
 refine calls_ofQ (args := [_, _, _, _, _]) [base w (Low w)] Try.func24 (by kernel_rfl) (by kernel_rfl) (Heap.start w) ?_
 intro Q hQ
 have hlen := hW.len
 refine Ev.sr 6 ?_
 refine Rg.bx 5 25 (.tmp 0) rfl fun b1 => ?_
 refine Rg.bx 7 56 (.tmp 2) rfl fun b2 => ?_
 refine Rg.bx 8 59 (.tmp 3) rfl fun b3 => ?_
 refine Rg.bx 9 61 (.tmp 4) rfl fun b4 => ?_
 refine Rg.al 10 25 (.agg #[.slice none 0 0, .int .u32 0]) fun b5 => ?_
 refine Rg.ac 11 (.int .u32 0) ?_
 refine Rg.nx (fun _ _ h => h) [11,10,9,8,7,5,1] rfl ?_
 refine Ev.sq ?_
 refine Ev.sr 9 ?_
 refine Rg.p 23 (.load 25 (.tmp 5)) (v := .agg #[.slice p ns.length cap, .int .u32 gen]) (pv_load_blk_whole 4 rfl rfl (by kernel_rfl) (by kernel_rfl)) ?_
 refine Rg.mv 24 1 rfl ?_
 refine Rg.cl (some 25) 18 #[.tmp 23, .tmp 24] #[25, 3] (v := .tuple #[.agg (attrsS ns n), .bool (thereS ns n)]) rfl (fun w hw => Attrs_calls ((hT).keep (hw.at_ 5 rfl) (fun k hk => hw.lt 5 rfl hk)) hW) ?_
 refine Rg.mv 22 25 rfl ?_
 refine Rg.ex 26 22 0 rfl rfl ?_
 refine Rg.ex 27 22 1 rfl rfl ?_
 refine Rg.al 12 38 (.agg #[.int .u32 0, .int .u32 0, .int .u32 0, .int .u32 0, .int .u32 0, .int .u64 0, .int .u64 0, .int .u64 0, .int .u32 0, .int .u32 0, .int .u32 0, .int .u32 0, .int .u32 0, .int .u32 0]) fun b6 => ?_
 refine rg_store (t := 38) (x := .tmp 12) (y := .tmp 26) (g := none) (cs' := (attrsS ns n)) 0 (by kernel_rfl) (by kernel_rfl) rfl rfl rfl (by show szT Try.prog 38 = some ((attrsS ns n)).size; rw [attrs_size]; kernel_rfl) (by show 0 + ((attrsS ns n)).size ≤ _; rw [attrs_size]; decide) (attrs_one _ _) (attrs_put _ _ _ rfl) ?_
 refine Rg.as 13 27 rfl ?_
 refine Rg.nx (fun _ _ h => h) [13,11,10,9,8,7,5,1] rfl ?_
 refine Ev.sr 2 ?_
 refine Rg.mv 28 13 rfl ?_
 refine Rg.p 29 (.unOp .not 4 (.tmp 28)) (pv_not (b := thereS ns n) rfl) ?_
 refine Rg.nx (fun _ _ h => h) [29,11,10,9,8,7,5,1] rfl ?_
 refine Ev.cd 29 rfl (fun h1 => ?_) (fun h1 => ?_)
 ·
  have h2 := not_t h1
  refine Ev.sr 3 ?_
  refine Rg.p 30 (.build 25 #[]) (v := .agg #[.slice none 0 0, .int .u32 0]) (pv_build (parts := []) (vs := []) (fs := [(0, 1), (1, 1)]) (zv := .agg #[.slice none 0 0, .int .u32 0]) (cs := #[.slice none 0 0, .int .u32 0]) rfl (by kernel_rfl) (by kernel_rfl) (by kernel_rfl)) ?_
  refine Rg.st 25 10 (.tmp 30) 1 #[.slice none 0 0, .int .u32 0] rfl rfl rfl ?_
  refine Rg.ac 11 (.int .u32 70) ?_
  refine Rg.nx (fun _ _ h => h) [11,10,9,8,7,5,1] rfl ?_
  refine Ev.rt ?_
  refine At.via (Q := Q) hQ ?_
  refine At.retCell2 rfl rfl (reads_cellA 1 rfl rfl (by kernel_rfl) (by kernel_rfl)) (reads_tmp rfl) ?_
  have he_ : setE ns n c s nows nown = 70 := (by unfold setE; rw [h1]; rfl)
  have hb_ := setE_bad (gen := gen) he_ (by decide)
  exact fun w hw => ⟨⟨none, 0, 0, [], fun _ => False⟩, trivial, (by rw [hb_.1, hb_.2, he_]; rfl), (by rw [hb_.1]; exact ((hw.dataNil).ownNil 44 25).pick [0, 1, 8] (by decide))⟩
 ·
  have h3 := not_f h1
  have ⟨h4, h5, h6⟩ := thereS_t h3
  have hth_ : thereS ns n = true := by simpa using h1
  have hp1_ := thereS_t hth_
  have hp2_ := hp1_.1
  have hp3_ := hp1_.2.1
  obtain ⟨k, rfl⟩ : ∃ k : Nat, n = (k : Int) := ⟨n.toNat, by omega⟩
  have hk_ : k < ns.length := by omega
  refine Ev.sk ?_
  refine At.nx (fun _ _ h => h) [11,10,9,8,7,5,1] rfl ?_
  refine Ev.sq ?_
  refine Ev.ke [11,10,9,8,7,5,1] rfl ?_
  refine ev_csl (n := 13) (E := [(1, .int .i64 (k : Int)), (5, .pointer (some ⟨b1, 0, none⟩)), (7, .pointer (some ⟨b2, 0, none⟩)), (8, .pointer (some ⟨b3, 0, none⟩)), (9, .pointer (some ⟨b4, 0, none⟩)), (10, .pointer (some ⟨b5, 0, none⟩)), (11, .int .u32 0)]) ⟨13, 9, [[0], [1], [2], [3], [4], [4, 5], [6], [7], [8], [6, 7, 8, 9], [0, 1, 2, 3, 4, 5, 6, 7, 8, 9, 10], [11], [0, 1, 2, 3, 4, 5, 6, 7, 8, 9, 10, 11, 12]], [[], [], [], [], [], [4], [], [], [], [6, 7, 8], [0, 1, 2, 3, 5, 9], [], [11, 10]], [none, none, none, none, none, none, none, some 11, some 12], [none, none, none, none, none, none, none, some 12, none], [[5], [], [4], [3], [], [2], [5], [], [4], [6], [], [], []]⟩ (fun ch j => ([.agg #[.slice p ns.length cap, .int .u32 gen], .int .i64 (k : Int), .agg #[.int .u32 c.user, .int .u32 c.group, .slice pg c.groups.length cg], .agg (s.cells), .pointer (some ⟨b4, 0 + 0, none⟩), .agg #[.int .u32 nows, .int .u32 nown], .agg #[.slice p ns.length cap, .int .u32 gen], .int .i64 (k : Int), .agg #[.int .u32 c.user, .int .u32 c.group, .slice pg c.groups.length cg], .bool (ownsS ns (k : Int) c), .agg #[.slice p ns.length cap, .int .u32 gen, .int .i64 (k : Int), .int .u32 c.user, .int .u32 c.group, .slice pg c.groups.length cg, .bool s.hm, .int .u32 s.mode, .bool s.hu, .int .u32 s.user, .bool s.hg, .int .u32 s.group, .bool s.hs, .int .u64 s.size, .int .u32 s.rh, .int .u32 s.rs, .int .u32 s.rn, .int .u32 s.wh, .int .u32 s.ws, .int .u32 s.wn, .int .u32 nows, .int .u32 nown, .bool (ownsS ns (k : Int) c)], .pointer (some ⟨(ch 11).fd, 0, none⟩), undef] : List Value).getD j undef) (fun ch t => ([blk b6 (.cells (attrsS ns (k : Int)) 38 (0, 0)), blk b5 (.cells #[.slice none 0 0, .int .u32 0] 25 (0, 0)), blk b4 (.cells #[.int .u32 nows, .int .u32 nown, .int .u8 bt0, .int .u8 bt1, .int .u8 bt2, .int .u8 bt3, .int .u8 bt4, .int .u8 bt5, .int .u8 bt6, .int .u8 bt7] 61 (0, 0)), blk b3 (.cells (s.cells) 59 (0, 0)), blk b2 (.cells #[.int .u32 c.user, .int .u32 c.group, .slice pg c.groups.length cg] 56 (0, 0)), blk b1 (.cells #[.slice p ns.length cap, .int .u32 gen] 25 (0, 0)), base w (Low w), blk (ch 11).fd (.cells #[.slice none 0 0, .int .u32 0, .int .i64 0, .int .u32 0, .int .u32 0, .slice none 0 0, .bool false, .int .u32 0, .bool false, .int .u32 0, .bool false, .int .u32 0, .bool false, .int .u64 0, .int .u32 0, .int .u32 0, .int .u32 0, .int .u32 0, .int .u32 0, .int .u32 0, .int .u32 0, .int .u32 0, .bool false] 143 (0, 0)), blk (ch 11).fd (.cells #[.slice p ns.length cap, .int .u32 gen, .int .i64 (k : Int), .int .u32 c.user, .int .u32 c.group, .slice pg c.groups.length cg, .bool s.hm, .int .u32 s.mode, .bool s.hu, .int .u32 s.user, .bool s.hg, .int .u32 s.group, .bool s.hs, .int .u64 s.size, .int .u32 s.rh, .int .u32 s.rs, .int .u32 s.rn, .int .u32 s.wh, .int .u32 s.ws, .int .u32 s.wn, .int .u32 nows, .int .u32 nown, .bool (ownsS ns (k : Int) c)] 143 (0, 0))] : List Item).getD t noItem) (by kernel_rfl) (by kernel_rfl) (fun ch => by kernel_rfl) ?_ ?_
  ·
   refine all_lt_succ (all_lt_succ (all_lt_succ (all_lt_succ (all_lt_succ (all_lt_succ (all_lt_succ (all_lt_succ (all_lt_succ (all_lt_succ (all_lt_succ (all_lt_succ (all_lt_succ all_lt_zero ?_) ?_) ?_) ?_) ?_) ?_) ?_) ?_) ?_) ?_) ?_) ?_) ?_
   ·
    intro ch R F
    refine csl_go [] [blk b1 (.cells #[.slice p ns.length cap, .int .u32 gen] 25 (0, 0))] ?_
    refine Rg.p 31 (.load 25 (.tmp 5)) (v := .agg #[.slice p ns.length cap, .int .u32 gen]) (pv_load_blk_whole 0 rfl rfl (by kernel_rfl) (by kernel_rfl)) ?_
    exact csl_end {}
   ·
    intro ch R F
    refine csl_go [] [] ?_
    refine Rg.mv 32 1 rfl ?_
    exact csl_end {}
   ·
    intro ch R F
    refine csl_go [] [blk b2 (.cells #[.int .u32 c.user, .int .u32 c.group, .slice pg c.groups.length cg] 56 (0, 0))] ?_
    refine Rg.p 33 (.load 56 (.tmp 7)) (v := .agg #[.int .u32 c.user, .int .u32 c.group, .slice pg c.groups.length cg]) (pv_load_blk_whole 0 rfl rfl (by kernel_rfl) (by kernel_rfl)) ?_
    exact csl_end {}
   ·
    intro ch R F
    refine csl_go [] [blk b3 (.cells (s.cells) 59 (0, 0))] ?_
    refine Rg.p 34 (.load 59 (.tmp 8)) (v := .agg (s.cells)) (pv_load_blk_whole 0 rfl rfl (by kernel_rfl) (by kernel_rfl)) ?_
    exact csl_end {}
   ·
    intro ch R F
    refine csl_go [] [] ?_
    refine Rg.fa 35 61 9 0 0 rfl ?_
    exact csl_end {}
   ·
    intro ch R F
    refine csl_go [(35, .pointer (some ⟨b4, 0 + 0, none⟩))] [blk b4 (.cells #[.int .u32 nows, .int .u32 nown, .int .u8 bt0, .int .u8 bt1, .int .u8 bt2, .int .u8 bt3, .int .u8 bt4, .int .u8 bt5, .int .u8 bt6, .int .u8 bt7] 61 (0, 0))] ?_
    refine Rg.p 36 (.load 36 (.tmp 35)) (v := .agg #[.int .u32 nows, .int .u32 nown]) (pv_load_blk_agg 0 rfl rfl (vs := #[.int .u32 nows, .int .u32 nown]) (by kernel_rfl) (by kernel_rfl) (agg_rfl (by kernel_rfl))) ?_
    exact csl_end {}
   ·
    intro ch R F
    refine csl_go [] [blk b1 (.cells #[.slice p ns.length cap, .int .u32 gen] 25 (0, 0))] ?_
    refine Rg.p 37 (.load 25 (.tmp 5)) (v := .agg #[.slice p ns.length cap, .int .u32 gen]) (pv_load_blk_whole 0 rfl rfl (by kernel_rfl) (by kernel_rfl)) ?_
    exact csl_end {}
   ·
    intro ch R F
    refine csl_go [] [] ?_
    refine Rg.mv 38 1 rfl ?_
    exact csl_end {}
   ·
    intro ch R F
    refine csl_go [] [blk b2 (.cells #[.int .u32 c.user, .int .u32 c.group, .slice pg c.groups.length cg] 56 (0, 0))] ?_
    refine Rg.p 39 (.load 56 (.tmp 7)) (v := .agg #[.int .u32 c.user, .int .u32 c.group, .slice pg c.groups.length cg]) (pv_load_blk_whole 0 rfl rfl (by kernel_rfl) (by kernel_rfl)) ?_
    exact csl_end {}
   ·
    intro ch R F
    refine csl_go [(37, .agg #[.slice p ns.length cap, .int .u32 gen]), (38, .int .i64 (k : Int)), (39, .agg #[.int .u32 c.user, .int .u32 c.group, .slice pg c.groups.length cg])] [base w (Low w)] ?_
    refine Rg.cl (some 40) 40 #[.tmp 37, .tmp 38, .tmp 39] #[25, 3, 56] (v := .bool (ownsS ns (k : Int) c)) rfl (fun w hw => ownsS_calls ((hT).keep (hw.at_ 0 rfl) (fun k hk => hw.lt 0 rfl hk)) hW (RowsAt.keep hG (hw.at_ 0 rfl) (fun k hk => hw.lt 0 rfl hk)) hgl) ?_
    exact csl_end {}
   ·
    intro ch R F
    refine csl_go [(31, .agg #[.slice p ns.length cap, .int .u32 gen]), (32, .int .i64 (k : Int)), (33, .agg #[.int .u32 c.user, .int .u32 c.group, .slice pg c.groups.length cg]), (34, .agg (s.cells)), (36, .agg #[.int .u32 nows, .int .u32 nown]), (40, .bool (ownsS ns (k : Int) c))] [] ?_
    refine Rg.p 41 (.build 143 #[(0, .tmp 31), (1, .tmp 32), (2, .tmp 33), (3, .tmp 34), (4, .tmp 36), (5, .tmp 40)]) (v := .agg #[.slice p ns.length cap, .int .u32 gen, .int .i64 (k : Int), .int .u32 c.user, .int .u32 c.group, .slice pg c.groups.length cg, .bool s.hm, .int .u32 s.mode, .bool s.hu, .int .u32 s.user, .bool s.hg, .int .u32 s.group, .bool s.hs, .int .u64 s.size, .int .u32 s.rh, .int .u32 s.rs, .int .u32 s.rn, .int .u32 s.wh, .int .u32 s.ws, .int .u32 s.wn, .int .u32 nows, .int .u32 nown, .bool (ownsS ns (k : Int) c)]) (pv_build (parts := [(0, .tmp 31), (1, .tmp 32), (2, .tmp 33), (3, .tmp 34), (4, .tmp 36), (5, .tmp 40)]) (vs := [.agg #[.slice p ns.length cap, .int .u32 gen], .int .i64 (k : Int), .agg #[.int .u32 c.user, .int .u32 c.group, .slice pg c.groups.length cg], .agg (s.cells), .agg #[.int .u32 nows, .int .u32 nown], .bool (ownsS ns (k : Int) c)]) (fs := [(0, 2), (2, 1), (3, 3), (6, 14), (20, 2), (22, 1)]) (zv := .agg #[.slice none 0 0, .int .u32 0, .int .i64 0, .int .u32 0, .int .u32 0, .slice none 0 0, .bool false, .int .u32 0, .bool false, .int .u32 0, .bool false, .int .u32 0, .bool false, .int .u64 0, .int .u32 0, .int .u32 0, .int .u32 0, .int .u32 0, .int .u32 0, .int .u32 0, .int .u32 0, .int .u32 0, .bool false]) (cs := #[.slice p ns.length cap, .int .u32 gen, .int .i64 (k : Int), .int .u32 c.user, .int .u32 c.group, .slice pg c.groups.length cg, .bool s.hm, .int .u32 s.mode, .bool s.hu, .int .u32 s.user, .bool s.hg, .int .u32 s.group, .bool s.hs, .int .u64 s.size, .int .u32 s.rh, .int .u32 s.rs, .int .u32 s.rn, .int .u32 s.wh, .int .u32 s.ws, .int .u32 s.wn, .int .u32 nows, .int .u32 nown, .bool (ownsS ns (k : Int) c)]) rfl (by kernel_rfl) (by kernel_rfl) (by kernel_rfl)) ?_
    exact csl_end {}
   ·
    intro ch R F
    refine csl_go [] [] ?_
    refine Rg.al 14 143 (.agg #[.slice none 0 0, .int .u32 0, .int .i64 0, .int .u32 0, .int .u32 0, .slice none 0 0, .bool false, .int .u32 0, .bool false, .int .u32 0, .bool false, .int .u32 0, .bool false, .int .u64 0, .int .u32 0, .int .u32 0, .int .u32 0, .int .u32 0, .int .u32 0, .int .u32 0, .int .u32 0, .int .u32 0, .bool false]) fun b7 => ?_
    exact csl_end {fd := b7}
   ·
    intro ch R F
    refine csl_go [(14, .pointer (some ⟨(ch 11).fd, 0, none⟩)), (41, .agg #[.slice p ns.length cap, .int .u32 gen, .int .i64 (k : Int), .int .u32 c.user, .int .u32 c.group, .slice pg c.groups.length cg, .bool s.hm, .int .u32 s.mode, .bool s.hu, .int .u32 s.user, .bool s.hg, .int .u32 s.group, .bool s.hs, .int .u64 s.size, .int .u32 s.rh, .int .u32 s.rs, .int .u32 s.rn, .int .u32 s.wh, .int .u32 s.ws, .int .u32 s.wn, .int .u32 nows, .int .u32 nown, .bool (ownsS ns (k : Int) c)])] [blk (ch 11).fd (.cells #[.slice none 0 0, .int .u32 0, .int .i64 0, .int .u32 0, .int .u32 0, .slice none 0 0, .bool false, .int .u32 0, .bool false, .int .u32 0, .bool false, .int .u32 0, .bool false, .int .u64 0, .int .u32 0, .int .u32 0, .int .u32 0, .int .u32 0, .int .u32 0, .int .u32 0, .int .u32 0, .int .u32 0, .bool false] 143 (0, 0))] ?_
    refine Rg.st 143 14 (.tmp 41) 0 #[.slice p ns.length cap, .int .u32 gen, .int .i64 (k : Int), .int .u32 c.user, .int .u32 c.group, .slice pg c.groups.length cg, .bool s.hm, .int .u32 s.mode, .bool s.hu, .int .u32 s.user, .bool s.hg, .int .u32 s.group, .bool s.hs, .int .u64 s.size, .int .u32 s.rh, .int .u32 s.rs, .int .u32 s.rn, .int .u32 s.wh, .int .u32 s.ws, .int .u32 s.wn, .int .u32 nows, .int .u32 nown, .bool (ownsS ns (k : Int) c)] rfl rfl rfl ?_
    exact csl_end {}
  ·
   intro ch
   refine at_codeS [0, 1, 2, 3, 4, 5, 6, 7] [(1, .int .i64 (k : Int)), (5, .pointer (some ⟨b1, 0, none⟩)), (8, .pointer (some ⟨b3, 0, none⟩)), (9, .pointer (some ⟨b4, 0, none⟩)), (10, .pointer (some ⟨b5, 0, none⟩)), (11, .int .u32 0), (14, .pointer (some ⟨(ch 11).fd, 0, none⟩))] [blk b6 (.cells (attrsS ns (k : Int)) 38 (0, 0)), blk b5 (.cells #[.slice none 0 0, .int .u32 0] 25 (0, 0)), blk b4 (.cells #[.int .u32 nows, .int .u32 nown, .int .u8 bt0, .int .u8 bt1, .int .u8 bt2, .int .u8 bt3, .int .u8 bt4, .int .u8 bt5, .int .u8 bt6, .int .u8 bt7] 61 (0, 0)), blk b3 (.cells (s.cells) 59 (0, 0)), blk b2 (.cells #[.int .u32 c.user, .int .u32 c.group, .slice pg c.groups.length cg] 56 (0, 0)), blk b1 (.cells #[.slice p ns.length cap, .int .u32 gen] 25 (0, 0)), base w (Low w), blk (ch 11).fd (.cells #[.slice p ns.length cap, .int .u32 gen, .int .i64 (k : Int), .int .u32 c.user, .int .u32 c.group, .slice pg c.groups.length cg, .bool s.hm, .int .u32 s.mode, .bool s.hu, .int .u32 s.user, .bool s.hg, .int .u32 s.group, .bool s.hs, .int .u64 s.size, .int .u32 s.rh, .int .u32 s.rs, .int .u32 s.rn, .int .u32 s.wh, .int .u32 s.ws, .int .u32 s.wn, .int .u32 nows, .int .u32 nown, .bool (ownsS ns (k : Int) c)] 143 (0, 0))] (.cons (by kernel_rfl) (.cons (by kernel_rfl) (.cons (by kernel_rfl) (.cons (by kernel_rfl) (.cons (by kernel_rfl) (.cons (by kernel_rfl) (.cons (by kernel_rfl) (.nil _)))))))) (by kernel_rfl) (by decide) (fun _ _ h => h) ?_
   obtain ⟨b7, e_b7⟩ : ∃ x_, (ch 11).fd = x_ := ⟨_, rfl⟩
   rw [e_b7]
   refine Ev.sq ?_
   refine Ev.sr 10 ?_
   refine Rg.p 42 (.load 143 (.tmp 14)) (v := .agg #[.slice p ns.length cap, .int .u32 gen, .int .i64 (k : Int), .int .u32 c.user, .int .u32 c.group, .slice pg c.groups.length cg, .bool s.hm, .int .u32 s.mode, .bool s.hu, .int .u32 s.user, .bool s.hg, .int .u32 s.group, .bool s.hs, .int .u64 s.size, .int .u32 s.rh, .int .u32 s.rs, .int .u32 s.rn, .int .u32 s.wh, .int .u32 s.ws, .int .u32 s.wn, .int .u32 nows, .int .u32 nown, .bool (ownsS ns (k : Int) c)]) (pv_load_blk_whole 7 rfl rfl (by kernel_rfl) (by kernel_rfl)) ?_
   refine Rg.p 43 (.makeFunc (.func 66) #[.tmp 42] #[]) (v := .func (.func 66) #[.agg #[.slice p ns.length cap, .int .u32 gen, .int .i64 (k : Int), .int .u32 c.user, .int .u32 c.group, .slice pg c.groups.length cg, .bool s.hm, .int .u32 s.mode, .bool s.hu, .int .u32 s.user, .bool s.hg, .int .u32 s.group, .bool s.hs, .int .u64 s.size, .int .u32 s.rh, .int .u32 s.rs, .int .u32 s.rn, .int .u32 s.wh, .int .u32 s.ws, .int .u32 s.wn, .int .u32 nows, .int .u32 nown, .bool (ownsS ns (k : Int) c)]] #[]) (pv_makeFuncB (ys := [.tmp 42]) (xs := []) rfl rfl) ?_
   refine Rg.p 44 (.load 143 (.tmp 14)) (v := .agg #[.slice p ns.length cap, .int .u32 gen, .int .i64 (k : Int), .int .u32 c.user, .int .u32 c.group, .slice pg c.groups.length cg, .bool s.hm, .int .u32 s.mode, .bool s.hu, .int .u32 s.user, .bool s.hg, .int .u32 s.group, .bool s.hs, .int .u64 s.size, .int .u32 s.rh, .int .u32 s.rs, .int .u32 s.rn, .int .u32 s.wh, .int .u32 s.ws, .int .u32 s.wn, .int .u32 nows, .int .u32 nown, .bool (ownsS ns (k : Int) c)]) (pv_load_blk_whole 7 rfl rfl (by kernel_rfl) (by kernel_rfl)) ?_
   refine Rg.p 45 (.makeFunc (.func 67) #[.tmp 44] #[]) (v := .func (.func 67) #[.agg #[.slice p ns.length cap, .int .u32 gen, .int .i64 (k : Int), .int .u32 c.user, .int .u32 c.group, .slice pg c.groups.length cg, .bool s.hm, .int .u32 s.mode, .bool s.hu, .int .u32 s.user, .bool s.hg, .int .u32 s.group, .bool s.hs, .int .u64 s.size, .int .u32 s.rh, .int .u32 s.rs, .int .u32 s.rn, .int .u32 s.wh, .int .u32 s.ws, .int .u32 s.wn, .int .u32 nows, .int .u32 nown, .bool (ownsS ns (k : Int) c)]] #[]) (pv_makeFuncB (ys := [.tmp 44]) (xs := []) rfl rfl) ?_
   refine Rg.p 46 (.load 143 (.tmp 14)) (v := .agg #[.slice p ns.length cap, .int .u32 gen, .int .i64 (k : Int), .int .u32 c.user, .int .u32 c.group, .slice pg c.groups.length cg, .bool s.hm, .int .u32 s.mode, .bool s.hu, .int .u32 s.user, .bool s.hg, .int .u32 s.group, .bool s.hs, .int .u64 s.size, .int .u32 s.rh, .int .u32 s.rs, .int .u32 s.rn, .int .u32 s.wh, .int .u32 s.ws, .int .u32 s.wn, .int .u32 nows, .int .u32 nown, .bool (ownsS ns (k : Int) c)]) (pv_load_blk_whole 7 rfl rfl (by kernel_rfl) (by kernel_rfl)) ?_
   refine Rg.p 47 (.makeFunc (.func 68) #[.tmp 46] #[]) (v := .func (.func 68) #[.agg #[.slice p ns.length cap, .int .u32 gen, .int .i64 (k : Int), .int .u32 c.user, .int .u32 c.group, .slice pg c.groups.length cg, .bool s.hm, .int .u32 s.mode, .bool s.hu, .int .u32 s.user, .bool s.hg, .int .u32 s.group, .bool s.hs, .int .u64 s.size, .int .u32 s.rh, .int .u32 s.rs, .int .u32 s.rn, .int .u32 s.wh, .int .u32 s.ws, .int .u32 s.wn, .int .u32 nows, .int .u32 nown, .bool (ownsS ns (k : Int) c)]] #[]) (pv_makeFuncB (ys := [.tmp 46]) (xs := []) rfl rfl) ?_
   refine Rg.p 48 (.load 143 (.tmp 14)) (v := .agg #[.slice p ns.length cap, .int .u32 gen, .int .i64 (k : Int), .int .u32 c.user, .int .u32 c.group, .slice pg c.groups.length cg, .bool s.hm, .int .u32 s.mode, .bool s.hu, .int .u32 s.user, .bool s.hg, .int .u32 s.group, .bool s.hs, .int .u64 s.size, .int .u32 s.rh, .int .u32 s.rs, .int .u32 s.rn, .int .u32 s.wh, .int .u32 s.ws, .int .u32 s.wn, .int .u32 nows, .int .u32 nown, .bool (ownsS ns (k : Int) c)]) (pv_load_blk_whole 7 rfl rfl (by kernel_rfl) (by kernel_rfl)) ?_
   refine Rg.p 49 (.makeFunc (.func 69) #[.tmp 48] #[]) (v := .func (.func 69) #[.agg #[.slice p ns.length cap, .int .u32 gen, .int .i64 (k : Int), .int .u32 c.user, .int .u32 c.group, .slice pg c.groups.length cg, .bool s.hm, .int .u32 s.mode, .bool s.hu, .int .u32 s.user, .bool s.hg, .int .u32 s.group, .bool s.hs, .int .u64 s.size, .int .u32 s.rh, .int .u32 s.rs, .int .u32 s.rn, .int .u32 s.wh, .int .u32 s.ws, .int .u32 s.wn, .int .u32 nows, .int .u32 nown, .bool (ownsS ns (k : Int) c)]] #[]) (pv_makeFuncB (ys := [.tmp 48]) (xs := []) rfl rfl) ?_
   refine Rg.p 50 (.build 145 #[(0, .tmp 43), (1, .tmp 45), (2, .tmp 47), (3, .tmp 49)]) (v := .agg #[.func (.func 66) #[.agg #[.slice p ns.length cap, .int .u32 gen, .int .i64 (k : Int), .int .u32 c.user, .int .u32 c.group, .slice pg c.groups.length cg, .bool s.hm, .int .u32 s.mode, .bool s.hu, .int .u32 s.user, .bool s.hg, .int .u32 s.group, .bool s.hs, .int .u64 s.size, .int .u32 s.rh, .int .u32 s.rs, .int .u32 s.rn, .int .u32 s.wh, .int .u32 s.ws, .int .u32 s.wn, .int .u32 nows, .int .u32 nown, .bool (ownsS ns (k : Int) c)]] #[], .func (.func 67) #[.agg #[.slice p ns.length cap, .int .u32 gen, .int .i64 (k : Int), .int .u32 c.user, .int .u32 c.group, .slice pg c.groups.length cg, .bool s.hm, .int .u32 s.mode, .bool s.hu, .int .u32 s.user, .bool s.hg, .int .u32 s.group, .bool s.hs, .int .u64 s.size, .int .u32 s.rh, .int .u32 s.rs, .int .u32 s.rn, .int .u32 s.wh, .int .u32 s.ws, .int .u32 s.wn, .int .u32 nows, .int .u32 nown, .bool (ownsS ns (k : Int) c)]] #[], .func (.func 68) #[.agg #[.slice p ns.length cap, .int .u32 gen, .int .i64 (k : Int), .int .u32 c.user, .int .u32 c.group, .slice pg c.groups.length cg, .bool s.hm, .int .u32 s.mode, .bool s.hu, .int .u32 s.user, .bool s.hg, .int .u32 s.group, .bool s.hs, .int .u64 s.size, .int .u32 s.rh, .int .u32 s.rs, .int .u32 s.rn, .int .u32 s.wh, .int .u32 s.ws, .int .u32 s.wn, .int .u32 nows, .int .u32 nown, .bool (ownsS ns (k : Int) c)]] #[], .func (.func 69) #[.agg #[.slice p ns.length cap, .int .u32 gen, .int .i64 (k : Int), .int .u32 c.user, .int .u32 c.group, .slice pg c.groups.length cg, .bool s.hm, .int .u32 s.mode, .bool s.hu, .int .u32 s.user, .bool s.hg, .int .u32 s.group, .bool s.hs, .int .u64 s.size, .int .u32 s.rh, .int .u32 s.rs, .int .u32 s.rn, .int .u32 s.wh, .int .u32 s.ws, .int .u32 s.wn, .int .u32 nows, .int .u32 nown, .bool (ownsS ns (k : Int) c)]] #[]]) (pv_buildArr (e := 144) (sz := 1) (n := 4) (parts := [(0, .tmp 43), (1, .tmp 45), (2, .tmp 47), (3, .tmp 49)]) (vs := [.func (.func 66) #[.agg #[.slice p ns.length cap, .int .u32 gen, .int .i64 (k : Int), .int .u32 c.user, .int .u32 c.group, .slice pg c.groups.length cg, .bool s.hm, .int .u32 s.mode, .bool s.hu, .int .u32 s.user, .bool s.hg, .int .u32 s.group, .bool s.hs, .int .u64 s.size, .int .u32 s.rh, .int .u32 s.rs, .int .u32 s.rn, .int .u32 s.wh, .int .u32 s.ws, .int .u32 s.wn, .int .u32 nows, .int .u32 nown, .bool (ownsS ns (k : Int) c)]] #[], .func (.func 67) #[.agg #[.slice p ns.length cap, .int .u32 gen, .int .i64 (k : Int), .int .u32 c.user, .int .u32 c.group, .slice pg c.groups.length cg, .bool s.hm, .int .u32 s.mode, .bool s.hu, .int .u32 s.user, .bool s.hg, .int .u32 s.group, .bool s.hs, .int .u64 s.size, .int .u32 s.rh, .int .u32 s.rs, .int .u32 s.rn, .int .u32 s.wh, .int .u32 s.ws, .int .u32 s.wn, .int .u32 nows, .int .u32 nown, .bool (ownsS ns (k : Int) c)]] #[], .func (.func 68) #[.agg #[.slice p ns.length cap, .int .u32 gen, .int .i64 (k : Int), .int .u32 c.user, .int .u32 c.group, .slice pg c.groups.length cg, .bool s.hm, .int .u32 s.mode, .bool s.hu, .int .u32 s.user, .bool s.hg, .int .u32 s.group, .bool s.hs, .int .u64 s.size, .int .u32 s.rh, .int .u32 s.rs, .int .u32 s.rn, .int .u32 s.wh, .int .u32 s.ws, .int .u32 s.wn, .int .u32 nows, .int .u32 nown, .bool (ownsS ns (k : Int) c)]] #[], .func (.func 69) #[.agg #[.slice p ns.length cap, .int .u32 gen, .int .i64 (k : Int), .int .u32 c.user, .int .u32 c.group, .slice pg c.groups.length cg, .bool s.hm, .int .u32 s.mode, .bool s.hu, .int .u32 s.user, .bool s.hg, .int .u32 s.group, .bool s.hs, .int .u64 s.size, .int .u32 s.rh, .int .u32 s.rs, .int .u32 s.rn, .int .u32 s.wh, .int .u32 s.ws, .int .u32 s.wn, .int .u32 nows, .int .u32 nown, .bool (ownsS ns (k : Int) c)]] #[]]) (zv := .agg #[.nilFunc, .nilFunc, .nilFunc, .nilFunc]) (cs := #[.func (.func 66) #[.agg #[.slice p ns.length cap, .int .u32 gen, .int .i64 (k : Int), .int .u32 c.user, .int .u32 c.group, .slice pg c.groups.length cg, .bool s.hm, .int .u32 s.mode, .bool s.hu, .int .u32 s.user, .bool s.hg, .int .u32 s.group, .bool s.hs, .int .u64 s.size, .int .u32 s.rh, .int .u32 s.rs, .int .u32 s.rn, .int .u32 s.wh, .int .u32 s.ws, .int .u32 s.wn, .int .u32 nows, .int .u32 nown, .bool (ownsS ns (k : Int) c)]] #[], .func (.func 67) #[.agg #[.slice p ns.length cap, .int .u32 gen, .int .i64 (k : Int), .int .u32 c.user, .int .u32 c.group, .slice pg c.groups.length cg, .bool s.hm, .int .u32 s.mode, .bool s.hu, .int .u32 s.user, .bool s.hg, .int .u32 s.group, .bool s.hs, .int .u64 s.size, .int .u32 s.rh, .int .u32 s.rs, .int .u32 s.rn, .int .u32 s.wh, .int .u32 s.ws, .int .u32 s.wn, .int .u32 nows, .int .u32 nown, .bool (ownsS ns (k : Int) c)]] #[], .func (.func 68) #[.agg #[.slice p ns.length cap, .int .u32 gen, .int .i64 (k : Int), .int .u32 c.user, .int .u32 c.group, .slice pg c.groups.length cg, .bool s.hm, .int .u32 s.mode, .bool s.hu, .int .u32 s.user, .bool s.hg, .int .u32 s.group, .bool s.hs, .int .u64 s.size, .int .u32 s.rh, .int .u32 s.rs, .int .u32 s.rn, .int .u32 s.wh, .int .u32 s.ws, .int .u32 s.wn, .int .u32 nows, .int .u32 nown, .bool (ownsS ns (k : Int) c)]] #[], .func (.func 69) #[.agg #[.slice p ns.length cap, .int .u32 gen, .int .i64 (k : Int), .int .u32 c.user, .int .u32 c.group, .slice pg c.groups.length cg, .bool s.hm, .int .u32 s.mode, .bool s.hu, .int .u32 s.user, .bool s.hg, .int .u32 s.group, .bool s.hs, .int .u64 s.size, .int .u32 s.rh, .int .u32 s.rs, .int .u32 s.rn, .int .u32 s.wh, .int .u32 s.ws, .int .u32 s.wn, .int .u32 nows, .int .u32 nown, .bool (ownsS ns (k : Int) c)]] #[]]) rfl (by kernel_rfl) (by kernel_rfl) (by kernel_rfl) (by kernel_rfl)) ?_
   refine Rg.mc 51 (.int .i64 0) ?_
   refine Rg.nx (fun _ _ h => h) [51,50,11,10,9,8,5,1] rfl ?_
   refine Ev.bk 0 ?_
   refine Ev.unroll 4 ?_
   refine Ev.sr 1 ?_
   refine Rg.p 52 (.binOp .lss 3 (.tmp 51) (.const (.int .i64 4)) 3) (pv_lss rfl rfl) ?_
   refine Rg.know 52 (b := decide (0 < 4)) (c := true) rfl (by decide) ?_
   refine Rg.nx (fun _ _ h => h) [52,51,50,11,10,9,8,5,1] rfl ?_
   refine Ev.sq ?_
   refine ev_cond_t (t := 52) (by kernel_rfl) rfl ?_
   refine Ev.sk ?_
   refine At.nx (fun _ _ h => h) [52,51,50,11,10,9,8,5,1] rfl ?_
   refine Ev.sq ?_
   refine Ev.bk 1 ?_
   refine Ev.sr 2 ?_
   refine Rg.p 53 (.index 145 (.tmp 50) (.tmp 51)) (v := .func (.func 66) #[.agg #[.slice p ns.length cap, .int .u32 gen, .int .i64 (k : Int), .int .u32 c.user, .int .u32 c.group, .slice pg c.groups.length cg, .bool s.hm, .int .u32 s.mode, .bool s.hu, .int .u32 s.user, .bool s.hg, .int .u32 s.group, .bool s.hs, .int .u64 s.size, .int .u32 s.rh, .int .u32 s.rs, .int .u32 s.rn, .int .u32 s.wh, .int .u32 s.ws, .int .u32 s.wn, .int .u32 nows, .int .u32 nown, .bool (ownsS ns (k : Int) c)]] #[]) (pv_index_one (e := 144) (n := 4) rfl rfl (by kernel_rfl) (by kernel_rfl) (by kernel_rfl) (by decide) (by decide) rfl) ?_
   refine Rg.as 16 53 rfl ?_
   refine Rg.nx (fun _ _ h => h) [53,52,51,50,16,11,10,9,8,5,1] rfl ?_
   refine Ev.sr 3 ?_
   refine Rg.mv 54 16 rfl ?_
   refine Rg.cb (some 55) 66 (.tmp 54) (v := .int .u32 (formS ns (k : Int) c s nows nown (ownsS ns (k : Int) c))) rfl (fun w hw => formS_calls ((hT).keep (hw.at_ 6 rfl) (fun k hk => hw.lt 6 rfl hk)) hW (RowsAt.keep hG (hw.at_ 6 rfl) (fun k hk => hw.lt 6 rfl hk)) hgl) ?_
   refine Rg.as 17 55 rfl ?_
   refine Rg.nx (fun _ _ h => h) [55,54,53,52,51,50,17,16,11,10,9,8,5,1] rfl ?_
   refine Ev.sr 2 ?_
   refine Rg.mv 56 17 rfl ?_
   refine Rg.p 57 (.binOp .neq 45 (.tmp 56) (.const (.int .u32 0)) 45) (pv_neq rfl rfl) ?_
   refine Rg.nx (fun _ _ h => h) [57,56,55,54,53,52,51,50,17,16,11,10,9,8,5,1] rfl ?_
   refine Ev.cd 57 rfl (fun h7 => ?_) (fun h7 => ?_)
   ·
    have h8 := of_decide_eq_false (not_t h7)
    refine Ev.sr 4 ?_
    refine Rg.p 58 (.build 25 #[]) (v := .agg #[.slice none 0 0, .int .u32 0]) (pv_build (parts := []) (vs := []) (fs := [(0, 1), (1, 1)]) (zv := .agg #[.slice none 0 0, .int .u32 0]) (cs := #[.slice none 0 0, .int .u32 0]) rfl (by kernel_rfl) (by kernel_rfl) (by kernel_rfl)) ?_
    refine Rg.mv 59 17 rfl ?_
    refine Rg.st 25 10 (.tmp 58) 1 #[.slice none 0 0, .int .u32 0] rfl rfl rfl ?_
    refine Rg.as 11 59 rfl ?_
    refine Rg.nx (fun _ _ h => h) [59,58,57,56,55,54,53,52,51,50,17,16,11,10,9,8,5,1] rfl ?_
    refine Ev.rt ?_
    refine At.via (Q := Q) hQ ?_
    refine At.retCell2 rfl rfl (reads_cellA 1 rfl rfl (by kernel_rfl) (by kernel_rfl)) (reads_tmp rfl) ?_
    have he_ : setE ns (k : Int) c s nows nown = formS ns (k : Int) c s nows nown (ownsS ns (k : Int) c) := (by unfold setE; rw [show (!thereS ns (k : Int)) = false from by rw [hth_]; rfl]; simp only [cond_true, cond_false, hth_, Bool.not_true, h7])
    have hb_ := setE_bad (gen := gen) he_ (of_decide_eq_false (not_t h7))
    exact fun w hw => ⟨⟨none, 0, 0, [], fun _ => False⟩, trivial, (by rw [hb_.1, hb_.2, he_]; rfl), (by rw [hb_.1]; exact ((hw.dataNil).ownNil 44 25).pick [0, 1, 8] (by decide))⟩
   ·
    have h9 := of_decide_eq_true (not_f h7)
    refine Ev.sk ?_
    refine At.nx (fun _ _ h => h) [57,56,55,54,53,52,51,50,17,16,11,10,9,8,5,1] rfl ?_
    refine Ev.rg 2 ?_
    refine Rg.p 60 (.binOp .add 3 (.tmp 51) (.const (.int .i64 1)) 3) (v := .int .i64 1) (pv_addL (1) rfl rfl (by decide) (by kernel_rfl)) ?_
    refine Rg.mv 51 60 rfl ?_
    refine Rg.fin rfl ?_
    refine At.again 3 (fun _ _ h => h) [51,50,11,10,9,8,5,1] rfl ?_
    refine Ev.sr 1 ?_
    refine Rg.p 52 (.binOp .lss 3 (.tmp 51) (.const (.int .i64 4)) 3) (pv_lss rfl rfl) ?_
    refine Rg.know 52 (b := decide (1 < 4)) (c := true) rfl (by decide) ?_
    refine Rg.nx (fun _ _ h => h) [52,51,50,11,10,9,8,5,1] rfl ?_
    refine Ev.sq ?_
    refine ev_cond_t (t := 52) (by kernel_rfl) rfl ?_
    refine Ev.sk ?_
    refine At.nx (fun _ _ h => h) [52,51,50,11,10,9,8,5,1] rfl ?_
    refine Ev.sq ?_
    refine Ev.bk 1 ?_
    refine Ev.sr 2 ?_
    refine Rg.p 53 (.index 145 (.tmp 50) (.tmp 51)) (v := .func (.func 67) #[.agg #[.slice p ns.length cap, .int .u32 gen, .int .i64 (k : Int), .int .u32 c.user, .int .u32 c.group, .slice pg c.groups.length cg, .bool s.hm, .int .u32 s.mode, .bool s.hu, .int .u32 s.user, .bool s.hg, .int .u32 s.group, .bool s.hs, .int .u64 s.size, .int .u32 s.rh, .int .u32 s.rs, .int .u32 s.rn, .int .u32 s.wh, .int .u32 s.ws, .int .u32 s.wn, .int .u32 nows, .int .u32 nown, .bool (ownsS ns (k : Int) c)]] #[]) (pv_index_one (e := 144) (n := 4) rfl rfl (by kernel_rfl) (by kernel_rfl) (by kernel_rfl) (by decide) (by decide) rfl) ?_
    refine Rg.as 16 53 rfl ?_
    refine Rg.nx (fun _ _ h => h) [53,52,51,50,16,11,10,9,8,5,1] rfl ?_
    refine Ev.sr 3 ?_
    refine Rg.mv 54 16 rfl ?_
    refine Rg.cb (some 55) 67 (.tmp 54) (v := .int .u32 (ownerS ns (k : Int) c s nows nown (ownsS ns (k : Int) c))) rfl (fun w hw => ownerS_calls ((hT).keep (hw.at_ 6 rfl) (fun k hk => hw.lt 6 rfl hk)) hW (RowsAt.keep hG (hw.at_ 6 rfl) (fun k hk => hw.lt 6 rfl hk)) hgl hth_) ?_
    refine Rg.as 17 55 rfl ?_
    refine Rg.nx (fun _ _ h => h) [55,54,53,52,51,50,17,16,11,10,9,8,5,1] rfl ?_
    refine Ev.sr 2 ?_
    refine Rg.mv 56 17 rfl ?_
    refine Rg.p 57 (.binOp .neq 45 (.tmp 56) (.const (.int .u32 0)) 45) (pv_neq rfl rfl) ?_
    refine Rg.nx (fun _ _ h => h) [57,56,55,54,53,52,51,50,17,16,11,10,9,8,5,1] rfl ?_
    refine Ev.cd 57 rfl (fun h10 => ?_) (fun h10 => ?_)
    ·
     have h11 := of_decide_eq_false (not_t h10)
     refine Ev.sr 4 ?_
     refine Rg.p 58 (.build 25 #[]) (v := .agg #[.slice none 0 0, .int .u32 0]) (pv_build (parts := []) (vs := []) (fs := [(0, 1), (1, 1)]) (zv := .agg #[.slice none 0 0, .int .u32 0]) (cs := #[.slice none 0 0, .int .u32 0]) rfl (by kernel_rfl) (by kernel_rfl) (by kernel_rfl)) ?_
     refine Rg.mv 59 17 rfl ?_
     refine Rg.st 25 10 (.tmp 58) 1 #[.slice none 0 0, .int .u32 0] rfl rfl rfl ?_
     refine Rg.as 11 59 rfl ?_
     refine Rg.nx (fun _ _ h => h) [59,58,57,56,55,54,53,52,51,50,17,16,11,10,9,8,5,1] rfl ?_
     refine Ev.rt ?_
     refine At.via (Q := Q) hQ ?_
     refine At.retCell2 rfl rfl (reads_cellA 1 rfl rfl (by kernel_rfl) (by kernel_rfl)) (reads_tmp rfl) ?_
     have he_ : setE ns (k : Int) c s nows nown = ownerS ns (k : Int) c s nows nown (ownsS ns (k : Int) c) := (by unfold setE; rw [show (!thereS ns (k : Int)) = false from by rw [hth_]; rfl]; simp only [cond_true, cond_false, hth_, Bool.not_true, h7, h10])
     have hb_ := setE_bad (gen := gen) he_ (of_decide_eq_false (not_t h10))
     exact fun w hw => ⟨⟨none, 0, 0, [], fun _ => False⟩, trivial, (by rw [hb_.1, hb_.2, he_]; rfl), (by rw [hb_.1]; exact ((hw.dataNil).ownNil 44 25).pick [0, 1, 8] (by decide))⟩
    ·
     have h12 := of_decide_eq_true (not_f h10)
     refine Ev.sk ?_
     refine At.nx (fun _ _ h => h) [57,56,55,54,53,52,51,50,17,16,11,10,9,8,5,1] rfl ?_
     refine Ev.rg 2 ?_
     refine Rg.p 60 (.binOp .add 3 (.tmp 51) (.const (.int .i64 1)) 3) (v := .int .i64 2) (pv_addL (2) rfl rfl (by decide) (by kernel_rfl)) ?_
     refine Rg.mv 51 60 rfl ?_
     refine Rg.fin rfl ?_
     refine At.again 2 (fun _ _ h => h) [51,50,11,10,9,8,5,1] rfl ?_
     refine Ev.sr 1 ?_
     refine Rg.p 52 (.binOp .lss 3 (.tmp 51) (.const (.int .i64 4)) 3) (pv_lss rfl rfl) ?_
     refine Rg.know 52 (b := decide (2 < 4)) (c := true) rfl (by decide) ?_
     refine Rg.nx (fun _ _ h => h) [52,51,50,11,10,9,8,5,1] rfl ?_
     refine Ev.sq ?_
     refine ev_cond_t (t := 52) (by kernel_rfl) rfl ?_
     refine Ev.sk ?_
     refine At.nx (fun _ _ h => h) [52,51,50,11,10,9,8,5,1] rfl ?_
     refine Ev.sq ?_
     refine Ev.bk 1 ?_
     refine Ev.sr 2 ?_
     refine Rg.p 53 (.index 145 (.tmp 50) (.tmp 51)) (v := .func (.func 68) #[.agg #[.slice p ns.length cap, .int .u32 gen, .int .i64 (k : Int), .int .u32 c.user, .int .u32 c.group, .slice pg c.groups.length cg, .bool s.hm, .int .u32 s.mode, .bool s.hu, .int .u32 s.user, .bool s.hg, .int .u32 s.group, .bool s.hs, .int .u64 s.size, .int .u32 s.rh, .int .u32 s.rs, .int .u32 s.rn, .int .u32 s.wh, .int .u32 s.ws, .int .u32 s.wn, .int .u32 nows, .int .u32 nown, .bool (ownsS ns (k : Int) c)]] #[]) (pv_index_one (e := 144) (n := 4) rfl rfl (by kernel_rfl) (by kernel_rfl) (by kernel_rfl) (by decide) (by decide) rfl) ?_
     refine Rg.as 16 53 rfl ?_
     refine Rg.nx (fun _ _ h => h) [53,52,51,50,16,11,10,9,8,5,1] rfl ?_
     refine Ev.sr 3 ?_
     refine Rg.mv 54 16 rfl ?_
     refine Rg.cb (some 55) 68 (.tmp 54) (v := .int .u32 (sizeSt ns (k : Int) c s nows nown (ownsS ns (k : Int) c))) rfl (fun w hw => sizeSt_calls ((hT).keep (hw.at_ 6 rfl) (fun k hk => hw.lt 6 rfl hk)) hW (RowsAt.keep hG (hw.at_ 6 rfl) (fun k hk => hw.lt 6 rfl hk)) hgl hth_) ?_
     refine Rg.as 17 55 rfl ?_
     refine Rg.nx (fun _ _ h => h) [55,54,53,52,51,50,17,16,11,10,9,8,5,1] rfl ?_
     refine Ev.sr 2 ?_
     refine Rg.mv 56 17 rfl ?_
     refine Rg.p 57 (.binOp .neq 45 (.tmp 56) (.const (.int .u32 0)) 45) (pv_neq rfl rfl) ?_
     refine Rg.nx (fun _ _ h => h) [57,56,55,54,53,52,51,50,17,16,11,10,9,8,5,1] rfl ?_
     refine Ev.cd 57 rfl (fun h13 => ?_) (fun h13 => ?_)
     ·
      have h14 := of_decide_eq_false (not_t h13)
      refine Ev.sr 4 ?_
      refine Rg.p 58 (.build 25 #[]) (v := .agg #[.slice none 0 0, .int .u32 0]) (pv_build (parts := []) (vs := []) (fs := [(0, 1), (1, 1)]) (zv := .agg #[.slice none 0 0, .int .u32 0]) (cs := #[.slice none 0 0, .int .u32 0]) rfl (by kernel_rfl) (by kernel_rfl) (by kernel_rfl)) ?_
      refine Rg.mv 59 17 rfl ?_
      refine Rg.st 25 10 (.tmp 58) 1 #[.slice none 0 0, .int .u32 0] rfl rfl rfl ?_
      refine Rg.as 11 59 rfl ?_
      refine Rg.nx (fun _ _ h => h) [59,58,57,56,55,54,53,52,51,50,17,16,11,10,9,8,5,1] rfl ?_
      refine Ev.rt ?_
      refine At.via (Q := Q) hQ ?_
      refine At.retCell2 rfl rfl (reads_cellA 1 rfl rfl (by kernel_rfl) (by kernel_rfl)) (reads_tmp rfl) ?_
      have he_ : setE ns (k : Int) c s nows nown = sizeSt ns (k : Int) c s nows nown (ownsS ns (k : Int) c) := (by unfold setE; rw [show (!thereS ns (k : Int)) = false from by rw [hth_]; rfl]; simp only [cond_true, cond_false, hth_, Bool.not_true, h7, h10, h13])
      have hb_ := setE_bad (gen := gen) he_ (of_decide_eq_false (not_t h13))
      exact fun w hw => ⟨⟨none, 0, 0, [], fun _ => False⟩, trivial, (by rw [hb_.1, hb_.2, he_]; rfl), (by rw [hb_.1]; exact ((hw.dataNil).ownNil 44 25).pick [0, 1, 8] (by decide))⟩
     ·
      have h15 := of_decide_eq_true (not_f h13)
      have hs1_ := sizeSt_ok (of_decide_eq_true (not_f h13))
      refine Ev.sk ?_
      refine At.nx (fun _ _ h => h) [57,56,55,54,53,52,51,50,17,16,11,10,9,8,5,1] rfl ?_
      refine Ev.rg 2 ?_
      refine Rg.p 60 (.binOp .add 3 (.tmp 51) (.const (.int .i64 1)) 3) (v := .int .i64 3) (pv_addL (3) rfl rfl (by decide) (by kernel_rfl)) ?_
      refine Rg.mv 51 60 rfl ?_
      refine Rg.fin rfl ?_
      refine At.again 1 (fun _ _ h => h) [51,50,11,10,9,8,5,1] rfl ?_
      refine Ev.sr 1 ?_
      refine Rg.p 52 (.binOp .lss 3 (.tmp 51) (.const (.int .i64 4)) 3) (pv_lss rfl rfl) ?_
      refine Rg.know 52 (b := decide (3 < 4)) (c := true) rfl (by decide) ?_
      refine Rg.nx (fun _ _ h => h) [52,51,50,11,10,9,8,5,1] rfl ?_
      refine Ev.sq ?_
      refine ev_cond_t (t := 52) (by kernel_rfl) rfl ?_
      refine Ev.sk ?_
      refine At.nx (fun _ _ h => h) [52,51,50,11,10,9,8,5,1] rfl ?_
      refine Ev.sq ?_
      refine Ev.bk 1 ?_
      refine Ev.sr 2 ?_
      refine Rg.p 53 (.index 145 (.tmp 50) (.tmp 51)) (v := .func (.func 69) #[.agg #[.slice p ns.length cap, .int .u32 gen, .int .i64 (k : Int), .int .u32 c.user, .int .u32 c.group, .slice pg c.groups.length cg, .bool s.hm, .int .u32 s.mode, .bool s.hu, .int .u32 s.user, .bool s.hg, .int .u32 s.group, .bool s.hs, .int .u64 s.size, .int .u32 s.rh, .int .u32 s.rs, .int .u32 s.rn, .int .u32 s.wh, .int .u32 s.ws, .int .u32 s.wn, .int .u32 nows, .int .u32 nown, .bool (ownsS ns (k : Int) c)]] #[]) (pv_index_one (e := 144) (n := 4) rfl rfl (by kernel_rfl) (by kernel_rfl) (by kernel_rfl) (by decide) (by decide) rfl) ?_
      refine Rg.as 16 53 rfl ?_
      refine Rg.nx (fun _ _ h => h) [53,52,51,50,16,11,10,9,8,5,1] rfl ?_
      refine Ev.sr 3 ?_
      refine Rg.mv 54 16 rfl ?_
      refine Rg.cb (some 55) 69 (.tmp 54) (v := .int .u32 (stampsS ns (k : Int) c s nows nown (ownsS ns (k : Int) c))) rfl (fun w hw => stampsS_calls ((hT).keep (hw.at_ 6 rfl) (fun k hk => hw.lt 6 rfl hk)) hW (RowsAt.keep hG (hw.at_ 6 rfl) (fun k hk => hw.lt 6 rfl hk)) hgl) ?_
      refine Rg.as 17 55 rfl ?_
      refine Rg.nx (fun _ _ h => h) [55,54,53,52,51,50,17,16,11,10,9,8,5,1] rfl ?_
      refine Ev.sr 2 ?_
      refine Rg.mv 56 17 rfl ?_
      refine Rg.p 57 (.binOp .neq 45 (.tmp 56) (.const (.int .u32 0)) 45) (pv_neq rfl rfl) ?_
      refine Rg.nx (fun _ _ h => h) [57,56,55,54,53,52,51,50,17,16,11,10,9,8,5,1] rfl ?_
      refine Ev.cd 57 rfl (fun h16 => ?_) (fun h16 => ?_)
      ·
       have h17 := of_decide_eq_false (not_t h16)
       refine Ev.sr 4 ?_
       refine Rg.p 58 (.build 25 #[]) (v := .agg #[.slice none 0 0, .int .u32 0]) (pv_build (parts := []) (vs := []) (fs := [(0, 1), (1, 1)]) (zv := .agg #[.slice none 0 0, .int .u32 0]) (cs := #[.slice none 0 0, .int .u32 0]) rfl (by kernel_rfl) (by kernel_rfl) (by kernel_rfl)) ?_
       refine Rg.mv 59 17 rfl ?_
       refine Rg.st 25 10 (.tmp 58) 1 #[.slice none 0 0, .int .u32 0] rfl rfl rfl ?_
       refine Rg.as 11 59 rfl ?_
       refine Rg.nx (fun _ _ h => h) [59,58,57,56,55,54,53,52,51,50,17,16,11,10,9,8,5,1] rfl ?_
       refine Ev.rt ?_
       refine At.via (Q := Q) hQ ?_
       refine At.retCell2 rfl rfl (reads_cellA 1 rfl rfl (by kernel_rfl) (by kernel_rfl)) (reads_tmp rfl) ?_
       have he_ : setE ns (k : Int) c s nows nown = stampsS ns (k : Int) c s nows nown (ownsS ns (k : Int) c) := (by unfold setE; rw [show (!thereS ns (k : Int)) = false from by rw [hth_]; rfl]; simp only [cond_true, cond_false, hth_, Bool.not_true, h7, h10, h13, h16])
       have hb_ := setE_bad (gen := gen) he_ (of_decide_eq_false (not_t h16))
       exact fun w hw => ⟨⟨none, 0, 0, [], fun _ => False⟩, trivial, (by rw [hb_.1, hb_.2, he_]; rfl), (by rw [hb_.1]; exact ((hw.dataNil).ownNil 44 25).pick [0, 1, 8] (by decide))⟩
      ·
       have h18 := of_decide_eq_true (not_f h16)
       refine Ev.sk ?_
       refine At.nx (fun _ _ h => h) [57,56,55,54,53,52,51,50,17,16,11,10,9,8,5,1] rfl ?_
       refine Ev.rg 2 ?_
       refine Rg.p 60 (.binOp .add 3 (.tmp 51) (.const (.int .i64 1)) 3) (v := .int .i64 4) (pv_addL (4) rfl rfl (by decide) (by kernel_rfl)) ?_
       refine Rg.mv 51 60 rfl ?_
       refine Rg.fin rfl ?_
       refine At.again 0 (fun _ _ h => h) [51,50,11,10,9,8,5,1] rfl ?_
       refine Ev.sr 1 ?_
       refine Rg.p 52 (.binOp .lss 3 (.tmp 51) (.const (.int .i64 4)) 3) (pv_lss rfl rfl) ?_
       refine Rg.know 52 (b := decide (4 < 4)) (c := false) rfl (by decide) ?_
       refine Rg.nx (fun _ _ h => h) [52,51,50,11,10,9,8,5,1] rfl ?_
       refine Ev.sq ?_
       refine ev_cond_f (t := 52) (by kernel_rfl) rfl ?_
       refine Ev.xt 0 ?_
       refine At.nx (fun _ _ h => h) [11,10,9,8,5,1] rfl ?_
       refine Ev.sr 3 ?_
       refine Rg.p 61 (.load 25 (.tmp 5)) (v := .agg #[.slice p ns.length cap, .int .u32 gen]) (pv_load_blk_whole 5 rfl rfl (by kernel_rfl) (by kernel_rfl)) ?_
       refine Rg.cn (T := TL) (some 62) 70 #[.tmp 61] #[25] (v := fun ⟨p8, c9, c10, l11, G12⟩ => .agg #[.slice p8 ns.length c9, .int .u32 gen]) (L := fun ⟨p8, c9, c10, l11, G12⟩ => [own 44 25 p8 ns.length c10 (flat ns l11), dataI none G12 ns l11]) rfl (fun w hw => clone_calls ((hT).keep (hw.at_ 6 rfl) (fun k hk => hw.lt 6 rfl hk)) hW) ?_
       rintro ⟨p8, c9, c10, l11, G12⟩ _
       dsimp only [putE, List.append, HAppend.hAppend, Append.append]
       refine Rg.fac (fun w hw => own_some hw 0 rfl (by omega)) (fun hs_ => ?_)
       obtain ⟨bl, rfl⟩ := hs_
       refine Rg.fac (fun w hw => (hw.at_ 1 rfl).1) (fun hl_ => ?_)
       refine Rg.heap (S' := [own 44 25 (some ⟨bl, 0, none⟩) ns.length c10 (flat (ns.set k (nd ns k)) (l11.set k (lc l11 k))), dataI none G12 (ns.set k (nd ns k)) (l11.set k (lc l11 k)), blk b6 (.cells (attrsS ns (k : Int)) 38 (0, 0)), blk b5 (.cells #[.slice none 0 0, .int .u32 0] 25 (0, 0)), blk b4 (.cells #[.int .u32 nows, .int .u32 nown, .int .u8 bt0, .int .u8 bt1, .int .u8 bt2, .int .u8 bt3, .int .u8 bt4, .int .u8 bt5, .int .u8 bt6, .int .u8 bt7] 61 (0, 0)), blk b3 (.cells (s.cells) 59 (0, 0)), blk b2 (.cells #[.int .u32 c.user, .int .u32 c.group, .slice pg c.groups.length cg] 56 (0, 0)), blk b1 (.cells #[.slice p ns.length cap, .int .u32 gen] 25 (0, 0)), base w (Low w), blk b7 (.cells #[.slice p ns.length cap, .int .u32 gen, .int .i64 (k : Int), .int .u32 c.user, .int .u32 c.group, .slice pg c.groups.length cg, .bool s.hm, .int .u32 s.mode, .bool s.hu, .int .u32 s.user, .bool s.hg, .int .u32 s.group, .bool s.hs, .int .u64 s.size, .int .u32 s.rh, .int .u32 s.rs, .int .u32 s.rn, .int .u32 s.wh, .int .u32 s.ws, .int .u32 s.wn, .int .u32 nows, .int .u32 nown, .bool (ownsS ns (k : Int) c)] 143 (0, 0))]) (fun w hw => by rw [set_nd hk_, set_lc (by omega)]; exact hw) ?_
       refine Rg.st 25 5 (.tmp 62) 7 #[.slice (some ⟨bl, 0, none⟩) ns.length c9, .int .u32 gen] rfl rfl rfl ?_
       refine Rg.nx (fun _ _ h => h) [11,10,9,8,5,1] rfl ?_
       refine Ev.sr 6 ?_
       refine Rg.fa 63 25 5 0 0 rfl ?_
       refine Rg.ld 64 22 63 7 rfl rfl rfl ?_
       refine Rg.mv 65 1 rfl ?_
       refine Rg.p 66 (.indexAddr 22 (.tmp 64) (.tmp 65)) (v := .pointer (some ⟨bl, 0 + k * 25, none⟩)) (pv_indexN rfl rfl (e := 44) (sz := 25) (k := k) (by kernel_rfl) (by omega)) ?_
       refine Rg.al 18 147 (.pointer none) fun b14 => ?_
       refine Rg.st 147 18 (.tmp 66) 0 #[.pointer (some ⟨bl, 0 + k * 25, none⟩)] rfl rfl rfl ?_
       refine Rg.nx (fun _ _ h => h) [18,11,10,9,8,5] rfl ?_
       refine Ev.sr 9 ?_
       refine Rg.p 67 (.makeFunc (.func 71) #[] #[.tmp 8, .tmp 18]) (v := .func (.func 71) #[] #[.pointer (some ⟨b3, 0, none⟩), .pointer (some ⟨b14, 0, none⟩)]) (pv_makeFunc (xs := [.tmp 8, .tmp 18]) rfl) ?_
       refine Rg.p 68 (.makeFunc (.func 73) #[] #[.tmp 8, .tmp 18]) (v := .func (.func 73) #[] #[.pointer (some ⟨b3, 0, none⟩), .pointer (some ⟨b14, 0, none⟩)]) (pv_makeFunc (xs := [.tmp 8, .tmp 18]) rfl) ?_
       refine Rg.p 69 (.makeFunc (.func 74) #[] #[.tmp 8, .tmp 18]) (v := .func (.func 74) #[] #[.pointer (some ⟨b3, 0, none⟩), .pointer (some ⟨b14, 0, none⟩)]) (pv_makeFunc (xs := [.tmp 8, .tmp 18]) rfl) ?_
       refine Rg.p 70 (.makeFunc (.func 75) #[] #[.tmp 8, .tmp 18, .tmp 9]) (v := .func (.func 75) #[] #[.pointer (some ⟨b3, 0, none⟩), .pointer (some ⟨b14, 0, none⟩), .pointer (some ⟨b4, 0, none⟩)]) (pv_makeFunc (xs := [.tmp 8, .tmp 18, .tmp 9]) rfl) ?_
       refine Rg.p 71 (.makeFunc (.func 77) #[] #[.tmp 8, .tmp 18, .tmp 9]) (v := .func (.func 77) #[] #[.pointer (some ⟨b3, 0, none⟩), .pointer (some ⟨b14, 0, none⟩), .pointer (some ⟨b4, 0, none⟩)]) (pv_makeFunc (xs := [.tmp 8, .tmp 18, .tmp 9]) rfl) ?_
       refine Rg.p 72 (.makeFunc (.func 78) #[] #[.tmp 8, .tmp 18, .tmp 9]) (v := .func (.func 78) #[] #[.pointer (some ⟨b3, 0, none⟩), .pointer (some ⟨b14, 0, none⟩), .pointer (some ⟨b4, 0, none⟩)]) (pv_makeFunc (xs := [.tmp 8, .tmp 18, .tmp 9]) rfl) ?_
       refine Rg.p 73 (.build 152 #[(0, .tmp 67), (1, .tmp 68), (2, .tmp 69), (3, .tmp 70), (4, .tmp 71), (5, .tmp 72)]) (v := .agg #[.func (.func 71) #[] #[.pointer (some ⟨b3, 0, none⟩), .pointer (some ⟨b14, 0, none⟩)], .func (.func 73) #[] #[.pointer (some ⟨b3, 0, none⟩), .pointer (some ⟨b14, 0, none⟩)], .func (.func 74) #[] #[.pointer (some ⟨b3, 0, none⟩), .pointer (some ⟨b14, 0, none⟩)], .func (.func 75) #[] #[.pointer (some ⟨b3, 0, none⟩), .pointer (some ⟨b14, 0, none⟩), .pointer (some ⟨b4, 0, none⟩)], .func (.func 77) #[] #[.pointer (some ⟨b3, 0, none⟩), .pointer (some ⟨b14, 0, none⟩), .pointer (some ⟨b4, 0, none⟩)], .func (.func 78) #[] #[.pointer (some ⟨b3, 0, none⟩), .pointer (some ⟨b14, 0, none⟩), .pointer (some ⟨b4, 0, none⟩)]]) (pv_buildArr (e := 27) (sz := 1) (n := 6) (parts := [(0, .tmp 67), (1, .tmp 68), (2, .tmp 69), (3, .tmp 70), (4, .tmp 71), (5, .tmp 72)]) (vs := [.func (.func 71) #[] #[.pointer (some ⟨b3, 0, none⟩), .pointer (some ⟨b14, 0, none⟩)], .func (.func 73) #[] #[.pointer (some ⟨b3, 0, none⟩), .pointer (some ⟨b14, 0, none⟩)], .func (.func 74) #[] #[.pointer (some ⟨b3, 0, none⟩), .pointer (some ⟨b14, 0, none⟩)], .func (.func 75) #[] #[.pointer (some ⟨b3, 0, none⟩), .pointer (some ⟨b14, 0, none⟩), .pointer (some ⟨b4, 0, none⟩)], .func (.func 77) #[] #[.pointer (some ⟨b3, 0, none⟩), .pointer (some ⟨b14, 0, none⟩), .pointer (some ⟨b4, 0, none⟩)], .func (.func 78) #[] #[.pointer (some ⟨b3, 0, none⟩), .pointer (some ⟨b14, 0, none⟩), .pointer (some ⟨b4, 0, none⟩)]]) (zv := .agg #[.nilFunc, .nilFunc, .nilFunc, .nilFunc, .nilFunc, .nilFunc]) (cs := #[.func (.func 71) #[] #[.pointer (some ⟨b3, 0, none⟩), .pointer (some ⟨b14, 0, none⟩)], .func (.func 73) #[] #[.pointer (some ⟨b3, 0, none⟩), .pointer (some ⟨b14, 0, none⟩)], .func (.func 74) #[] #[.pointer (some ⟨b3, 0, none⟩), .pointer (some ⟨b14, 0, none⟩)], .func (.func 75) #[] #[.pointer (some ⟨b3, 0, none⟩), .pointer (some ⟨b14, 0, none⟩), .pointer (some ⟨b4, 0, none⟩)], .func (.func 77) #[] #[.pointer (some ⟨b3, 0, none⟩), .pointer (some ⟨b14, 0, none⟩), .pointer (some ⟨b4, 0, none⟩)], .func (.func 78) #[] #[.pointer (some ⟨b3, 0, none⟩), .pointer (some ⟨b14, 0, none⟩), .pointer (some ⟨b4, 0, none⟩)]]) rfl (by kernel_rfl) (by kernel_rfl) (by kernel_rfl) (by kernel_rfl)) ?_
       refine Rg.al 19 152 (.agg #[.nilFunc, .nilFunc, .nilFunc, .nilFunc, .nilFunc, .nilFunc]) fun b15 => ?_
       refine Rg.st 152 19 (.tmp 73) 0 #[.func (.func 71) #[] #[.pointer (some ⟨b3, 0, none⟩), .pointer (some ⟨b14, 0, none⟩)], .func (.func 73) #[] #[.pointer (some ⟨b3, 0, none⟩), .pointer (some ⟨b14, 0, none⟩)], .func (.func 74) #[] #[.pointer (some ⟨b3, 0, none⟩), .pointer (some ⟨b14, 0, none⟩)], .func (.func 75) #[] #[.pointer (some ⟨b3, 0, none⟩), .pointer (some ⟨b14, 0, none⟩), .pointer (some ⟨b4, 0, none⟩)], .func (.func 77) #[] #[.pointer (some ⟨b3, 0, none⟩), .pointer (some ⟨b14, 0, none⟩), .pointer (some ⟨b4, 0, none⟩)], .func (.func 78) #[] #[.pointer (some ⟨b3, 0, none⟩), .pointer (some ⟨b14, 0, none⟩), .pointer (some ⟨b4, 0, none⟩)]] rfl rfl rfl ?_
       refine Rg.nx (fun _ _ h => h) [19,18,11,10,9,5] rfl ?_
       refine Ev.sq ?_
       refine Ev.sr 2 ?_
       refine Rg.p 74 (.load 152 (.tmp 19)) (v := .agg #[.func (.func 71) #[] #[.pointer (some ⟨b3, 0, none⟩), .pointer (some ⟨b14, 0, none⟩)], .func (.func 73) #[] #[.pointer (some ⟨b3, 0, none⟩), .pointer (some ⟨b14, 0, none⟩)], .func (.func 74) #[] #[.pointer (some ⟨b3, 0, none⟩), .pointer (some ⟨b14, 0, none⟩)], .func (.func 75) #[] #[.pointer (some ⟨b3, 0, none⟩), .pointer (some ⟨b14, 0, none⟩), .pointer (some ⟨b4, 0, none⟩)], .func (.func 77) #[] #[.pointer (some ⟨b3, 0, none⟩), .pointer (some ⟨b14, 0, none⟩), .pointer (some ⟨b4, 0, none⟩)], .func (.func 78) #[] #[.pointer (some ⟨b3, 0, none⟩), .pointer (some ⟨b14, 0, none⟩), .pointer (some ⟨b4, 0, none⟩)]]) (pv_load_blk_whole 0 rfl rfl (by kernel_rfl) (by kernel_rfl)) ?_
       refine Rg.mc 75 (.int .i64 0) ?_
       refine Rg.nx (fun _ _ h => h) [75,74,18,11,10,9,5] rfl ?_
       refine Ev.bk 2 ?_
       refine ev_loop (T := Nat × Loc × (Nat → Prop)) (fun x_ => (fun q a G => [(5, .pointer (some ⟨b1, 0, none⟩)), (9, .pointer (some ⟨b4, 0, none⟩)), (10, .pointer (some ⟨b5, 0, none⟩)), (11, .int .u32 0), (18, .pointer (some ⟨b14, 0, none⟩)), (74, .agg #[.func (.func 71) #[] #[.pointer (some ⟨b3, 0, none⟩), .pointer (some ⟨b14, 0, none⟩)], .func (.func 73) #[] #[.pointer (some ⟨b3, 0, none⟩), .pointer (some ⟨b14, 0, none⟩)], .func (.func 74) #[] #[.pointer (some ⟨b3, 0, none⟩), .pointer (some ⟨b14, 0, none⟩)], .func (.func 75) #[] #[.pointer (some ⟨b3, 0, none⟩), .pointer (some ⟨b14, 0, none⟩), .pointer (some ⟨b4, 0, none⟩)], .func (.func 77) #[] #[.pointer (some ⟨b3, 0, none⟩), .pointer (some ⟨b14, 0, none⟩), .pointer (some ⟨b4, 0, none⟩)], .func (.func 78) #[] #[.pointer (some ⟨b3, 0, none⟩), .pointer (some ⟨b14, 0, none⟩), .pointer (some ⟨b4, 0, none⟩)]]), (75, .int .i64 (q : Int))]) x_.1 x_.2.1 x_.2.2) (fun x_ => (fun q a G => [blk b15 (.cells #[.func (.func 71) #[] #[.pointer (some ⟨b3, 0, none⟩), .pointer (some ⟨b14, 0, none⟩)], .func (.func 73) #[] #[.pointer (some ⟨b3, 0, none⟩), .pointer (some ⟨b14, 0, none⟩)], .func (.func 74) #[] #[.pointer (some ⟨b3, 0, none⟩), .pointer (some ⟨b14, 0, none⟩)], .func (.func 75) #[] #[.pointer (some ⟨b3, 0, none⟩), .pointer (some ⟨b14, 0, none⟩), .pointer (some ⟨b4, 0, none⟩)], .func (.func 77) #[] #[.pointer (some ⟨b3, 0, none⟩), .pointer (some ⟨b14, 0, none⟩), .pointer (some ⟨b4, 0, none⟩)], .func (.func 78) #[] #[.pointer (some ⟨b3, 0, none⟩), .pointer (some ⟨b14, 0, none⟩), .pointer (some ⟨b4, 0, none⟩)]] 152 (0, 0)), blk b14 (.cells #[.pointer (some ⟨bl, 0 + k * 25, none⟩)] 147 (0, 0)), own 44 25 (some ⟨bl, 0, none⟩) ns.length c10 (flat (ns.set k (setN s nows nown (nd ns k) q)) (l11.set k a)), dataI none G (ns.set k (setN s nows nown (nd ns k) q)) (l11.set k a), blk b6 (.cells (attrsS ns (k : Int)) 38 (0, 0)), blk b5 (.cells #[.slice none 0 0, .int .u32 0] 25 (0, 0)), blk b4 (.cells #[.int .u32 nows, .int .u32 nown, .int .u8 bt0, .int .u8 bt1, .int .u8 bt2, .int .u8 bt3, .int .u8 bt4, .int .u8 bt5, .int .u8 bt6, .int .u8 bt7] 61 (0, 0)), blk b3 (.cells (s.cells) 59 (0, 0)), blk b2 (.cells #[.int .u32 c.user, .int .u32 c.group, .slice pg c.groups.length cg] 56 (0, 0)), blk b1 (.cells #[.slice (some ⟨bl, 0, none⟩) ns.length c9, .int .u32 gen] 25 (0, 0)), base w (Low w), blk b7 (.cells #[.slice p ns.length cap, .int .u32 gen, .int .i64 (k : Int), .int .u32 c.user, .int .u32 c.group, .slice pg c.groups.length cg, .bool s.hm, .int .u32 s.mode, .bool s.hu, .int .u32 s.user, .bool s.hg, .int .u32 s.group, .bool s.hs, .int .u64 s.size, .int .u32 s.rh, .int .u32 s.rs, .int .u32 s.rn, .int .u32 s.wh, .int .u32 s.ws, .int .u32 s.wn, .int .u32 nows, .int .u32 nown, .bool (ownsS ns (k : Int) c)] 143 (0, 0))]) x_.1 x_.2.1 x_.2.2) (fun x_ => (fun q a G => q ≤ 6) x_.1 x_.2.1 x_.2.2) (fun x_ => (fun q a G => 6 - q) x_.1 x_.2.1 x_.2.2) (0, lc l11 k, G12) [0, 1, 2, 3, 4, 5, 6, 7, 8, 9, 10, 11] (by kernel_rfl) (Nat.zero_le _) (.cons (rfl) (.cons (rfl) (.cons (rfl) (.cons (rfl) (.cons (rfl) (.cons (rfl) (.cons (rfl) (.nil _)))))))) rfl (by decide) ?_
       rintro ⟨q, a, G⟩ (hq_ : q ≤ 6)
       show Ev _ _ [(5, .pointer (some ⟨b1, 0, none⟩)), (9, .pointer (some ⟨b4, 0, none⟩)), (10, .pointer (some ⟨b5, 0, none⟩)), (11, .int .u32 0), (18, .pointer (some ⟨b14, 0, none⟩)), (74, .agg #[.func (.func 71) #[] #[.pointer (some ⟨b3, 0, none⟩), .pointer (some ⟨b14, 0, none⟩)], .func (.func 73) #[] #[.pointer (some ⟨b3, 0, none⟩), .pointer (some ⟨b14, 0, none⟩)], .func (.func 74) #[] #[.pointer (some ⟨b3, 0, none⟩), .pointer (some ⟨b14, 0, none⟩)], .func (.func 75) #[] #[.pointer (some ⟨b3, 0, none⟩), .pointer (some ⟨b14, 0, none⟩), .pointer (some ⟨b4, 0, none⟩)], .func (.func 77) #[] #[.pointer (some ⟨b3, 0, none⟩), .pointer (some ⟨b14, 0, none⟩), .pointer (some ⟨b4, 0, none⟩)], .func (.func 78) #[] #[.pointer (some ⟨b3, 0, none⟩), .pointer (some ⟨b14, 0, none⟩), .pointer (some ⟨b4, 0, none⟩)]]), (75, .int .i64 (q : Int))] [blk b15 (.cells #[.func (.func 71) #[] #[.pointer (some ⟨b3, 0, none⟩), .pointer (some ⟨b14, 0, none⟩)], .func (.func 73) #[] #[.pointer (some ⟨b3, 0, none⟩), .pointer (some ⟨b14, 0, none⟩)], .func (.func 74) #[] #[.pointer (some ⟨b3, 0, none⟩), .pointer (some ⟨b14, 0, none⟩)], .func (.func 75) #[] #[.pointer (some ⟨b3, 0, none⟩), .pointer (some ⟨b14, 0, none⟩), .pointer (some ⟨b4, 0, none⟩)], .func (.func 77) #[] #[.pointer (some ⟨b3, 0, none⟩), .pointer (some ⟨b14, 0, none⟩), .pointer (some ⟨b4, 0, none⟩)], .func (.func 78) #[] #[.pointer (some ⟨b3, 0, none⟩), .pointer (some ⟨b14, 0, none⟩), .pointer (some ⟨b4, 0, none⟩)]] 152 (0, 0)), blk b14 (.cells #[.pointer (some ⟨bl, 0 + k * 25, none⟩)] 147 (0, 0)), own 44 25 (some ⟨bl, 0, none⟩) ns.length c10 (flat (ns.set k (setN s nows nown (nd ns k) q)) (l11.set k a)), dataI none G (ns.set k (setN s nows nown (nd ns k) q)) (l11.set k a), blk b6 (.cells (attrsS ns (k : Int)) 38 (0, 0)), blk b5 (.cells #[.slice none 0 0, .int .u32 0] 25 (0, 0)), blk b4 (.cells #[.int .u32 nows, .int .u32 nown, .int .u8 bt0, .int .u8 bt1, .int .u8 bt2, .int .u8 bt3, .int .u8 bt4, .int .u8 bt5, .int .u8 bt6, .int .u8 bt7] 61 (0, 0)), blk b3 (.cells (s.cells) 59 (0, 0)), blk b2 (.cells #[.int .u32 c.user, .int .u32 c.group, .slice pg c.groups.length cg] 56 (0, 0)), blk b1 (.cells #[.slice (some ⟨bl, 0, none⟩) ns.length c9, .int .u32 gen] 25 (0, 0)), base w (Low w), blk b7 (.cells #[.slice p ns.length cap, .int .u32 gen, .int .i64 (k : Int), .int .u32 c.user, .int .u32 c.group, .slice pg c.groups.length cg, .bool s.hm, .int .u32 s.mode, .bool s.hu, .int .u32 s.user, .bool s.hg, .int .u32 s.group, .bool s.hs, .int .u64 s.size, .int .u32 s.rh, .int .u32 s.rs, .int .u32 s.rn, .int .u32 s.wh, .int .u32 s.ws, .int .u32 s.wn, .int .u32 nows, .int .u32 nown, .bool (ownsS ns (k : Int) c)] 143 (0, 0))] _
       obtain rfl | rfl | rfl | rfl | rfl | rfl | rfl : q = 0 ∨ q = 1 ∨ q = 2 ∨ q = 3 ∨ q = 4 ∨ q = 5 ∨ q = 6 := by omega
       ·
        refine Ev.sr 1 ?_
        refine Rg.p 76 (.binOp .lss 3 (.tmp 75) (.const (.int .i64 6)) 3) (pv_lss rfl rfl) ?_
        refine Rg.know 76 (b := decide ((0 : Int) < 6)) (c := true) rfl (by decide) ?_
        refine Rg.nx (fun _ _ h => h) [76,75,74,18,11,10,9,5] rfl ?_
        refine Ev.sq ?_
        refine ev_cond_t (t := 76) (by kernel_rfl) rfl ?_
        refine Ev.sk ?_
        refine At.nx (fun _ _ h => h) [76,75,74,18,11,10,9,5] rfl ?_
        refine Ev.sq ?_
        refine Ev.bk 3 ?_
        refine Ev.sr 2 ?_
        refine Rg.p 77 (.index 152 (.tmp 74) (.tmp 75)) (v := .func (.func 71) #[] #[.pointer (some ⟨b3, 0, none⟩), .pointer (some ⟨b14, 0, none⟩)]) (pv_index_one (e := 27) (n := 6) rfl rfl (by kernel_rfl) (by kernel_rfl) (by kernel_rfl) (by decide) (by decide) rfl) ?_
        refine Rg.as 21 77 rfl ?_
        refine Rg.nx (fun _ _ h => h) [77,76,75,74,21,18,11,10,9,5] rfl ?_
        refine Ev.sr 2 ?_
        refine Rg.mv 78 21 rfl ?_
        refine rg_callM (T := Unit) (d := some 79) (f := 71) (fo := .tmp 78) (fs := #[]) (caps := #[.pointer (some ⟨b3, 0, none⟩), .pointer (some ⟨b14, 0, none⟩)]) (xs := #[]) (ts := #[]) (g := none) (v := fun _ => .bool s.hm) (L := fun _ => [blk b3 (.cells (s.cells) 59 (0, 0)), blk b14 (.cells #[.pointer (some ⟨bl, 0 + k * 25, none⟩)] 147 (0, 0)), own 44 25 (some ⟨bl, 0, none⟩) ns.length c10 (flat (ns.set k (deed1 s (setN s nows nown (nd ns k) 0))) (l11.set k a))]) [blk b3 (.cells (s.cells) 59 (0, 0)), blk b14 (.cells #[.pointer (some ⟨bl, 0 + k * 25, none⟩)] 147 (0, 0)), own 44 25 (some ⟨bl, 0, none⟩) ns.length c10 (flat (ns.set k (setN s nows nown (nd ns k) 0)) (l11.set k a))] [blk b15 (.cells #[.func (.func 71) #[] #[.pointer (some ⟨b3, 0, none⟩), .pointer (some ⟨b14, 0, none⟩)], .func (.func 73) #[] #[.pointer (some ⟨b3, 0, none⟩), .pointer (some ⟨b14, 0, none⟩)], .func (.func 74) #[] #[.pointer (some ⟨b3, 0, none⟩), .pointer (some ⟨b14, 0, none⟩)], .func (.func 75) #[] #[.pointer (some ⟨b3, 0, none⟩), .pointer (some ⟨b14, 0, none⟩), .pointer (some ⟨b4, 0, none⟩)], .func (.func 77) #[] #[.pointer (some ⟨b3, 0, none⟩), .pointer (some ⟨b14, 0, none⟩), .pointer (some ⟨b4, 0, none⟩)], .func (.func 78) #[] #[.pointer (some ⟨b3, 0, none⟩), .pointer (some ⟨b14, 0, none⟩), .pointer (some ⟨b4, 0, none⟩)]] 152 (0, 0)), dataI none G (ns.set k (setN s nows nown (nd ns k) 0)) (l11.set k a), blk b6 (.cells (attrsS ns (k : Int)) 38 (0, 0)), blk b5 (.cells #[.slice none 0 0, .int .u32 0] 25 (0, 0)), blk b4 (.cells #[.int .u32 nows, .int .u32 nown, .int .u8 bt0, .int .u8 bt1, .int .u8 bt2, .int .u8 bt3, .int .u8 bt4, .int .u8 bt5, .int .u8 bt6, .int .u8 bt7] 61 (0, 0)), blk b2 (.cells #[.int .u32 c.user, .int .u32 c.group, .slice pg c.groups.length cg] 56 (0, 0)), blk b1 (.cells #[.slice (some ⟨bl, 0, none⟩) ns.length c9, .int .u32 gen] 25 (0, 0)), base w (Low w), blk b7 (.cells #[.slice p ns.length cap, .int .u32 gen, .int .i64 (k : Int), .int .u32 c.user, .int .u32 c.group, .slice pg c.groups.length cg, .bool s.hm, .int .u32 s.mode, .bool s.hu, .int .u32 s.user, .bool s.hg, .int .u32 s.group, .bool s.hs, .int .u64 s.size, .int .u32 s.rh, .int .u32 s.rs, .int .u32 s.rn, .int .u32 s.wh, .int .u32 s.ws, .int .u32 s.wn, .int .u32 nows, .int .u32 nown, .bool (ownsS ns (k : Int) c)] 143 (0, 0))] (by kernel_rfl) (by kernel_rfl) rfl (by kernel_rfl) rfl (fun w hw => hw.pick [7, 1, 2, 0, 3, 4, 5, 6, 8, 9, 10, 11] (by decide)) (fun w fr_ hw => deed1_calls hk_ hl_ hw) ?_
        rintro _ _
        dsimp only [putE, List.append, HAppend.hAppend, Append.append]
        refine Rg.nx (fun _ _ h => h) [79,78,77,76,75,74,21,18,11,10,9,5] rfl ?_
        refine Ev.cd 79 rfl (fun h19 => ?_) (fun h19 => ?_)
        ·
         refine Ev.rg 6 ?_
         refine Rg.ld 80 147 18 1 rfl rfl rfl ?_
         refine Rg.fa 81 61 9 0 0 rfl ?_
         refine Rg.p 82 (.load 36 (.tmp 81)) (v := .agg #[.int .u32 nows, .int .u32 nown]) (pv_load_blk_agg 7 rfl rfl (vs := #[.int .u32 nows, .int .u32 nown]) (by kernel_rfl) (by kernel_rfl) (agg_rfl (by kernel_rfl))) ?_
         refine Rg.p 83 (.nilCheck (.tmp 80)) (pv_nilCheck rfl) ?_
         refine Rg.fa 84 44 83 8 10 rfl ?_
         refine rg_store_ownV (t := 36) (x := .tmp 84) (y := .tmp 82) (g := none) (xs' := flat (ns.set k ({ deed1 s (setN s nows nown (nd ns k) 0) with ts := nows, tn := nown } : Node)) (l11.set k a)) 2 (by kernel_rfl) (by kernel_rfl) rfl rfl rfl (by kernel_rfl) (by kernel_rfl) (by rw [flat_length, List.length_set]; show 0 + k * 25 + 10 + 2 ≤ _; omega) (by rw [show 0 + k * 25 + 10 = k * 25 + 10 by omega]; exact flat_putK hk_ hl_ (Nat.le_of_ble_eq_true (by kernel_rfl)) (by kernel_rfl)) ?_
         refine Rg.nx (fun _ _ h => h) [84,83,82,81,80,79,78,77,76,75,74,21,18,11,10,9,5] rfl ?_
         refine Ev.rg 2 ?_
         refine Rg.p 85 (.binOp .add 3 (.tmp 75) (.const (.int .i64 1)) 3) (v := .int .i64 1) (pv_addL (1) rfl rfl (by decide) (by kernel_rfl)) ?_
         refine Rg.mv 75 85 rfl ?_
         refine Rg.fin rfl ?_
         have e_ : (setN s nows nown (nd ns k) 1) = ({ deed1 s (setN s nows nown (nd ns k) 0) with ts := nows, tn := nown } : Node) := by show cond s.hm _ _ = _; rw [h19]; rfl
         refine At.heap (S' := [blk b15 (.cells #[.func (.func 71) #[] #[.pointer (some ⟨b3, 0, none⟩), .pointer (some ⟨b14, 0, none⟩)], .func (.func 73) #[] #[.pointer (some ⟨b3, 0, none⟩), .pointer (some ⟨b14, 0, none⟩)], .func (.func 74) #[] #[.pointer (some ⟨b3, 0, none⟩), .pointer (some ⟨b14, 0, none⟩)], .func (.func 75) #[] #[.pointer (some ⟨b3, 0, none⟩), .pointer (some ⟨b14, 0, none⟩), .pointer (some ⟨b4, 0, none⟩)], .func (.func 77) #[] #[.pointer (some ⟨b3, 0, none⟩), .pointer (some ⟨b14, 0, none⟩), .pointer (some ⟨b4, 0, none⟩)], .func (.func 78) #[] #[.pointer (some ⟨b3, 0, none⟩), .pointer (some ⟨b14, 0, none⟩), .pointer (some ⟨b4, 0, none⟩)]] 152 (0, 0)), blk b14 (.cells #[.pointer (some ⟨bl, 0 + k * 25, none⟩)] 147 (0, 0)), own 44 25 (some ⟨bl, 0, none⟩) ns.length c10 (flat (ns.set k (setN s nows nown (nd ns k) 1)) (l11.set k a)), dataI none G (ns.set k (setN s nows nown (nd ns k) 1)) (l11.set k a), blk b6 (.cells (attrsS ns (k : Int)) 38 (0, 0)), blk b5 (.cells #[.slice none 0 0, .int .u32 0] 25 (0, 0)), blk b4 (.cells #[.int .u32 nows, .int .u32 nown, .int .u8 bt0, .int .u8 bt1, .int .u8 bt2, .int .u8 bt3, .int .u8 bt4, .int .u8 bt5, .int .u8 bt6, .int .u8 bt7] 61 (0, 0)), blk b3 (.cells (s.cells) 59 (0, 0)), blk b2 (.cells #[.int .u32 c.user, .int .u32 c.group, .slice pg c.groups.length cg] 56 (0, 0)), blk b1 (.cells #[.slice (some ⟨bl, 0, none⟩) ns.length c9, .int .u32 gen] 25 (0, 0)), base w (Low w), blk b7 (.cells #[.slice p ns.length cap, .int .u32 gen, .int .i64 (k : Int), .int .u32 c.user, .int .u32 c.group, .slice pg c.groups.length cg, .bool s.hm, .int .u32 s.mode, .bool s.hu, .int .u32 s.user, .bool s.hg, .int .u32 s.group, .bool s.hs, .int .u64 s.size, .int .u32 s.rh, .int .u32 s.rs, .int .u32 s.rn, .int .u32 s.wh, .int .u32 s.ws, .int .u32 s.wn, .int .u32 nows, .int .u32 nown, .bool (ownsS ns (k : Int) c)] 143 (0, 0))]) (fun w_ hw => ((by rw [e_]; exact (hw.pick [4, 0, 1, 2, 3, 5, 6, 7, 8, 9, 10, 11] (by decide)).dataSetK (n' := ({ deed1 s (setN s nows nown (nd ns k) 0) with ts := nows, tn := nown } : Node)) hk_ hl_ (deed1_same s _).1 (deed1_same s _).2 : Heap _ [dataI none G (ns.set k (setN s nows nown (nd ns k) 1)) (l11.set k a), blk b3 (.cells (s.cells) 59 (0, 0)), blk b14 (.cells #[.pointer (some ⟨bl, 0 + k * 25, none⟩)] 147 (0, 0)), own 44 25 (some ⟨bl, 0, none⟩) ns.length c10 (flat (ns.set k (setN s nows nown (nd ns k) 1)) (l11.set k a)), blk b15 (.cells #[.func (.func 71) #[] #[.pointer (some ⟨b3, 0, none⟩), .pointer (some ⟨b14, 0, none⟩)], .func (.func 73) #[] #[.pointer (some ⟨b3, 0, none⟩), .pointer (some ⟨b14, 0, none⟩)], .func (.func 74) #[] #[.pointer (some ⟨b3, 0, none⟩), .pointer (some ⟨b14, 0, none⟩)], .func (.func 75) #[] #[.pointer (some ⟨b3, 0, none⟩), .pointer (some ⟨b14, 0, none⟩), .pointer (some ⟨b4, 0, none⟩)], .func (.func 77) #[] #[.pointer (some ⟨b3, 0, none⟩), .pointer (some ⟨b14, 0, none⟩), .pointer (some ⟨b4, 0, none⟩)], .func (.func 78) #[] #[.pointer (some ⟨b3, 0, none⟩), .pointer (some ⟨b14, 0, none⟩), .pointer (some ⟨b4, 0, none⟩)]] 152 (0, 0)), blk b6 (.cells (attrsS ns (k : Int)) 38 (0, 0)), blk b5 (.cells #[.slice none 0 0, .int .u32 0] 25 (0, 0)), blk b4 (.cells #[.int .u32 nows, .int .u32 nown, .int .u8 bt0, .int .u8 bt1, .int .u8 bt2, .int .u8 bt3, .int .u8 bt4, .int .u8 bt5, .int .u8 bt6, .int .u8 bt7] 61 (0, 0)), blk b2 (.cells #[.int .u32 c.user, .int .u32 c.group, .slice pg c.groups.length cg] 56 (0, 0)), blk b1 (.cells #[.slice (some ⟨bl, 0, none⟩) ns.length c9, .int .u32 gen] 25 (0, 0)), base w (Low w), blk b7 (.cells #[.slice p ns.length cap, .int .u32 gen, .int .i64 (k : Int), .int .u32 c.user, .int .u32 c.group, .slice pg c.groups.length cg, .bool s.hm, .int .u32 s.mode, .bool s.hu, .int .u32 s.user, .bool s.hg, .int .u32 s.group, .bool s.hs, .int .u64 s.size, .int .u32 s.rh, .int .u32 s.rs, .int .u32 s.rn, .int .u32 s.wh, .int .u32 s.ws, .int .u32 s.wn, .int .u32 nows, .int .u32 nown, .bool (ownsS ns (k : Int) c)] 143 (0, 0))] w_)).pick [4, 2, 3, 0, 5, 6, 7, 1, 8, 9, 10, 11] (by decide)) ?_
         refine At.round (t := (0, a, G)) (fun _ _ h => h) (1, a, G) [0, 1, 2, 3, 4, 5, 6, 7, 8, 9, 10, 11] (by show 1 ≤ 6; decide) (by show 6 - 1 < 6 - 0; decide) (.cons (rfl) (.cons (rfl) (.cons (rfl) (.cons (rfl) (.cons (rfl) (.cons (rfl) (.cons (rfl) (.nil _)))))))) rfl (by decide)
        ·
         refine Ev.sk ?_
         refine At.nx (fun _ _ h => h) [79,78,77,76,75,74,21,18,11,10,9,5] rfl ?_
         refine Ev.rg 2 ?_
         refine Rg.p 85 (.binOp .add 3 (.tmp 75) (.const (.int .i64 1)) 3) (v := .int .i64 1) (pv_addL (1) rfl rfl (by decide) (by kernel_rfl)) ?_
         refine Rg.mv 75 85 rfl ?_
         refine Rg.fin rfl ?_
         have e_ : (setN s nows nown (nd ns k) 1) = deed1 s (setN s nows nown (nd ns k) 0) := by show cond s.hm _ _ = _; rw [h19]; rfl
         refine At.heap (S' := [blk b15 (.cells #[.func (.func 71) #[] #[.pointer (some ⟨b3, 0, none⟩), .pointer (some ⟨b14, 0, none⟩)], .func (.func 73) #[] #[.pointer (some ⟨b3, 0, none⟩), .pointer (some ⟨b14, 0, none⟩)], .func (.func 74) #[] #[.pointer (some ⟨b3, 0, none⟩), .pointer (some ⟨b14, 0, none⟩)], .func (.func 75) #[] #[.pointer (some ⟨b3, 0, none⟩), .pointer (some ⟨b14, 0, none⟩), .pointer (some ⟨b4, 0, none⟩)], .func (.func 77) #[] #[.pointer (some ⟨b3, 0, none⟩), .pointer (some ⟨b14, 0, none⟩), .pointer (some ⟨b4, 0, none⟩)], .func (.func 78) #[] #[.pointer (some ⟨b3, 0, none⟩), .pointer (some ⟨b14, 0, none⟩), .pointer (some ⟨b4, 0, none⟩)]] 152 (0, 0)), blk b14 (.cells #[.pointer (some ⟨bl, 0 + k * 25, none⟩)] 147 (0, 0)), own 44 25 (some ⟨bl, 0, none⟩) ns.length c10 (flat (ns.set k (setN s nows nown (nd ns k) 1)) (l11.set k a)), dataI none G (ns.set k (setN s nows nown (nd ns k) 1)) (l11.set k a), blk b6 (.cells (attrsS ns (k : Int)) 38 (0, 0)), blk b5 (.cells #[.slice none 0 0, .int .u32 0] 25 (0, 0)), blk b4 (.cells #[.int .u32 nows, .int .u32 nown, .int .u8 bt0, .int .u8 bt1, .int .u8 bt2, .int .u8 bt3, .int .u8 bt4, .int .u8 bt5, .int .u8 bt6, .int .u8 bt7] 61 (0, 0)), blk b3 (.cells (s.cells) 59 (0, 0)), blk b2 (.cells #[.int .u32 c.user, .int .u32 c.group, .slice pg c.groups.length cg] 56 (0, 0)), blk b1 (.cells #[.slice (some ⟨bl, 0, none⟩) ns.length c9, .int .u32 gen] 25 (0, 0)), base w (Low w), blk b7 (.cells #[.slice p ns.length cap, .int .u32 gen, .int .i64 (k : Int), .int .u32 c.user, .int .u32 c.group, .slice pg c.groups.length cg, .bool s.hm, .int .u32 s.mode, .bool s.hu, .int .u32 s.user, .bool s.hg, .int .u32 s.group, .bool s.hs, .int .u64 s.size, .int .u32 s.rh, .int .u32 s.rs, .int .u32 s.rn, .int .u32 s.wh, .int .u32 s.ws, .int .u32 s.wn, .int .u32 nows, .int .u32 nown, .bool (ownsS ns (k : Int) c)] 143 (0, 0))]) (fun w_ hw => ((by rw [e_]; exact (hw.pick [4, 0, 1, 2, 3, 5, 6, 7, 8, 9, 10, 11] (by decide)).dataSetK (n' := deed1 s (setN s nows nown (nd ns k) 0)) hk_ hl_ (deed1_same s _).1 (deed1_same s _).2 : Heap _ [dataI none G (ns.set k (setN s nows nown (nd ns k) 1)) (l11.set k a), blk b3 (.cells (s.cells) 59 (0, 0)), blk b14 (.cells #[.pointer (some ⟨bl, 0 + k * 25, none⟩)] 147 (0, 0)), own 44 25 (some ⟨bl, 0, none⟩) ns.length c10 (flat (ns.set k (setN s nows nown (nd ns k) 1)) (l11.set k a)), blk b15 (.cells #[.func (.func 71) #[] #[.pointer (some ⟨b3, 0, none⟩), .pointer (some ⟨b14, 0, none⟩)], .func (.func 73) #[] #[.pointer (some ⟨b3, 0, none⟩), .pointer (some ⟨b14, 0, none⟩)], .func (.func 74) #[] #[.pointer (some ⟨b3, 0, none⟩), .pointer (some ⟨b14, 0, none⟩)], .func (.func 75) #[] #[.pointer (some ⟨b3, 0, none⟩), .pointer (some ⟨b14, 0, none⟩), .pointer (some ⟨b4, 0, none⟩)], .func (.func 77) #[] #[.pointer (some ⟨b3, 0, none⟩), .pointer (some ⟨b14, 0, none⟩), .pointer (some ⟨b4, 0, none⟩)], .func (.func 78) #[] #[.pointer (some ⟨b3, 0, none⟩), .pointer (some ⟨b14, 0, none⟩), .pointer (some ⟨b4, 0, none⟩)]] 152 (0, 0)), blk b6 (.cells (attrsS ns (k : Int)) 38 (0, 0)), blk b5 (.cells #[.slice none 0 0, .int .u32 0] 25 (0, 0)), blk b4 (.cells #[.int .u32 nows, .int .u32 nown, .int .u8 bt0, .int .u8 bt1, .int .u8 bt2, .int .u8 bt3, .int .u8 bt4, .int .u8 bt5, .int .u8 bt6, .int .u8 bt7] 61 (0, 0)), blk b2 (.cells #[.int .u32 c.user, .int .u32 c.group, .slice pg c.groups.length cg] 56 (0, 0)), blk b1 (.cells #[.slice (some ⟨bl, 0, none⟩) ns.length c9, .int .u32 gen] 25 (0, 0)), base w (Low w), blk b7 (.cells #[.slice p ns.length cap, .int .u32 gen, .int .i64 (k : Int), .int .u32 c.user, .int .u32 c.group, .slice pg c.groups.length cg, .bool s.hm, .int .u32 s.mode, .bool s.hu, .int .u32 s.user, .bool s.hg, .int .u32 s.group, .bool s.hs, .int .u64 s.size, .int .u32 s.rh, .int .u32 s.rs, .int .u32 s.rn, .int .u32 s.wh, .int .u32 s.ws, .int .u32 s.wn, .int .u32 nows, .int .u32 nown, .bool (ownsS ns (k : Int) c)] 143 (0, 0))] w_)).pick [4, 2, 3, 0, 5, 6, 7, 1, 8, 9, 10, 11] (by decide)) ?_
         refine At.round (t := (0, a, G)) (fun _ _ h => h) (1, a, G) [0, 1, 2, 3, 4, 5, 6, 7, 8, 9, 10, 11] (by show 1 ≤ 6; decide) (by show 6 - 1 < 6 - 0; decide) (.cons (rfl) (.cons (rfl) (.cons (rfl) (.cons (rfl) (.cons (rfl) (.cons (rfl) (.cons (rfl) (.nil _)))))))) rfl (by decide)
       ·
        refine Ev.sr 1 ?_
        refine Rg.p 76 (.binOp .lss 3 (.tmp 75) (.const (.int .i64 6)) 3) (pv_lss rfl rfl) ?_
        refine Rg.know 76 (b := decide ((1 : Int) < 6)) (c := true) rfl (by decide) ?_
        refine Rg.nx (fun _ _ h => h) [76,75,74,18,11,10,9,5] rfl ?_
        refine Ev.sq ?_
        refine ev_cond_t (t := 76) (by kernel_rfl) rfl ?_
        refine Ev.sk ?_
        refine At.nx (fun _ _ h => h) [76,75,74,18,11,10,9,5] rfl ?_
        refine Ev.sq ?_
        refine Ev.bk 3 ?_
        refine Ev.sr 2 ?_
        refine Rg.p 77 (.index 152 (.tmp 74) (.tmp 75)) (v := .func (.func 73) #[] #[.pointer (some ⟨b3, 0, none⟩), .pointer (some ⟨b14, 0, none⟩)]) (pv_index_one (e := 27) (n := 6) rfl rfl (by kernel_rfl) (by kernel_rfl) (by kernel_rfl) (by decide) (by decide) rfl) ?_
        refine Rg.as 21 77 rfl ?_
        refine Rg.nx (fun _ _ h => h) [77,76,75,74,21,18,11,10,9,5] rfl ?_
        refine Ev.sr 2 ?_
        refine Rg.mv 78 21 rfl ?_
        refine rg_callM (T := Unit) (d := some 79) (f := 73) (fo := .tmp 78) (fs := #[]) (caps := #[.pointer (some ⟨b3, 0, none⟩), .pointer (some ⟨b14, 0, none⟩)]) (xs := #[]) (ts := #[]) (g := none) (v := fun _ => .bool s.hu) (L := fun _ => [blk b3 (.cells (s.cells) 59 (0, 0)), blk b14 (.cells #[.pointer (some ⟨bl, 0 + k * 25, none⟩)] 147 (0, 0)), own 44 25 (some ⟨bl, 0, none⟩) ns.length c10 (flat (ns.set k (deed2 s (setN s nows nown (nd ns k) 1))) (l11.set k a))]) [blk b3 (.cells (s.cells) 59 (0, 0)), blk b14 (.cells #[.pointer (some ⟨bl, 0 + k * 25, none⟩)] 147 (0, 0)), own 44 25 (some ⟨bl, 0, none⟩) ns.length c10 (flat (ns.set k (setN s nows nown (nd ns k) 1)) (l11.set k a))] [blk b15 (.cells #[.func (.func 71) #[] #[.pointer (some ⟨b3, 0, none⟩), .pointer (some ⟨b14, 0, none⟩)], .func (.func 73) #[] #[.pointer (some ⟨b3, 0, none⟩), .pointer (some ⟨b14, 0, none⟩)], .func (.func 74) #[] #[.pointer (some ⟨b3, 0, none⟩), .pointer (some ⟨b14, 0, none⟩)], .func (.func 75) #[] #[.pointer (some ⟨b3, 0, none⟩), .pointer (some ⟨b14, 0, none⟩), .pointer (some ⟨b4, 0, none⟩)], .func (.func 77) #[] #[.pointer (some ⟨b3, 0, none⟩), .pointer (some ⟨b14, 0, none⟩), .pointer (some ⟨b4, 0, none⟩)], .func (.func 78) #[] #[.pointer (some ⟨b3, 0, none⟩), .pointer (some ⟨b14, 0, none⟩), .pointer (some ⟨b4, 0, none⟩)]] 152 (0, 0)), dataI none G (ns.set k (setN s nows nown (nd ns k) 1)) (l11.set k a), blk b6 (.cells (attrsS ns (k : Int)) 38 (0, 0)), blk b5 (.cells #[.slice none 0 0, .int .u32 0] 25 (0, 0)), blk b4 (.cells #[.int .u32 nows, .int .u32 nown, .int .u8 bt0, .int .u8 bt1, .int .u8 bt2, .int .u8 bt3, .int .u8 bt4, .int .u8 bt5, .int .u8 bt6, .int .u8 bt7] 61 (0, 0)), blk b2 (.cells #[.int .u32 c.user, .int .u32 c.group, .slice pg c.groups.length cg] 56 (0, 0)), blk b1 (.cells #[.slice (some ⟨bl, 0, none⟩) ns.length c9, .int .u32 gen] 25 (0, 0)), base w (Low w), blk b7 (.cells #[.slice p ns.length cap, .int .u32 gen, .int .i64 (k : Int), .int .u32 c.user, .int .u32 c.group, .slice pg c.groups.length cg, .bool s.hm, .int .u32 s.mode, .bool s.hu, .int .u32 s.user, .bool s.hg, .int .u32 s.group, .bool s.hs, .int .u64 s.size, .int .u32 s.rh, .int .u32 s.rs, .int .u32 s.rn, .int .u32 s.wh, .int .u32 s.ws, .int .u32 s.wn, .int .u32 nows, .int .u32 nown, .bool (ownsS ns (k : Int) c)] 143 (0, 0))] (by kernel_rfl) (by kernel_rfl) rfl (by kernel_rfl) rfl (fun w hw => hw.pick [7, 1, 2, 0, 3, 4, 5, 6, 8, 9, 10, 11] (by decide)) (fun w fr_ hw => deed2_calls hk_ hl_ hw) ?_
        rintro _ _
        dsimp only [putE, List.append, HAppend.hAppend, Append.append]
        refine Rg.nx (fun _ _ h => h) [79,78,77,76,75,74,21,18,11,10,9,5] rfl ?_
        refine Ev.cd 79 rfl (fun h20 => ?_) (fun h20 => ?_)
        ·
         refine Ev.rg 6 ?_
         refine Rg.ld 80 147 18 1 rfl rfl rfl ?_
         refine Rg.fa 81 61 9 0 0 rfl ?_
         refine Rg.p 82 (.load 36 (.tmp 81)) (v := .agg #[.int .u32 nows, .int .u32 nown]) (pv_load_blk_agg 7 rfl rfl (vs := #[.int .u32 nows, .int .u32 nown]) (by kernel_rfl) (by kernel_rfl) (agg_rfl (by kernel_rfl))) ?_
         refine Rg.p 83 (.nilCheck (.tmp 80)) (pv_nilCheck rfl) ?_
         refine Rg.fa 84 44 83 8 10 rfl ?_
         refine rg_store_ownV (t := 36) (x := .tmp 84) (y := .tmp 82) (g := none) (xs' := flat (ns.set k ({ deed2 s (setN s nows nown (nd ns k) 1) with ts := nows, tn := nown } : Node)) (l11.set k a)) 2 (by kernel_rfl) (by kernel_rfl) rfl rfl rfl (by kernel_rfl) (by kernel_rfl) (by rw [flat_length, List.length_set]; show 0 + k * 25 + 10 + 2 ≤ _; omega) (by rw [show 0 + k * 25 + 10 = k * 25 + 10 by omega]; exact flat_putK hk_ hl_ (Nat.le_of_ble_eq_true (by kernel_rfl)) (by kernel_rfl)) ?_
         refine Rg.nx (fun _ _ h => h) [84,83,82,81,80,79,78,77,76,75,74,21,18,11,10,9,5] rfl ?_
         refine Ev.rg 2 ?_
         refine Rg.p 85 (.binOp .add 3 (.tmp 75) (.const (.int .i64 1)) 3) (v := .int .i64 2) (pv_addL (2) rfl rfl (by decide) (by kernel_rfl)) ?_
         refine Rg.mv 75 85 rfl ?_
         refine Rg.fin rfl ?_
         have e_ : (setN s nows nown (nd ns k) 2) = ({ deed2 s (setN s nows nown (nd ns k) 1) with ts := nows, tn := nown } : Node) := by show cond s.hu _ _ = _; rw [h20]; rfl
         refine At.heap (S' := [blk b15 (.cells #[.func (.func 71) #[] #[.pointer (some ⟨b3, 0, none⟩), .pointer (some ⟨b14, 0, none⟩)], .func (.func 73) #[] #[.pointer (some ⟨b3, 0, none⟩), .pointer (some ⟨b14, 0, none⟩)], .func (.func 74) #[] #[.pointer (some ⟨b3, 0, none⟩), .pointer (some ⟨b14, 0, none⟩)], .func (.func 75) #[] #[.pointer (some ⟨b3, 0, none⟩), .pointer (some ⟨b14, 0, none⟩), .pointer (some ⟨b4, 0, none⟩)], .func (.func 77) #[] #[.pointer (some ⟨b3, 0, none⟩), .pointer (some ⟨b14, 0, none⟩), .pointer (some ⟨b4, 0, none⟩)], .func (.func 78) #[] #[.pointer (some ⟨b3, 0, none⟩), .pointer (some ⟨b14, 0, none⟩), .pointer (some ⟨b4, 0, none⟩)]] 152 (0, 0)), blk b14 (.cells #[.pointer (some ⟨bl, 0 + k * 25, none⟩)] 147 (0, 0)), own 44 25 (some ⟨bl, 0, none⟩) ns.length c10 (flat (ns.set k (setN s nows nown (nd ns k) 2)) (l11.set k a)), dataI none G (ns.set k (setN s nows nown (nd ns k) 2)) (l11.set k a), blk b6 (.cells (attrsS ns (k : Int)) 38 (0, 0)), blk b5 (.cells #[.slice none 0 0, .int .u32 0] 25 (0, 0)), blk b4 (.cells #[.int .u32 nows, .int .u32 nown, .int .u8 bt0, .int .u8 bt1, .int .u8 bt2, .int .u8 bt3, .int .u8 bt4, .int .u8 bt5, .int .u8 bt6, .int .u8 bt7] 61 (0, 0)), blk b3 (.cells (s.cells) 59 (0, 0)), blk b2 (.cells #[.int .u32 c.user, .int .u32 c.group, .slice pg c.groups.length cg] 56 (0, 0)), blk b1 (.cells #[.slice (some ⟨bl, 0, none⟩) ns.length c9, .int .u32 gen] 25 (0, 0)), base w (Low w), blk b7 (.cells #[.slice p ns.length cap, .int .u32 gen, .int .i64 (k : Int), .int .u32 c.user, .int .u32 c.group, .slice pg c.groups.length cg, .bool s.hm, .int .u32 s.mode, .bool s.hu, .int .u32 s.user, .bool s.hg, .int .u32 s.group, .bool s.hs, .int .u64 s.size, .int .u32 s.rh, .int .u32 s.rs, .int .u32 s.rn, .int .u32 s.wh, .int .u32 s.ws, .int .u32 s.wn, .int .u32 nows, .int .u32 nown, .bool (ownsS ns (k : Int) c)] 143 (0, 0))]) (fun w_ hw => ((by rw [e_]; exact (hw.pick [4, 0, 1, 2, 3, 5, 6, 7, 8, 9, 10, 11] (by decide)).dataSetK (n' := ({ deed2 s (setN s nows nown (nd ns k) 1) with ts := nows, tn := nown } : Node)) hk_ hl_ (deed2_same s _).1 (deed2_same s _).2 : Heap _ [dataI none G (ns.set k (setN s nows nown (nd ns k) 2)) (l11.set k a), blk b3 (.cells (s.cells) 59 (0, 0)), blk b14 (.cells #[.pointer (some ⟨bl, 0 + k * 25, none⟩)] 147 (0, 0)), own 44 25 (some ⟨bl, 0, none⟩) ns.length c10 (flat (ns.set k (setN s nows nown (nd ns k) 2)) (l11.set k a)), blk b15 (.cells #[.func (.func 71) #[] #[.pointer (some ⟨b3, 0, none⟩), .pointer (some ⟨b14, 0, none⟩)], .func (.func 73) #[] #[.pointer (some ⟨b3, 0, none⟩), .pointer (some ⟨b14, 0, none⟩)], .func (.func 74) #[] #[.pointer (some ⟨b3, 0, none⟩), .pointer (some ⟨b14, 0, none⟩)], .func (.func 75) #[] #[.pointer (some ⟨b3, 0, none⟩), .pointer (some ⟨b14, 0, none⟩), .pointer (some ⟨b4, 0, none⟩)], .func (.func 77) #[] #[.pointer (some ⟨b3, 0, none⟩), .pointer (some ⟨b14, 0, none⟩), .pointer (some ⟨b4, 0, none⟩)], .func (.func 78) #[] #[.pointer (some ⟨b3, 0, none⟩), .pointer (some ⟨b14, 0, none⟩), .pointer (some ⟨b4, 0, none⟩)]] 152 (0, 0)), blk b6 (.cells (attrsS ns (k : Int)) 38 (0, 0)), blk b5 (.cells #[.slice none 0 0, .int .u32 0] 25 (0, 0)), blk b4 (.cells #[.int .u32 nows, .int .u32 nown, .int .u8 bt0, .int .u8 bt1, .int .u8 bt2, .int .u8 bt3, .int .u8 bt4, .int .u8 bt5, .int .u8 bt6, .int .u8 bt7] 61 (0, 0)), blk b2 (.cells #[.int .u32 c.user, .int .u32 c.group, .slice pg c.groups.length cg] 56 (0, 0)), blk b1 (.cells #[.slice (some ⟨bl, 0, none⟩) ns.length c9, .int .u32 gen] 25 (0, 0)), base w (Low w), blk b7 (.cells #[.slice p ns.length cap, .int .u32 gen, .int .i64 (k : Int), .int .u32 c.user, .int .u32 c.group, .slice pg c.groups.length cg, .bool s.hm, .int .u32 s.mode, .bool s.hu, .int .u32 s.user, .bool s.hg, .int .u32 s.group, .bool s.hs, .int .u64 s.size, .int .u32 s.rh, .int .u32 s.rs, .int .u32 s.rn, .int .u32 s.wh, .int .u32 s.ws, .int .u32 s.wn, .int .u32 nows, .int .u32 nown, .bool (ownsS ns (k : Int) c)] 143 (0, 0))] w_)).pick [4, 2, 3, 0, 5, 6, 7, 1, 8, 9, 10, 11] (by decide)) ?_
         refine At.round (t := (1, a, G)) (fun _ _ h => h) (2, a, G) [0, 1, 2, 3, 4, 5, 6, 7, 8, 9, 10, 11] (by show 2 ≤ 6; decide) (by show 6 - 2 < 6 - 1; decide) (.cons (rfl) (.cons (rfl) (.cons (rfl) (.cons (rfl) (.cons (rfl) (.cons (rfl) (.cons (rfl) (.nil _)))))))) rfl (by decide)
        ·
         refine Ev.sk ?_
         refine At.nx (fun _ _ h => h) [79,78,77,76,75,74,21,18,11,10,9,5] rfl ?_
         refine Ev.rg 2 ?_
         refine Rg.p 85 (.binOp .add 3 (.tmp 75) (.const (.int .i64 1)) 3) (v := .int .i64 2) (pv_addL (2) rfl rfl (by decide) (by kernel_rfl)) ?_
         refine Rg.mv 75 85 rfl ?_
         refine Rg.fin rfl ?_
         have e_ : (setN s nows nown (nd ns k) 2) = deed2 s (setN s nows nown (nd ns k) 1) := by show cond s.hu _ _ = _; rw [h20]; rfl
         refine At.heap (S' := [blk b15 (.cells #[.func (.func 71) #[] #[.pointer (some ⟨b3, 0, none⟩), .pointer (some ⟨b14, 0, none⟩)], .func (.func 73) #[] #[.pointer (some ⟨b3, 0, none⟩), .pointer (some ⟨b14, 0, none⟩)], .func (.func 74) #[] #[.pointer (some ⟨b3, 0, none⟩), .pointer (some ⟨b14, 0, none⟩)], .func (.func 75) #[] #[.pointer (some ⟨b3, 0, none⟩), .pointer (some ⟨b14, 0, none⟩), .pointer (some ⟨b4, 0, none⟩)], .func (.func 77) #[] #[.pointer (some ⟨b3, 0, none⟩), .pointer (some ⟨b14, 0, none⟩), .pointer (some ⟨b4, 0, none⟩)], .func (.func 78) #[] #[.pointer (some ⟨b3, 0, none⟩), .pointer (some ⟨b14, 0, none⟩), .pointer (some ⟨b4, 0, none⟩)]] 152 (0, 0)), blk b14 (.cells #[.pointer (some ⟨bl, 0 + k * 25, none⟩)] 147 (0, 0)), own 44 25 (some ⟨bl, 0, none⟩) ns.length c10 (flat (ns.set k (setN s nows nown (nd ns k) 2)) (l11.set k a)), dataI none G (ns.set k (setN s nows nown (nd ns k) 2)) (l11.set k a), blk b6 (.cells (attrsS ns (k : Int)) 38 (0, 0)), blk b5 (.cells #[.slice none 0 0, .int .u32 0] 25 (0, 0)), blk b4 (.cells #[.int .u32 nows, .int .u32 nown, .int .u8 bt0, .int .u8 bt1, .int .u8 bt2, .int .u8 bt3, .int .u8 bt4, .int .u8 bt5, .int .u8 bt6, .int .u8 bt7] 61 (0, 0)), blk b3 (.cells (s.cells) 59 (0, 0)), blk b2 (.cells #[.int .u32 c.user, .int .u32 c.group, .slice pg c.groups.length cg] 56 (0, 0)), blk b1 (.cells #[.slice (some ⟨bl, 0, none⟩) ns.length c9, .int .u32 gen] 25 (0, 0)), base w (Low w), blk b7 (.cells #[.slice p ns.length cap, .int .u32 gen, .int .i64 (k : Int), .int .u32 c.user, .int .u32 c.group, .slice pg c.groups.length cg, .bool s.hm, .int .u32 s.mode, .bool s.hu, .int .u32 s.user, .bool s.hg, .int .u32 s.group, .bool s.hs, .int .u64 s.size, .int .u32 s.rh, .int .u32 s.rs, .int .u32 s.rn, .int .u32 s.wh, .int .u32 s.ws, .int .u32 s.wn, .int .u32 nows, .int .u32 nown, .bool (ownsS ns (k : Int) c)] 143 (0, 0))]) (fun w_ hw => ((by rw [e_]; exact (hw.pick [4, 0, 1, 2, 3, 5, 6, 7, 8, 9, 10, 11] (by decide)).dataSetK (n' := deed2 s (setN s nows nown (nd ns k) 1)) hk_ hl_ (deed2_same s _).1 (deed2_same s _).2 : Heap _ [dataI none G (ns.set k (setN s nows nown (nd ns k) 2)) (l11.set k a), blk b3 (.cells (s.cells) 59 (0, 0)), blk b14 (.cells #[.pointer (some ⟨bl, 0 + k * 25, none⟩)] 147 (0, 0)), own 44 25 (some ⟨bl, 0, none⟩) ns.length c10 (flat (ns.set k (setN s nows nown (nd ns k) 2)) (l11.set k a)), blk b15 (.cells #[.func (.func 71) #[] #[.pointer (some ⟨b3, 0, none⟩), .pointer (some ⟨b14, 0, none⟩)], .func (.func 73) #[] #[.pointer (some ⟨b3, 0, none⟩), .pointer (some ⟨b14, 0, none⟩)], .func (.func 74) #[] #[.pointer (some ⟨b3, 0, none⟩), .pointer (some ⟨b14, 0, none⟩)], .func (.func 75) #[] #[.pointer (some ⟨b3, 0, none⟩), .pointer (some ⟨b14, 0, none⟩), .pointer (some ⟨b4, 0, none⟩)], .func (.func 77) #[] #[.pointer (some ⟨b3, 0, none⟩), .pointer (some ⟨b14, 0, none⟩), .pointer (some ⟨b4, 0, none⟩)], .func (.func 78) #[] #[.pointer (some ⟨b3, 0, none⟩), .pointer (some ⟨b14, 0, none⟩), .pointer (some ⟨b4, 0, none⟩)]] 152 (0, 0)), blk b6 (.cells (attrsS ns (k : Int)) 38 (0, 0)), blk b5 (.cells #[.slice none 0 0, .int .u32 0] 25 (0, 0)), blk b4 (.cells #[.int .u32 nows, .int .u32 nown, .int .u8 bt0, .int .u8 bt1, .int .u8 bt2, .int .u8 bt3, .int .u8 bt4, .int .u8 bt5, .int .u8 bt6, .int .u8 bt7] 61 (0, 0)), blk b2 (.cells #[.int .u32 c.user, .int .u32 c.group, .slice pg c.groups.length cg] 56 (0, 0)), blk b1 (.cells #[.slice (some ⟨bl, 0, none⟩) ns.length c9, .int .u32 gen] 25 (0, 0)), base w (Low w), blk b7 (.cells #[.slice p ns.length cap, .int .u32 gen, .int .i64 (k : Int), .int .u32 c.user, .int .u32 c.group, .slice pg c.groups.length cg, .bool s.hm, .int .u32 s.mode, .bool s.hu, .int .u32 s.user, .bool s.hg, .int .u32 s.group, .bool s.hs, .int .u64 s.size, .int .u32 s.rh, .int .u32 s.rs, .int .u32 s.rn, .int .u32 s.wh, .int .u32 s.ws, .int .u32 s.wn, .int .u32 nows, .int .u32 nown, .bool (ownsS ns (k : Int) c)] 143 (0, 0))] w_)).pick [4, 2, 3, 0, 5, 6, 7, 1, 8, 9, 10, 11] (by decide)) ?_
         refine At.round (t := (1, a, G)) (fun _ _ h => h) (2, a, G) [0, 1, 2, 3, 4, 5, 6, 7, 8, 9, 10, 11] (by show 2 ≤ 6; decide) (by show 6 - 2 < 6 - 1; decide) (.cons (rfl) (.cons (rfl) (.cons (rfl) (.cons (rfl) (.cons (rfl) (.cons (rfl) (.cons (rfl) (.nil _)))))))) rfl (by decide)
       ·
        refine Ev.sr 1 ?_
        refine Rg.p 76 (.binOp .lss 3 (.tmp 75) (.const (.int .i64 6)) 3) (pv_lss rfl rfl) ?_
        refine Rg.know 76 (b := decide ((2 : Int) < 6)) (c := true) rfl (by decide) ?_
        refine Rg.nx (fun _ _ h => h) [76,75,74,18,11,10,9,5] rfl ?_
        refine Ev.sq ?_
        refine ev_cond_t (t := 76) (by kernel_rfl) rfl ?_
        refine Ev.sk ?_
        refine At.nx (fun _ _ h => h) [76,75,74,18,11,10,9,5] rfl ?_
        refine Ev.sq ?_
        refine Ev.bk 3 ?_
        refine Ev.sr 2 ?_
        refine Rg.p 77 (.index 152 (.tmp 74) (.tmp 75)) (v := .func (.func 74) #[] #[.pointer (some ⟨b3, 0, none⟩), .pointer (some ⟨b14, 0, none⟩)]) (pv_index_one (e := 27) (n := 6) rfl rfl (by kernel_rfl) (by kernel_rfl) (by kernel_rfl) (by decide) (by decide) rfl) ?_
        refine Rg.as 21 77 rfl ?_
        refine Rg.nx (fun _ _ h => h) [77,76,75,74,21,18,11,10,9,5] rfl ?_
        refine Ev.sr 2 ?_
        refine Rg.mv 78 21 rfl ?_
        refine rg_callM (T := Unit) (d := some 79) (f := 74) (fo := .tmp 78) (fs := #[]) (caps := #[.pointer (some ⟨b3, 0, none⟩), .pointer (some ⟨b14, 0, none⟩)]) (xs := #[]) (ts := #[]) (g := none) (v := fun _ => .bool s.hg) (L := fun _ => [blk b3 (.cells (s.cells) 59 (0, 0)), blk b14 (.cells #[.pointer (some ⟨bl, 0 + k * 25, none⟩)] 147 (0, 0)), own 44 25 (some ⟨bl, 0, none⟩) ns.length c10 (flat (ns.set k (deed3 s (setN s nows nown (nd ns k) 2))) (l11.set k a))]) [blk b3 (.cells (s.cells) 59 (0, 0)), blk b14 (.cells #[.pointer (some ⟨bl, 0 + k * 25, none⟩)] 147 (0, 0)), own 44 25 (some ⟨bl, 0, none⟩) ns.length c10 (flat (ns.set k (setN s nows nown (nd ns k) 2)) (l11.set k a))] [blk b15 (.cells #[.func (.func 71) #[] #[.pointer (some ⟨b3, 0, none⟩), .pointer (some ⟨b14, 0, none⟩)], .func (.func 73) #[] #[.pointer (some ⟨b3, 0, none⟩), .pointer (some ⟨b14, 0, none⟩)], .func (.func 74) #[] #[.pointer (some ⟨b3, 0, none⟩), .pointer (some ⟨b14, 0, none⟩)], .func (.func 75) #[] #[.pointer (some ⟨b3, 0, none⟩), .pointer (some ⟨b14, 0, none⟩), .pointer (some ⟨b4, 0, none⟩)], .func (.func 77) #[] #[.pointer (some ⟨b3, 0, none⟩), .pointer (some ⟨b14, 0, none⟩), .pointer (some ⟨b4, 0, none⟩)], .func (.func 78) #[] #[.pointer (some ⟨b3, 0, none⟩), .pointer (some ⟨b14, 0, none⟩), .pointer (some ⟨b4, 0, none⟩)]] 152 (0, 0)), dataI none G (ns.set k (setN s nows nown (nd ns k) 2)) (l11.set k a), blk b6 (.cells (attrsS ns (k : Int)) 38 (0, 0)), blk b5 (.cells #[.slice none 0 0, .int .u32 0] 25 (0, 0)), blk b4 (.cells #[.int .u32 nows, .int .u32 nown, .int .u8 bt0, .int .u8 bt1, .int .u8 bt2, .int .u8 bt3, .int .u8 bt4, .int .u8 bt5, .int .u8 bt6, .int .u8 bt7] 61 (0, 0)), blk b2 (.cells #[.int .u32 c.user, .int .u32 c.group, .slice pg c.groups.length cg] 56 (0, 0)), blk b1 (.cells #[.slice (some ⟨bl, 0, none⟩) ns.length c9, .int .u32 gen] 25 (0, 0)), base w (Low w), blk b7 (.cells #[.slice p ns.length cap, .int .u32 gen, .int .i64 (k : Int), .int .u32 c.user, .int .u32 c.group, .slice pg c.groups.length cg, .bool s.hm, .int .u32 s.mode, .bool s.hu, .int .u32 s.user, .bool s.hg, .int .u32 s.group, .bool s.hs, .int .u64 s.size, .int .u32 s.rh, .int .u32 s.rs, .int .u32 s.rn, .int .u32 s.wh, .int .u32 s.ws, .int .u32 s.wn, .int .u32 nows, .int .u32 nown, .bool (ownsS ns (k : Int) c)] 143 (0, 0))] (by kernel_rfl) (by kernel_rfl) rfl (by kernel_rfl) rfl (fun w hw => hw.pick [7, 1, 2, 0, 3, 4, 5, 6, 8, 9, 10, 11] (by decide)) (fun w fr_ hw => deed3_calls hk_ hl_ hw) ?_
        rintro _ _
        dsimp only [putE, List.append, HAppend.hAppend, Append.append]
        refine Rg.nx (fun _ _ h => h) [79,78,77,76,75,74,21,18,11,10,9,5] rfl ?_
        refine Ev.cd 79 rfl (fun h21 => ?_) (fun h21 => ?_)
        ·
         refine Ev.rg 6 ?_
         refine Rg.ld 80 147 18 1 rfl rfl rfl ?_
         refine Rg.fa 81 61 9 0 0 rfl ?_
         refine Rg.p 82 (.load 36 (.tmp 81)) (v := .agg #[.int .u32 nows, .int .u32 nown]) (pv_load_blk_agg 7 rfl rfl (vs := #[.int .u32 nows, .int .u32 nown]) (by kernel_rfl) (by kernel_rfl) (agg_rfl (by kernel_rfl))) ?_
         refine Rg.p 83 (.nilCheck (.tmp 80)) (pv_nilCheck rfl) ?_
         refine Rg.fa 84 44 83 8 10 rfl ?_
         refine rg_store_ownV (t := 36) (x := .tmp 84) (y := .tmp 82) (g := none) (xs' := flat (ns.set k ({ deed3 s (setN s nows nown (nd ns k) 2) with ts := nows, tn := nown } : Node)) (l11.set k a)) 2 (by kernel_rfl) (by kernel_rfl) rfl rfl rfl (by kernel_rfl) (by kernel_rfl) (by rw [flat_length, List.length_set]; show 0 + k * 25 + 10 + 2 ≤ _; omega) (by rw [show 0 + k * 25 + 10 = k * 25 + 10 by omega]; exact flat_putK hk_ hl_ (Nat.le_of_ble_eq_true (by kernel_rfl)) (by kernel_rfl)) ?_
         refine Rg.nx (fun _ _ h => h) [84,83,82,81,80,79,78,77,76,75,74,21,18,11,10,9,5] rfl ?_
         refine Ev.rg 2 ?_
         refine Rg.p 85 (.binOp .add 3 (.tmp 75) (.const (.int .i64 1)) 3) (v := .int .i64 3) (pv_addL (3) rfl rfl (by decide) (by kernel_rfl)) ?_
         refine Rg.mv 75 85 rfl ?_
         refine Rg.fin rfl ?_
         have e_ : (setN s nows nown (nd ns k) 3) = ({ deed3 s (setN s nows nown (nd ns k) 2) with ts := nows, tn := nown } : Node) := by show cond s.hg _ _ = _; rw [h21]; rfl
         refine At.heap (S' := [blk b15 (.cells #[.func (.func 71) #[] #[.pointer (some ⟨b3, 0, none⟩), .pointer (some ⟨b14, 0, none⟩)], .func (.func 73) #[] #[.pointer (some ⟨b3, 0, none⟩), .pointer (some ⟨b14, 0, none⟩)], .func (.func 74) #[] #[.pointer (some ⟨b3, 0, none⟩), .pointer (some ⟨b14, 0, none⟩)], .func (.func 75) #[] #[.pointer (some ⟨b3, 0, none⟩), .pointer (some ⟨b14, 0, none⟩), .pointer (some ⟨b4, 0, none⟩)], .func (.func 77) #[] #[.pointer (some ⟨b3, 0, none⟩), .pointer (some ⟨b14, 0, none⟩), .pointer (some ⟨b4, 0, none⟩)], .func (.func 78) #[] #[.pointer (some ⟨b3, 0, none⟩), .pointer (some ⟨b14, 0, none⟩), .pointer (some ⟨b4, 0, none⟩)]] 152 (0, 0)), blk b14 (.cells #[.pointer (some ⟨bl, 0 + k * 25, none⟩)] 147 (0, 0)), own 44 25 (some ⟨bl, 0, none⟩) ns.length c10 (flat (ns.set k (setN s nows nown (nd ns k) 3)) (l11.set k a)), dataI none G (ns.set k (setN s nows nown (nd ns k) 3)) (l11.set k a), blk b6 (.cells (attrsS ns (k : Int)) 38 (0, 0)), blk b5 (.cells #[.slice none 0 0, .int .u32 0] 25 (0, 0)), blk b4 (.cells #[.int .u32 nows, .int .u32 nown, .int .u8 bt0, .int .u8 bt1, .int .u8 bt2, .int .u8 bt3, .int .u8 bt4, .int .u8 bt5, .int .u8 bt6, .int .u8 bt7] 61 (0, 0)), blk b3 (.cells (s.cells) 59 (0, 0)), blk b2 (.cells #[.int .u32 c.user, .int .u32 c.group, .slice pg c.groups.length cg] 56 (0, 0)), blk b1 (.cells #[.slice (some ⟨bl, 0, none⟩) ns.length c9, .int .u32 gen] 25 (0, 0)), base w (Low w), blk b7 (.cells #[.slice p ns.length cap, .int .u32 gen, .int .i64 (k : Int), .int .u32 c.user, .int .u32 c.group, .slice pg c.groups.length cg, .bool s.hm, .int .u32 s.mode, .bool s.hu, .int .u32 s.user, .bool s.hg, .int .u32 s.group, .bool s.hs, .int .u64 s.size, .int .u32 s.rh, .int .u32 s.rs, .int .u32 s.rn, .int .u32 s.wh, .int .u32 s.ws, .int .u32 s.wn, .int .u32 nows, .int .u32 nown, .bool (ownsS ns (k : Int) c)] 143 (0, 0))]) (fun w_ hw => ((by rw [e_]; exact (hw.pick [4, 0, 1, 2, 3, 5, 6, 7, 8, 9, 10, 11] (by decide)).dataSetK (n' := ({ deed3 s (setN s nows nown (nd ns k) 2) with ts := nows, tn := nown } : Node)) hk_ hl_ (deed3_same s _).1 (deed3_same s _).2 : Heap _ [dataI none G (ns.set k (setN s nows nown (nd ns k) 3)) (l11.set k a), blk b3 (.cells (s.cells) 59 (0, 0)), blk b14 (.cells #[.pointer (some ⟨bl, 0 + k * 25, none⟩)] 147 (0, 0)), own 44 25 (some ⟨bl, 0, none⟩) ns.length c10 (flat (ns.set k (setN s nows nown (nd ns k) 3)) (l11.set k a)), blk b15 (.cells #[.func (.func 71) #[] #[.pointer (some ⟨b3, 0, none⟩), .pointer (some ⟨b14, 0, none⟩)], .func (.func 73) #[] #[.pointer (some ⟨b3, 0, none⟩), .pointer (some ⟨b14, 0, none⟩)], .func (.func 74) #[] #[.pointer (some ⟨b3, 0, none⟩), .pointer (some ⟨b14, 0, none⟩)], .func (.func 75) #[] #[.pointer (some ⟨b3, 0, none⟩), .pointer (some ⟨b14, 0, none⟩), .pointer (some ⟨b4, 0, none⟩)], .func (.func 77) #[] #[.pointer (some ⟨b3, 0, none⟩), .pointer (some ⟨b14, 0, none⟩), .pointer (some ⟨b4, 0, none⟩)], .func (.func 78) #[] #[.pointer (some ⟨b3, 0, none⟩), .pointer (some ⟨b14, 0, none⟩), .pointer (some ⟨b4, 0, none⟩)]] 152 (0, 0)), blk b6 (.cells (attrsS ns (k : Int)) 38 (0, 0)), blk b5 (.cells #[.slice none 0 0, .int .u32 0] 25 (0, 0)), blk b4 (.cells #[.int .u32 nows, .int .u32 nown, .int .u8 bt0, .int .u8 bt1, .int .u8 bt2, .int .u8 bt3, .int .u8 bt4, .int .u8 bt5, .int .u8 bt6, .int .u8 bt7] 61 (0, 0)), blk b2 (.cells #[.int .u32 c.user, .int .u32 c.group, .slice pg c.groups.length cg] 56 (0, 0)), blk b1 (.cells #[.slice (some ⟨bl, 0, none⟩) ns.length c9, .int .u32 gen] 25 (0, 0)), base w (Low w), blk b7 (.cells #[.slice p ns.length cap, .int .u32 gen, .int .i64 (k : Int), .int .u32 c.user, .int .u32 c.group, .slice pg c.groups.length cg, .bool s.hm, .int .u32 s.mode, .bool s.hu, .int .u32 s.user, .bool s.hg, .int .u32 s.group, .bool s.hs, .int .u64 s.size, .int .u32 s.rh, .int .u32 s.rs, .int .u32 s.rn, .int .u32 s.wh, .int .u32 s.ws, .int .u32 s.wn, .int .u32 nows, .int .u32 nown, .bool (ownsS ns (k : Int) c)] 143 (0, 0))] w_)).pick [4, 2, 3, 0, 5, 6, 7, 1, 8, 9, 10, 11] (by decide)) ?_
         refine At.round (t := (2, a, G)) (fun _ _ h => h) (3, a, G) [0, 1, 2, 3, 4, 5, 6, 7, 8, 9, 10, 11] (by show 3 ≤ 6; decide) (by show 6 - 3 < 6 - 2; decide) (.cons (rfl) (.cons (rfl) (.cons (rfl) (.cons (rfl) (.cons (rfl) (.cons (rfl) (.cons (rfl) (.nil _)))))))) rfl (by decide)
        ·
         refine Ev.sk ?_
         refine At.nx (fun _ _ h => h) [79,78,77,76,75,74,21,18,11,10,9,5] rfl ?_
         refine Ev.rg 2 ?_
         refine Rg.p 85 (.binOp .add 3 (.tmp 75) (.const (.int .i64 1)) 3) (v := .int .i64 3) (pv_addL (3) rfl rfl (by decide) (by kernel_rfl)) ?_
         refine Rg.mv 75 85 rfl ?_
         refine Rg.fin rfl ?_
         have e_ : (setN s nows nown (nd ns k) 3) = deed3 s (setN s nows nown (nd ns k) 2) := by show cond s.hg _ _ = _; rw [h21]; rfl
         refine At.heap (S' := [blk b15 (.cells #[.func (.func 71) #[] #[.pointer (some ⟨b3, 0, none⟩), .pointer (some ⟨b14, 0, none⟩)], .func (.func 73) #[] #[.pointer (some ⟨b3, 0, none⟩), .pointer (some ⟨b14, 0, none⟩)], .func (.func 74) #[] #[.pointer (some ⟨b3, 0, none⟩), .pointer (some ⟨b14, 0, none⟩)], .func (.func 75) #[] #[.pointer (some ⟨b3, 0, none⟩), .pointer (some ⟨b14, 0, none⟩), .pointer (some ⟨b4, 0, none⟩)], .func (.func 77) #[] #[.pointer (some ⟨b3, 0, none⟩), .pointer (some ⟨b14, 0, none⟩), .pointer (some ⟨b4, 0, none⟩)], .func (.func 78) #[] #[.pointer (some ⟨b3, 0, none⟩), .pointer (some ⟨b14, 0, none⟩), .pointer (some ⟨b4, 0, none⟩)]] 152 (0, 0)), blk b14 (.cells #[.pointer (some ⟨bl, 0 + k * 25, none⟩)] 147 (0, 0)), own 44 25 (some ⟨bl, 0, none⟩) ns.length c10 (flat (ns.set k (setN s nows nown (nd ns k) 3)) (l11.set k a)), dataI none G (ns.set k (setN s nows nown (nd ns k) 3)) (l11.set k a), blk b6 (.cells (attrsS ns (k : Int)) 38 (0, 0)), blk b5 (.cells #[.slice none 0 0, .int .u32 0] 25 (0, 0)), blk b4 (.cells #[.int .u32 nows, .int .u32 nown, .int .u8 bt0, .int .u8 bt1, .int .u8 bt2, .int .u8 bt3, .int .u8 bt4, .int .u8 bt5, .int .u8 bt6, .int .u8 bt7] 61 (0, 0)), blk b3 (.cells (s.cells) 59 (0, 0)), blk b2 (.cells #[.int .u32 c.user, .int .u32 c.group, .slice pg c.groups.length cg] 56 (0, 0)), blk b1 (.cells #[.slice (some ⟨bl, 0, none⟩) ns.length c9, .int .u32 gen] 25 (0, 0)), base w (Low w), blk b7 (.cells #[.slice p ns.length cap, .int .u32 gen, .int .i64 (k : Int), .int .u32 c.user, .int .u32 c.group, .slice pg c.groups.length cg, .bool s.hm, .int .u32 s.mode, .bool s.hu, .int .u32 s.user, .bool s.hg, .int .u32 s.group, .bool s.hs, .int .u64 s.size, .int .u32 s.rh, .int .u32 s.rs, .int .u32 s.rn, .int .u32 s.wh, .int .u32 s.ws, .int .u32 s.wn, .int .u32 nows, .int .u32 nown, .bool (ownsS ns (k : Int) c)] 143 (0, 0))]) (fun w_ hw => ((by rw [e_]; exact (hw.pick [4, 0, 1, 2, 3, 5, 6, 7, 8, 9, 10, 11] (by decide)).dataSetK (n' := deed3 s (setN s nows nown (nd ns k) 2)) hk_ hl_ (deed3_same s _).1 (deed3_same s _).2 : Heap _ [dataI none G (ns.set k (setN s nows nown (nd ns k) 3)) (l11.set k a), blk b3 (.cells (s.cells) 59 (0, 0)), blk b14 (.cells #[.pointer (some ⟨bl, 0 + k * 25, none⟩)] 147 (0, 0)), own 44 25 (some ⟨bl, 0, none⟩) ns.length c10 (flat (ns.set k (setN s nows nown (nd ns k) 3)) (l11.set k a)), blk b15 (.cells #[.func (.func 71) #[] #[.pointer (some ⟨b3, 0, none⟩), .pointer (some ⟨b14, 0, none⟩)], .func (.func 73) #[] #[.pointer (some ⟨b3, 0, none⟩), .pointer (some ⟨b14, 0, none⟩)], .func (.func 74) #[] #[.pointer (some ⟨b3, 0, none⟩), .pointer (some ⟨b14, 0, none⟩)], .func (.func 75) #[] #[.pointer (some ⟨b3, 0, none⟩), .pointer (some ⟨b14, 0, none⟩), .pointer (some ⟨b4, 0, none⟩)], .func (.func 77) #[] #[.pointer (some ⟨b3, 0, none⟩), .pointer (some ⟨b14, 0, none⟩), .pointer (some ⟨b4, 0, none⟩)], .func (.func 78) #[] #[.pointer (some ⟨b3, 0, none⟩), .pointer (some ⟨b14, 0, none⟩), .pointer (some ⟨b4, 0, none⟩)]] 152 (0, 0)), blk b6 (.cells (attrsS ns (k : Int)) 38 (0, 0)), blk b5 (.cells #[.slice none 0 0, .int .u32 0] 25 (0, 0)), blk b4 (.cells #[.int .u32 nows, .int .u32 nown, .int .u8 bt0, .int .u8 bt1, .int .u8 bt2, .int .u8 bt3, .int .u8 bt4, .int .u8 bt5, .int .u8 bt6, .int .u8 bt7] 61 (0, 0)), blk b2 (.cells #[.int .u32 c.user, .int .u32 c.group, .slice pg c.groups.length cg] 56 (0, 0)), blk b1 (.cells #[.slice (some ⟨bl, 0, none⟩) ns.length c9, .int .u32 gen] 25 (0, 0)), base w (Low w), blk b7 (.cells #[.slice p ns.length cap, .int .u32 gen, .int .i64 (k : Int), .int .u32 c.user, .int .u32 c.group, .slice pg c.groups.length cg, .bool s.hm, .int .u32 s.mode, .bool s.hu, .int .u32 s.user, .bool s.hg, .int .u32 s.group, .bool s.hs, .int .u64 s.size, .int .u32 s.rh, .int .u32 s.rs, .int .u32 s.rn, .int .u32 s.wh, .int .u32 s.ws, .int .u32 s.wn, .int .u32 nows, .int .u32 nown, .bool (ownsS ns (k : Int) c)] 143 (0, 0))] w_)).pick [4, 2, 3, 0, 5, 6, 7, 1, 8, 9, 10, 11] (by decide)) ?_
         refine At.round (t := (2, a, G)) (fun _ _ h => h) (3, a, G) [0, 1, 2, 3, 4, 5, 6, 7, 8, 9, 10, 11] (by show 3 ≤ 6; decide) (by show 6 - 3 < 6 - 2; decide) (.cons (rfl) (.cons (rfl) (.cons (rfl) (.cons (rfl) (.cons (rfl) (.cons (rfl) (.cons (rfl) (.nil _)))))))) rfl (by decide)
       ·
        refine Ev.sr 1 ?_
        refine Rg.p 76 (.binOp .lss 3 (.tmp 75) (.const (.int .i64 6)) 3) (pv_lss rfl rfl) ?_
        refine Rg.know 76 (b := decide ((3 : Int) < 6)) (c := true) rfl (by decide) ?_
        refine Rg.nx (fun _ _ h => h) [76,75,74,18,11,10,9,5] rfl ?_
        refine Ev.sq ?_
        refine ev_cond_t (t := 76) (by kernel_rfl) rfl ?_
        refine Ev.sk ?_
        refine At.nx (fun _ _ h => h) [76,75,74,18,11,10,9,5] rfl ?_
        refine Ev.sq ?_
        refine Ev.bk 3 ?_
        refine Ev.sr 2 ?_
        refine Rg.p 77 (.index 152 (.tmp 74) (.tmp 75)) (v := .func (.func 75) #[] #[.pointer (some ⟨b3, 0, none⟩), .pointer (some ⟨b14, 0, none⟩), .pointer (some ⟨b4, 0, none⟩)]) (pv_index_one (e := 27) (n := 6) rfl rfl (by kernel_rfl) (by kernel_rfl) (by kernel_rfl) (by decide) (by decide) rfl) ?_
        refine Rg.as 21 77 rfl ?_
        refine Rg.nx (fun _ _ h => h) [77,76,75,74,21,18,11,10,9,5] rfl ?_
        refine Ev.sr 2 ?_
        refine Rg.mv 78 21 rfl ?_
        refine rg_callM (T := Loc × (Nat → Prop)) (d := some 79) (f := 75) (fo := .tmp 78) (fs := #[]) (caps := #[.pointer (some ⟨b3, 0, none⟩), .pointer (some ⟨b14, 0, none⟩), .pointer (some ⟨b4, 0, none⟩)]) (xs := #[]) (ts := #[]) (g := none) (v := fun ⟨l16, G17⟩ => .bool s.hs) (L := fun ⟨l16, G17⟩ => [blk b3 (.cells (s.cells) 59 (0, 0)), blk b14 (.cells #[.pointer (some ⟨bl, 0 + k * 25, none⟩)] 147 (0, 0)), blk b4 (.cells #[.int .u32 nows, .int .u32 nown, .int .u8 bt0, .int .u8 bt1, .int .u8 bt2, .int .u8 bt3, .int .u8 bt4, .int .u8 bt5, .int .u8 bt6, .int .u8 bt7] 61 (0, 0)), own 44 25 (some ⟨bl, 0, none⟩) ns.length c10 (flat (ns.set k (deed4 s nows nown (setN s nows nown (nd ns k) 3))) (l11.set k l16)), dataI none G17 (ns.set k (deed4 s nows nown (setN s nows nown (nd ns k) 3))) (l11.set k l16)]) [blk b3 (.cells (s.cells) 59 (0, 0)), blk b14 (.cells #[.pointer (some ⟨bl, 0 + k * 25, none⟩)] 147 (0, 0)), blk b4 (.cells #[.int .u32 nows, .int .u32 nown, .int .u8 bt0, .int .u8 bt1, .int .u8 bt2, .int .u8 bt3, .int .u8 bt4, .int .u8 bt5, .int .u8 bt6, .int .u8 bt7] 61 (0, 0)), own 44 25 (some ⟨bl, 0, none⟩) ns.length c10 (flat (ns.set k (setN s nows nown (nd ns k) 3)) (l11.set k a)), dataI none G (ns.set k (setN s nows nown (nd ns k) 3)) (l11.set k a)] [blk b15 (.cells #[.func (.func 71) #[] #[.pointer (some ⟨b3, 0, none⟩), .pointer (some ⟨b14, 0, none⟩)], .func (.func 73) #[] #[.pointer (some ⟨b3, 0, none⟩), .pointer (some ⟨b14, 0, none⟩)], .func (.func 74) #[] #[.pointer (some ⟨b3, 0, none⟩), .pointer (some ⟨b14, 0, none⟩)], .func (.func 75) #[] #[.pointer (some ⟨b3, 0, none⟩), .pointer (some ⟨b14, 0, none⟩), .pointer (some ⟨b4, 0, none⟩)], .func (.func 77) #[] #[.pointer (some ⟨b3, 0, none⟩), .pointer (some ⟨b14, 0, none⟩), .pointer (some ⟨b4, 0, none⟩)], .func (.func 78) #[] #[.pointer (some ⟨b3, 0, none⟩), .pointer (some ⟨b14, 0, none⟩), .pointer (some ⟨b4, 0, none⟩)]] 152 (0, 0)), blk b6 (.cells (attrsS ns (k : Int)) 38 (0, 0)), blk b5 (.cells #[.slice none 0 0, .int .u32 0] 25 (0, 0)), blk b2 (.cells #[.int .u32 c.user, .int .u32 c.group, .slice pg c.groups.length cg] 56 (0, 0)), blk b1 (.cells #[.slice (some ⟨bl, 0, none⟩) ns.length c9, .int .u32 gen] 25 (0, 0)), base w (Low w), blk b7 (.cells #[.slice p ns.length cap, .int .u32 gen, .int .i64 (k : Int), .int .u32 c.user, .int .u32 c.group, .slice pg c.groups.length cg, .bool s.hm, .int .u32 s.mode, .bool s.hu, .int .u32 s.user, .bool s.hg, .int .u32 s.group, .bool s.hs, .int .u64 s.size, .int .u32 s.rh, .int .u32 s.rs, .int .u32 s.rn, .int .u32 s.wh, .int .u32 s.ws, .int .u32 s.wn, .int .u32 nows, .int .u32 nown, .bool (ownsS ns (k : Int) c)] 143 (0, 0))] (by kernel_rfl) (by kernel_rfl) rfl (by kernel_rfl) rfl (fun w hw => hw.pick [7, 1, 6, 2, 3, 0, 4, 5, 8, 9, 10, 11] (by decide)) (fun w fr_ hw => deed4_calls hk_ hl_ hs0_ hs1_ hw) ?_
        rintro ⟨l16, G17⟩ _
        dsimp only [putE, List.append, HAppend.hAppend, Append.append]
        refine Rg.nx (fun _ _ h => h) [79,78,77,76,75,74,21,18,11,10,9,5] rfl ?_
        refine Ev.cd 79 rfl (fun h22 => ?_) (fun h22 => ?_)
        ·
         refine Ev.rg 6 ?_
         refine Rg.ld 80 147 18 1 rfl rfl rfl ?_
         refine Rg.fa 81 61 9 0 0 rfl ?_
         refine Rg.p 82 (.load 36 (.tmp 81)) (v := .agg #[.int .u32 nows, .int .u32 nown]) (pv_load_blk_agg 2 rfl rfl (vs := #[.int .u32 nows, .int .u32 nown]) (by kernel_rfl) (by kernel_rfl) (agg_rfl (by kernel_rfl))) ?_
         refine Rg.p 83 (.nilCheck (.tmp 80)) (pv_nilCheck rfl) ?_
         refine Rg.fa 84 44 83 8 10 rfl ?_
         refine rg_store_ownV (t := 36) (x := .tmp 84) (y := .tmp 82) (g := none) (xs' := flat (ns.set k ({ deed4 s nows nown (setN s nows nown (nd ns k) 3) with ts := nows, tn := nown } : Node)) (l11.set k l16)) 3 (by kernel_rfl) (by kernel_rfl) rfl rfl rfl (by kernel_rfl) (by kernel_rfl) (by rw [flat_length, List.length_set]; show 0 + k * 25 + 10 + 2 ≤ _; omega) (by rw [show 0 + k * 25 + 10 = k * 25 + 10 by omega]; exact flat_putK hk_ hl_ (Nat.le_of_ble_eq_true (by kernel_rfl)) (by kernel_rfl)) ?_
         refine Rg.nx (fun _ _ h => h) [84,83,82,81,80,79,78,77,76,75,74,21,18,11,10,9,5] rfl ?_
         refine Ev.rg 2 ?_
         refine Rg.p 85 (.binOp .add 3 (.tmp 75) (.const (.int .i64 1)) 3) (v := .int .i64 4) (pv_addL (4) rfl rfl (by decide) (by kernel_rfl)) ?_
         refine Rg.mv 75 85 rfl ?_
         refine Rg.fin rfl ?_
         have e_ : (setN s nows nown (nd ns k) 4) = ({ deed4 s nows nown (setN s nows nown (nd ns k) 3) with ts := nows, tn := nown } : Node) := by show cond s.hs _ _ = _; rw [h22]; rfl
         refine At.heap (S' := [blk b15 (.cells #[.func (.func 71) #[] #[.pointer (some ⟨b3, 0, none⟩), .pointer (some ⟨b14, 0, none⟩)], .func (.func 73) #[] #[.pointer (some ⟨b3, 0, none⟩), .pointer (some ⟨b14, 0, none⟩)], .func (.func 74) #[] #[.pointer (some ⟨b3, 0, none⟩), .pointer (some ⟨b14, 0, none⟩)], .func (.func 75) #[] #[.pointer (some ⟨b3, 0, none⟩), .pointer (some ⟨b14, 0, none⟩), .pointer (some ⟨b4, 0, none⟩)], .func (.func 77) #[] #[.pointer (some ⟨b3, 0, none⟩), .pointer (some ⟨b14, 0, none⟩), .pointer (some ⟨b4, 0, none⟩)], .func (.func 78) #[] #[.pointer (some ⟨b3, 0, none⟩), .pointer (some ⟨b14, 0, none⟩), .pointer (some ⟨b4, 0, none⟩)]] 152 (0, 0)), blk b14 (.cells #[.pointer (some ⟨bl, 0 + k * 25, none⟩)] 147 (0, 0)), own 44 25 (some ⟨bl, 0, none⟩) ns.length c10 (flat (ns.set k (setN s nows nown (nd ns k) 4)) (l11.set k l16)), dataI none G17 (ns.set k (setN s nows nown (nd ns k) 4)) (l11.set k l16), blk b6 (.cells (attrsS ns (k : Int)) 38 (0, 0)), blk b5 (.cells #[.slice none 0 0, .int .u32 0] 25 (0, 0)), blk b4 (.cells #[.int .u32 nows, .int .u32 nown, .int .u8 bt0, .int .u8 bt1, .int .u8 bt2, .int .u8 bt3, .int .u8 bt4, .int .u8 bt5, .int .u8 bt6, .int .u8 bt7] 61 (0, 0)), blk b3 (.cells (s.cells) 59 (0, 0)), blk b2 (.cells #[.int .u32 c.user, .int .u32 c.group, .slice pg c.groups.length cg] 56 (0, 0)), blk b1 (.cells #[.slice (some ⟨bl, 0, none⟩) ns.length c9, .int .u32 gen] 25 (0, 0)), base w (Low w), blk b7 (.cells #[.slice p ns.length cap, .int .u32 gen, .int .i64 (k : Int), .int .u32 c.user, .int .u32 c.group, .slice pg c.groups.length cg, .bool s.hm, .int .u32 s.mode, .bool s.hu, .int .u32 s.user, .bool s.hg, .int .u32 s.group, .bool s.hs, .int .u64 s.size, .int .u32 s.rh, .int .u32 s.rs, .int .u32 s.rn, .int .u32 s.wh, .int .u32 s.ws, .int .u32 s.wn, .int .u32 nows, .int .u32 nown, .bool (ownsS ns (k : Int) c)] 143 (0, 0))]) (fun w_ hw => ((by rw [e_]; exact (hw.pick [4, 0, 1, 2, 3, 5, 6, 7, 8, 9, 10, 11] (by decide)).dataSetK (n' := ({ deed4 s nows nown (setN s nows nown (nd ns k) 3) with ts := nows, tn := nown } : Node)) hk_ hl_ rfl rfl : Heap _ [dataI none G17 (ns.set k (setN s nows nown (nd ns k) 4)) (l11.set k l16), blk b3 (.cells (s.cells) 59 (0, 0)), blk b14 (.cells #[.pointer (some ⟨bl, 0 + k * 25, none⟩)] 147 (0, 0)), blk b4 (.cells #[.int .u32 nows, .int .u32 nown, .int .u8 bt0, .int .u8 bt1, .int .u8 bt2, .int .u8 bt3, .int .u8 bt4, .int .u8 bt5, .int .u8 bt6, .int .u8 bt7] 61 (0, 0)), own 44 25 (some ⟨bl, 0, none⟩) ns.length c10 (flat (ns.set k (setN s nows nown (nd ns k) 4)) (l11.set k l16)), blk b15 (.cells #[.func (.func 71) #[] #[.pointer (some ⟨b3, 0, none⟩), .pointer (some ⟨b14, 0, none⟩)], .func (.func 73) #[] #[.pointer (some ⟨b3, 0, none⟩), .pointer (some ⟨b14, 0, none⟩)], .func (.func 74) #[] #[.pointer (some ⟨b3, 0, none⟩), .pointer (some ⟨b14, 0, none⟩)], .func (.func 75) #[] #[.pointer (some ⟨b3, 0, none⟩), .pointer (some ⟨b14, 0, none⟩), .pointer (some ⟨b4, 0, none⟩)], .func (.func 77) #[] #[.pointer (some ⟨b3, 0, none⟩), .pointer (some ⟨b14, 0, none⟩), .pointer (some ⟨b4, 0, none⟩)], .func (.func 78) #[] #[.pointer (some ⟨b3, 0, none⟩), .pointer (some ⟨b14, 0, none⟩), .pointer (some ⟨b4, 0, none⟩)]] 152 (0, 0)), blk b6 (.cells (attrsS ns (k : Int)) 38 (0, 0)), blk b5 (.cells #[.slice none 0 0, .int .u32 0] 25 (0, 0)), blk b2 (.cells #[.int .u32 c.user, .int .u32 c.group, .slice pg c.groups.length cg] 56 (0, 0)), blk b1 (.cells #[.slice (some ⟨bl, 0, none⟩) ns.length c9, .int .u32 gen] 25 (0, 0)), base w (Low w), blk b7 (.cells #[.slice p ns.length cap, .int .u32 gen, .int .i64 (k : Int), .int .u32 c.user, .int .u32 c.group, .slice pg c.groups.length cg, .bool s.hm, .int .u32 s.mode, .bool s.hu, .int .u32 s.user, .bool s.hg, .int .u32 s.group, .bool s.hs, .int .u64 s.size, .int .u32 s.rh, .int .u32 s.rs, .int .u32 s.rn, .int .u32 s.wh, .int .u32 s.ws, .int .u32 s.wn, .int .u32 nows, .int .u32 nown, .bool (ownsS ns (k : Int) c)] 143 (0, 0))] w_)).pick [5, 2, 4, 0, 6, 7, 3, 1, 8, 9, 10, 11] (by decide)) ?_
         refine At.round (t := (3, a, G)) (fun _ _ h => h) (4, l16, G17) [0, 1, 2, 3, 4, 5, 6, 7, 8, 9, 10, 11] (by show 4 ≤ 6; decide) (by show 6 - 4 < 6 - 3; decide) (.cons (rfl) (.cons (rfl) (.cons (rfl) (.cons (rfl) (.cons (rfl) (.cons (rfl) (.cons (rfl) (.nil _)))))))) rfl (by decide)
        ·
         refine Ev.sk ?_
         refine At.nx (fun _ _ h => h) [79,78,77,76,75,74,21,18,11,10,9,5] rfl ?_
         refine Ev.rg 2 ?_
         refine Rg.p 85 (.binOp .add 3 (.tmp 75) (.const (.int .i64 1)) 3) (v := .int .i64 4) (pv_addL (4) rfl rfl (by decide) (by kernel_rfl)) ?_
         refine Rg.mv 75 85 rfl ?_
         refine Rg.fin rfl ?_
         have e_ : (setN s nows nown (nd ns k) 4) = deed4 s nows nown (setN s nows nown (nd ns k) 3) := by show cond s.hs _ _ = _; rw [h22]; rfl
         refine At.heap (S' := [blk b15 (.cells #[.func (.func 71) #[] #[.pointer (some ⟨b3, 0, none⟩), .pointer (some ⟨b14, 0, none⟩)], .func (.func 73) #[] #[.pointer (some ⟨b3, 0, none⟩), .pointer (some ⟨b14, 0, none⟩)], .func (.func 74) #[] #[.pointer (some ⟨b3, 0, none⟩), .pointer (some ⟨b14, 0, none⟩)], .func (.func 75) #[] #[.pointer (some ⟨b3, 0, none⟩), .pointer (some ⟨b14, 0, none⟩), .pointer (some ⟨b4, 0, none⟩)], .func (.func 77) #[] #[.pointer (some ⟨b3, 0, none⟩), .pointer (some ⟨b14, 0, none⟩), .pointer (some ⟨b4, 0, none⟩)], .func (.func 78) #[] #[.pointer (some ⟨b3, 0, none⟩), .pointer (some ⟨b14, 0, none⟩), .pointer (some ⟨b4, 0, none⟩)]] 152 (0, 0)), blk b14 (.cells #[.pointer (some ⟨bl, 0 + k * 25, none⟩)] 147 (0, 0)), own 44 25 (some ⟨bl, 0, none⟩) ns.length c10 (flat (ns.set k (setN s nows nown (nd ns k) 4)) (l11.set k l16)), dataI none G17 (ns.set k (setN s nows nown (nd ns k) 4)) (l11.set k l16), blk b6 (.cells (attrsS ns (k : Int)) 38 (0, 0)), blk b5 (.cells #[.slice none 0 0, .int .u32 0] 25 (0, 0)), blk b4 (.cells #[.int .u32 nows, .int .u32 nown, .int .u8 bt0, .int .u8 bt1, .int .u8 bt2, .int .u8 bt3, .int .u8 bt4, .int .u8 bt5, .int .u8 bt6, .int .u8 bt7] 61 (0, 0)), blk b3 (.cells (s.cells) 59 (0, 0)), blk b2 (.cells #[.int .u32 c.user, .int .u32 c.group, .slice pg c.groups.length cg] 56 (0, 0)), blk b1 (.cells #[.slice (some ⟨bl, 0, none⟩) ns.length c9, .int .u32 gen] 25 (0, 0)), base w (Low w), blk b7 (.cells #[.slice p ns.length cap, .int .u32 gen, .int .i64 (k : Int), .int .u32 c.user, .int .u32 c.group, .slice pg c.groups.length cg, .bool s.hm, .int .u32 s.mode, .bool s.hu, .int .u32 s.user, .bool s.hg, .int .u32 s.group, .bool s.hs, .int .u64 s.size, .int .u32 s.rh, .int .u32 s.rs, .int .u32 s.rn, .int .u32 s.wh, .int .u32 s.ws, .int .u32 s.wn, .int .u32 nows, .int .u32 nown, .bool (ownsS ns (k : Int) c)] 143 (0, 0))]) (fun w_ hw => ((by rw [e_]; exact (hw.pick [4, 0, 1, 2, 3, 5, 6, 7, 8, 9, 10, 11] (by decide)).dataSetK (n' := deed4 s nows nown (setN s nows nown (nd ns k) 3)) hk_ hl_ rfl rfl : Heap _ [dataI none G17 (ns.set k (setN s nows nown (nd ns k) 4)) (l11.set k l16), blk b3 (.cells (s.cells) 59 (0, 0)), blk b14 (.cells #[.pointer (some ⟨bl, 0 + k * 25, none⟩)] 147 (0, 0)), blk b4 (.cells #[.int .u32 nows, .int .u32 nown, .int .u8 bt0, .int .u8 bt1, .int .u8 bt2, .int .u8 bt3, .int .u8 bt4, .int .u8 bt5, .int .u8 bt6, .int .u8 bt7] 61 (0, 0)), own 44 25 (some ⟨bl, 0, none⟩) ns.length c10 (flat (ns.set k (setN s nows nown (nd ns k) 4)) (l11.set k l16)), blk b15 (.cells #[.func (.func 71) #[] #[.pointer (some ⟨b3, 0, none⟩), .pointer (some ⟨b14, 0, none⟩)], .func (.func 73) #[] #[.pointer (some ⟨b3, 0, none⟩), .pointer (some ⟨b14, 0, none⟩)], .func (.func 74) #[] #[.pointer (some ⟨b3, 0, none⟩), .pointer (some ⟨b14, 0, none⟩)], .func (.func 75) #[] #[.pointer (some ⟨b3, 0, none⟩), .pointer (some ⟨b14, 0, none⟩), .pointer (some ⟨b4, 0, none⟩)], .func (.func 77) #[] #[.pointer (some ⟨b3, 0, none⟩), .pointer (some ⟨b14, 0, none⟩), .pointer (some ⟨b4, 0, none⟩)], .func (.func 78) #[] #[.pointer (some ⟨b3, 0, none⟩), .pointer (some ⟨b14, 0, none⟩), .pointer (some ⟨b4, 0, none⟩)]] 152 (0, 0)), blk b6 (.cells (attrsS ns (k : Int)) 38 (0, 0)), blk b5 (.cells #[.slice none 0 0, .int .u32 0] 25 (0, 0)), blk b2 (.cells #[.int .u32 c.user, .int .u32 c.group, .slice pg c.groups.length cg] 56 (0, 0)), blk b1 (.cells #[.slice (some ⟨bl, 0, none⟩) ns.length c9, .int .u32 gen] 25 (0, 0)), base w (Low w), blk b7 (.cells #[.slice p ns.length cap, .int .u32 gen, .int .i64 (k : Int), .int .u32 c.user, .int .u32 c.group, .slice pg c.groups.length cg, .bool s.hm, .int .u32 s.mode, .bool s.hu, .int .u32 s.user, .bool s.hg, .int .u32 s.group, .bool s.hs, .int .u64 s.size, .int .u32 s.rh, .int .u32 s.rs, .int .u32 s.rn, .int .u32 s.wh, .int .u32 s.ws, .int .u32 s.wn, .int .u32 nows, .int .u32 nown, .bool (ownsS ns (k : Int) c)] 143 (0, 0))] w_)).pick [5, 2, 4, 0, 6, 7, 3, 1, 8, 9, 10, 11] (by decide)) ?_
         refine At.round (t := (3, a, G)) (fun _ _ h => h) (4, l16, G17) [0, 1, 2, 3, 4, 5, 6, 7, 8, 9, 10, 11] (by show 4 ≤ 6; decide) (by show 6 - 4 < 6 - 3; decide) (.cons (rfl) (.cons (rfl) (.cons (rfl) (.cons (rfl) (.cons (rfl) (.cons (rfl) (.cons (rfl) (.nil _)))))))) rfl (by decide)
       ·
        refine Ev.sr 1 ?_
        refine Rg.p 76 (.binOp .lss 3 (.tmp 75) (.const (.int .i64 6)) 3) (pv_lss rfl rfl) ?_
        refine Rg.know 76 (b := decide ((4 : Int) < 6)) (c := true) rfl (by decide) ?_
        refine Rg.nx (fun _ _ h => h) [76,75,74,18,11,10,9,5] rfl ?_
        refine Ev.sq ?_
        refine ev_cond_t (t := 76) (by kernel_rfl) rfl ?_
        refine Ev.sk ?_
        refine At.nx (fun _ _ h => h) [76,75,74,18,11,10,9,5] rfl ?_
        refine Ev.sq ?_
        refine Ev.bk 3 ?_
        refine Ev.sr 2 ?_
        refine Rg.p 77 (.index 152 (.tmp 74) (.tmp 75)) (v := .func (.func 77) #[] #[.pointer (some ⟨b3, 0, none⟩), .pointer (some ⟨b14, 0, none⟩), .pointer (some ⟨b4, 0, none⟩)]) (pv_index_one (e := 27) (n := 6) rfl rfl (by kernel_rfl) (by kernel_rfl) (by kernel_rfl) (by decide) (by decide) rfl) ?_
        refine Rg.as 21 77 rfl ?_
        refine Rg.nx (fun _ _ h => h) [77,76,75,74,21,18,11,10,9,5] rfl ?_
        refine Ev.sr 2 ?_
        refine Rg.mv 78 21 rfl ?_
        refine rg_callM (T := Unit) (d := some 79) (f := 77) (fo := .tmp 78) (fs := #[]) (caps := #[.pointer (some ⟨b3, 0, none⟩), .pointer (some ⟨b14, 0, none⟩), .pointer (some ⟨b4, 0, none⟩)]) (xs := #[]) (ts := #[]) (g := none) (v := fun _ => .bool ((decide (s.rh = 2)) || (decide (s.rh = 1)))) (L := fun _ => [blk b3 (.cells (s.cells) 59 (0, 0)), blk b14 (.cells #[.pointer (some ⟨bl, 0 + k * 25, none⟩)] 147 (0, 0)), blk b4 (.cells #[.int .u32 nows, .int .u32 nown, .int .u8 bt0, .int .u8 bt1, .int .u8 bt2, .int .u8 bt3, .int .u8 bt4, .int .u8 bt5, .int .u8 bt6, .int .u8 bt7] 61 (0, 0)), own 44 25 (some ⟨bl, 0, none⟩) ns.length c10 (flat (ns.set k (deed5 s nows nown (setN s nows nown (nd ns k) 4))) (l11.set k a))]) [blk b3 (.cells (s.cells) 59 (0, 0)), blk b14 (.cells #[.pointer (some ⟨bl, 0 + k * 25, none⟩)] 147 (0, 0)), blk b4 (.cells #[.int .u32 nows, .int .u32 nown, .int .u8 bt0, .int .u8 bt1, .int .u8 bt2, .int .u8 bt3, .int .u8 bt4, .int .u8 bt5, .int .u8 bt6, .int .u8 bt7] 61 (0, 0)), own 44 25 (some ⟨bl, 0, none⟩) ns.length c10 (flat (ns.set k (setN s nows nown (nd ns k) 4)) (l11.set k a))] [blk b15 (.cells #[.func (.func 71) #[] #[.pointer (some ⟨b3, 0, none⟩), .pointer (some ⟨b14, 0, none⟩)], .func (.func 73) #[] #[.pointer (some ⟨b3, 0, none⟩), .pointer (some ⟨b14, 0, none⟩)], .func (.func 74) #[] #[.pointer (some ⟨b3, 0, none⟩), .pointer (some ⟨b14, 0, none⟩)], .func (.func 75) #[] #[.pointer (some ⟨b3, 0, none⟩), .pointer (some ⟨b14, 0, none⟩), .pointer (some ⟨b4, 0, none⟩)], .func (.func 77) #[] #[.pointer (some ⟨b3, 0, none⟩), .pointer (some ⟨b14, 0, none⟩), .pointer (some ⟨b4, 0, none⟩)], .func (.func 78) #[] #[.pointer (some ⟨b3, 0, none⟩), .pointer (some ⟨b14, 0, none⟩), .pointer (some ⟨b4, 0, none⟩)]] 152 (0, 0)), dataI none G (ns.set k (setN s nows nown (nd ns k) 4)) (l11.set k a), blk b6 (.cells (attrsS ns (k : Int)) 38 (0, 0)), blk b5 (.cells #[.slice none 0 0, .int .u32 0] 25 (0, 0)), blk b2 (.cells #[.int .u32 c.user, .int .u32 c.group, .slice pg c.groups.length cg] 56 (0, 0)), blk b1 (.cells #[.slice (some ⟨bl, 0, none⟩) ns.length c9, .int .u32 gen] 25 (0, 0)), base w (Low w), blk b7 (.cells #[.slice p ns.length cap, .int .u32 gen, .int .i64 (k : Int), .int .u32 c.user, .int .u32 c.group, .slice pg c.groups.length cg, .bool s.hm, .int .u32 s.mode, .bool s.hu, .int .u32 s.user, .bool s.hg, .int .u32 s.group, .bool s.hs, .int .u64 s.size, .int .u32 s.rh, .int .u32 s.rs, .int .u32 s.rn, .int .u32 s.wh, .int .u32 s.ws, .int .u32 s.wn, .int .u32 nows, .int .u32 nown, .bool (ownsS ns (k : Int) c)] 143 (0, 0))] (by kernel_rfl) (by kernel_rfl) rfl (by kernel_rfl) rfl (fun w hw => hw.pick [7, 1, 6, 2, 0, 3, 4, 5, 8, 9, 10, 11] (by decide)) (fun w fr_ hw => deed5_calls hk_ hl_ hw) ?_
        rintro _ _
        dsimp only [putE, List.append, HAppend.hAppend, Append.append]
        refine Rg.nx (fun _ _ h => h) [79,78,77,76,75,74,21,18,11,10,9,5] rfl ?_
        refine Ev.cd 79 rfl (fun h23 => ?_) (fun h23 => ?_)
        ·
         refine Ev.rg 6 ?_
         refine Rg.ld 80 147 18 1 rfl rfl rfl ?_
         refine Rg.fa 81 61 9 0 0 rfl ?_
         refine Rg.p 82 (.load 36 (.tmp 81)) (v := .agg #[.int .u32 nows, .int .u32 nown]) (pv_load_blk_agg 2 rfl rfl (vs := #[.int .u32 nows, .int .u32 nown]) (by kernel_rfl) (by kernel_rfl) (agg_rfl (by kernel_rfl))) ?_
         refine Rg.p 83 (.nilCheck (.tmp 80)) (pv_nilCheck rfl) ?_
         refine Rg.fa 84 44 83 8 10 rfl ?_
         refine rg_store_ownV (t := 36) (x := .tmp 84) (y := .tmp 82) (g := none) (xs' := flat (ns.set k ({ deed5 s nows nown (setN s nows nown (nd ns k) 4) with ts := nows, tn := nown } : Node)) (l11.set k a)) 3 (by kernel_rfl) (by kernel_rfl) rfl rfl rfl (by kernel_rfl) (by kernel_rfl) (by rw [flat_length, List.length_set]; show 0 + k * 25 + 10 + 2 ≤ _; omega) (by rw [show 0 + k * 25 + 10 = k * 25 + 10 by omega]; exact flat_putK hk_ hl_ (Nat.le_of_ble_eq_true (by kernel_rfl)) (by kernel_rfl)) ?_
         refine Rg.nx (fun _ _ h => h) [84,83,82,81,80,79,78,77,76,75,74,21,18,11,10,9,5] rfl ?_
         refine Ev.rg 2 ?_
         refine Rg.p 85 (.binOp .add 3 (.tmp 75) (.const (.int .i64 1)) 3) (v := .int .i64 5) (pv_addL (5) rfl rfl (by decide) (by kernel_rfl)) ?_
         refine Rg.mv 75 85 rfl ?_
         refine Rg.fin rfl ?_
         have e_ : (setN s nows nown (nd ns k) 5) = ({ deed5 s nows nown (setN s nows nown (nd ns k) 4) with ts := nows, tn := nown } : Node) := by show cond (decide (s.rh = 2) || decide (s.rh = 1)) _ _ = _; rw [h23]; rfl
         refine At.heap (S' := [blk b15 (.cells #[.func (.func 71) #[] #[.pointer (some ⟨b3, 0, none⟩), .pointer (some ⟨b14, 0, none⟩)], .func (.func 73) #[] #[.pointer (some ⟨b3, 0, none⟩), .pointer (some ⟨b14, 0, none⟩)], .func (.func 74) #[] #[.pointer (some ⟨b3, 0, none⟩), .pointer (some ⟨b14, 0, none⟩)], .func (.func 75) #[] #[.pointer (some ⟨b3, 0, none⟩), .pointer (some ⟨b14, 0, none⟩), .pointer (some ⟨b4, 0, none⟩)], .func (.func 77) #[] #[.pointer (some ⟨b3, 0, none⟩), .pointer (some ⟨b14, 0, none⟩), .pointer (some ⟨b4, 0, none⟩)], .func (.func 78) #[] #[.pointer (some ⟨b3, 0, none⟩), .pointer (some ⟨b14, 0, none⟩), .pointer (some ⟨b4, 0, none⟩)]] 152 (0, 0)), blk b14 (.cells #[.pointer (some ⟨bl, 0 + k * 25, none⟩)] 147 (0, 0)), own 44 25 (some ⟨bl, 0, none⟩) ns.length c10 (flat (ns.set k (setN s nows nown (nd ns k) 5)) (l11.set k a)), dataI none G (ns.set k (setN s nows nown (nd ns k) 5)) (l11.set k a), blk b6 (.cells (attrsS ns (k : Int)) 38 (0, 0)), blk b5 (.cells #[.slice none 0 0, .int .u32 0] 25 (0, 0)), blk b4 (.cells #[.int .u32 nows, .int .u32 nown, .int .u8 bt0, .int .u8 bt1, .int .u8 bt2, .int .u8 bt3, .int .u8 bt4, .int .u8 bt5, .int .u8 bt6, .int .u8 bt7] 61 (0, 0)), blk b3 (.cells (s.cells) 59 (0, 0)), blk b2 (.cells #[.int .u32 c.user, .int .u32 c.group, .slice pg c.groups.length cg] 56 (0, 0)), blk b1 (.cells #[.slice (some ⟨bl, 0, none⟩) ns.length c9, .int .u32 gen] 25 (0, 0)), base w (Low w), blk b7 (.cells #[.slice p ns.length cap, .int .u32 gen, .int .i64 (k : Int), .int .u32 c.user, .int .u32 c.group, .slice pg c.groups.length cg, .bool s.hm, .int .u32 s.mode, .bool s.hu, .int .u32 s.user, .bool s.hg, .int .u32 s.group, .bool s.hs, .int .u64 s.size, .int .u32 s.rh, .int .u32 s.rs, .int .u32 s.rn, .int .u32 s.wh, .int .u32 s.ws, .int .u32 s.wn, .int .u32 nows, .int .u32 nown, .bool (ownsS ns (k : Int) c)] 143 (0, 0))]) (fun w_ hw => ((by rw [e_]; exact (hw.pick [5, 0, 1, 2, 3, 4, 6, 7, 8, 9, 10, 11] (by decide)).dataSetK (n' := ({ deed5 s nows nown (setN s nows nown (nd ns k) 4) with ts := nows, tn := nown } : Node)) hk_ hl_ (deed5_same s nows nown _).1 (deed5_same s nows nown _).2 : Heap _ [dataI none G (ns.set k (setN s nows nown (nd ns k) 5)) (l11.set k a), blk b3 (.cells (s.cells) 59 (0, 0)), blk b14 (.cells #[.pointer (some ⟨bl, 0 + k * 25, none⟩)] 147 (0, 0)), blk b4 (.cells #[.int .u32 nows, .int .u32 nown, .int .u8 bt0, .int .u8 bt1, .int .u8 bt2, .int .u8 bt3, .int .u8 bt4, .int .u8 bt5, .int .u8 bt6, .int .u8 bt7] 61 (0, 0)), own 44 25 (some ⟨bl, 0, none⟩) ns.length c10 (flat (ns.set k (setN s nows nown (nd ns k) 5)) (l11.set k a)), blk b15 (.cells #[.func (.func 71) #[] #[.pointer (some ⟨b3, 0, none⟩), .pointer (some ⟨b14, 0, none⟩)], .func (.func 73) #[] #[.pointer (some ⟨b3, 0, none⟩), .pointer (some ⟨b14, 0, none⟩)], .func (.func 74) #[] #[.pointer (some ⟨b3, 0, none⟩), .pointer (some ⟨b14, 0, none⟩)], .func (.func 75) #[] #[.pointer (some ⟨b3, 0, none⟩), .pointer (some ⟨b14, 0, none⟩), .pointer (some ⟨b4, 0, none⟩)], .func (.func 77) #[] #[.pointer (some ⟨b3, 0, none⟩), .pointer (some ⟨b14, 0, none⟩), .pointer (some ⟨b4, 0, none⟩)], .func (.func 78) #[] #[.pointer (some ⟨b3, 0, none⟩), .pointer (some ⟨b14, 0, none⟩), .pointer (some ⟨b4, 0, none⟩)]] 152 (0, 0)), blk b6 (.cells (attrsS ns (k : Int)) 38 (0, 0)), blk b5 (.cells #[.slice none 0 0, .int .u32 0] 25 (0, 0)), blk b2 (.cells #[.int .u32 c.user, .int .u32 c.group, .slice pg c.groups.length cg] 56 (0, 0)), blk b1 (.cells #[.slice (some ⟨bl, 0, none⟩) ns.length c9, .int .u32 gen] 25 (0, 0)), base w (Low w), blk b7 (.cells #[.slice p ns.length cap, .int .u32 gen, .int .i64 (k : Int), .int .u32 c.user, .int .u32 c.group, .slice pg c.groups.length cg, .bool s.hm, .int .u32 s.mode, .bool s.hu, .int .u32 s.user, .bool s.hg, .int .u32 s.group, .bool s.hs, .int .u64 s.size, .int .u32 s.rh, .int .u32 s.rs, .int .u32 s.rn, .int .u32 s.wh, .int .u32 s.ws, .int .u32 s.wn, .int .u32 nows, .int .u32 nown, .bool (ownsS ns (k : Int) c)] 143 (0, 0))] w_)).pick [5, 2, 4, 0, 6, 7, 3, 1, 8, 9, 10, 11] (by decide)) ?_
         refine At.round (t := (4, a, G)) (fun _ _ h => h) (5, a, G) [0, 1, 2, 3, 4, 5, 6, 7, 8, 9, 10, 11] (by show 5 ≤ 6; decide) (by show 6 - 5 < 6 - 4; decide) (.cons (rfl) (.cons (rfl) (.cons (rfl) (.cons (rfl) (.cons (rfl) (.cons (rfl) (.cons (rfl) (.nil _)))))))) rfl (by decide)
        ·
         have ⟨h24, h25⟩ := or_f h23
         have h26 := of_decide_eq_false h24
         have h27 := of_decide_eq_false h25
         refine Ev.sk ?_
         refine At.nx (fun _ _ h => h) [79,78,77,76,75,74,21,18,11,10,9,5] rfl ?_
         refine Ev.rg 2 ?_
         refine Rg.p 85 (.binOp .add 3 (.tmp 75) (.const (.int .i64 1)) 3) (v := .int .i64 5) (pv_addL (5) rfl rfl (by decide) (by kernel_rfl)) ?_
         refine Rg.mv 75 85 rfl ?_
         refine Rg.fin rfl ?_
         have e_ : (setN s nows nown (nd ns k) 5) = deed5 s nows nown (setN s nows nown (nd ns k) 4) := by show cond (decide (s.rh = 2) || decide (s.rh = 1)) _ _ = _; rw [h23]; rfl
         refine At.heap (S' := [blk b15 (.cells #[.func (.func 71) #[] #[.pointer (some ⟨b3, 0, none⟩), .pointer (some ⟨b14, 0, none⟩)], .func (.func 73) #[] #[.pointer (some ⟨b3, 0, none⟩), .pointer (some ⟨b14, 0, none⟩)], .func (.func 74) #[] #[.pointer (some ⟨b3, 0, none⟩), .pointer (some ⟨b14, 0, none⟩)], .func (.func 75) #[] #[.pointer (some ⟨b3, 0, none⟩), .pointer (some ⟨b14, 0, none⟩), .pointer (some ⟨b4, 0, none⟩)], .func (.func 77) #[] #[.pointer (some ⟨b3, 0, none⟩), .pointer (some ⟨b14, 0, none⟩), .pointer (some ⟨b4, 0, none⟩)], .func (.func 78) #[] #[.pointer (some ⟨b3, 0, none⟩), .pointer (some ⟨b14, 0, none⟩), .pointer (some ⟨b4, 0, none⟩)]] 152 (0, 0)), blk b14 (.cells #[.pointer (some ⟨bl, 0 + k * 25, none⟩)] 147 (0, 0)), own 44 25 (some ⟨bl, 0, none⟩) ns.length c10 (flat (ns.set k (setN s nows nown (nd ns k) 5)) (l11.set k a)), dataI none G (ns.set k (setN s nows nown (nd ns k) 5)) (l11.set k a), blk b6 (.cells (attrsS ns (k : Int)) 38 (0, 0)), blk b5 (.cells #[.slice none 0 0, .int .u32 0] 25 (0, 0)), blk b4 (.cells #[.int .u32 nows, .int .u32 nown, .int .u8 bt0, .int .u8 bt1, .int .u8 bt2, .int .u8 bt3, .int .u8 bt4, .int .u8 bt5, .int .u8 bt6, .int .u8 bt7] 61 (0, 0)), blk b3 (.cells (s.cells) 59 (0, 0)), blk b2 (.cells #[.int .u32 c.user, .int .u32 c.group, .slice pg c.groups.length cg] 56 (0, 0)), blk b1 (.cells #[.slice (some ⟨bl, 0, none⟩) ns.length c9, .int .u32 gen] 25 (0, 0)), base w (Low w), blk b7 (.cells #[.slice p ns.length cap, .int .u32 gen, .int .i64 (k : Int), .int .u32 c.user, .int .u32 c.group, .slice pg c.groups.length cg, .bool s.hm, .int .u32 s.mode, .bool s.hu, .int .u32 s.user, .bool s.hg, .int .u32 s.group, .bool s.hs, .int .u64 s.size, .int .u32 s.rh, .int .u32 s.rs, .int .u32 s.rn, .int .u32 s.wh, .int .u32 s.ws, .int .u32 s.wn, .int .u32 nows, .int .u32 nown, .bool (ownsS ns (k : Int) c)] 143 (0, 0))]) (fun w_ hw => ((by rw [e_]; exact (hw.pick [5, 0, 1, 2, 3, 4, 6, 7, 8, 9, 10, 11] (by decide)).dataSetK (n' := deed5 s nows nown (setN s nows nown (nd ns k) 4)) hk_ hl_ (deed5_same s nows nown _).1 (deed5_same s nows nown _).2 : Heap _ [dataI none G (ns.set k (setN s nows nown (nd ns k) 5)) (l11.set k a), blk b3 (.cells (s.cells) 59 (0, 0)), blk b14 (.cells #[.pointer (some ⟨bl, 0 + k * 25, none⟩)] 147 (0, 0)), blk b4 (.cells #[.int .u32 nows, .int .u32 nown, .int .u8 bt0, .int .u8 bt1, .int .u8 bt2, .int .u8 bt3, .int .u8 bt4, .int .u8 bt5, .int .u8 bt6, .int .u8 bt7] 61 (0, 0)), own 44 25 (some ⟨bl, 0, none⟩) ns.length c10 (flat (ns.set k (setN s nows nown (nd ns k) 5)) (l11.set k a)), blk b15 (.cells #[.func (.func 71) #[] #[.pointer (some ⟨b3, 0, none⟩), .pointer (some ⟨b14, 0, none⟩)], .func (.func 73) #[] #[.pointer (some ⟨b3, 0, none⟩), .pointer (some ⟨b14, 0, none⟩)], .func (.func 74) #[] #[.pointer (some ⟨b3, 0, none⟩), .pointer (some ⟨b14, 0, none⟩)], .func (.func 75) #[] #[.pointer (some ⟨b3, 0, none⟩), .pointer (some ⟨b14, 0, none⟩), .pointer (some ⟨b4, 0, none⟩)], .func (.func 77) #[] #[.pointer (some ⟨b3, 0, none⟩), .pointer (some ⟨b14, 0, none⟩), .pointer (some ⟨b4, 0, none⟩)], .func (.func 78) #[] #[.pointer (some ⟨b3, 0, none⟩), .pointer (some ⟨b14, 0, none⟩), .pointer (some ⟨b4, 0, none⟩)]] 152 (0, 0)), blk b6 (.cells (attrsS ns (k : Int)) 38 (0, 0)), blk b5 (.cells #[.slice none 0 0, .int .u32 0] 25 (0, 0)), blk b2 (.cells #[.int .u32 c.user, .int .u32 c.group, .slice pg c.groups.length cg] 56 (0, 0)), blk b1 (.cells #[.slice (some ⟨bl, 0, none⟩) ns.length c9, .int .u32 gen] 25 (0, 0)), base w (Low w), blk b7 (.cells #[.slice p ns.length cap, .int .u32 gen, .int .i64 (k : Int), .int .u32 c.user, .int .u32 c.group, .slice pg c.groups.length cg, .bool s.hm, .int .u32 s.mode, .bool s.hu, .int .u32 s.user, .bool s.hg, .int .u32 s.group, .bool s.hs, .int .u64 s.size, .int .u32 s.rh, .int .u32 s.rs, .int .u32 s.rn, .int .u32 s.wh, .int .u32 s.ws, .int .u32 s.wn, .int .u32 nows, .int .u32 nown, .bool (ownsS ns (k : Int) c)] 143 (0, 0))] w_)).pick [5, 2, 4, 0, 6, 7, 3, 1, 8, 9, 10, 11] (by decide)) ?_
         refine At.round (t := (4, a, G)) (fun _ _ h => h) (5, a, G) [0, 1, 2, 3, 4, 5, 6, 7, 8, 9, 10, 11] (by show 5 ≤ 6; decide) (by show 6 - 5 < 6 - 4; decide) (.cons (rfl) (.cons (rfl) (.cons (rfl) (.cons (rfl) (.cons (rfl) (.cons (rfl) (.cons (rfl) (.nil _)))))))) rfl (by decide)
       ·
        refine Ev.sr 1 ?_
        refine Rg.p 76 (.binOp .lss 3 (.tmp 75) (.const (.int .i64 6)) 3) (pv_lss rfl rfl) ?_
        refine Rg.know 76 (b := decide ((5 : Int) < 6)) (c := true) rfl (by decide) ?_
        refine Rg.nx (fun _ _ h => h) [76,75,74,18,11,10,9,5] rfl ?_
        refine Ev.sq ?_
        refine ev_cond_t (t := 76) (by kernel_rfl) rfl ?_
        refine Ev.sk ?_
        refine At.nx (fun _ _ h => h) [76,75,74,18,11,10,9,5] rfl ?_
        refine Ev.sq ?_
        refine Ev.bk 3 ?_
        refine Ev.sr 2 ?_
        refine Rg.p 77 (.index 152 (.tmp 74) (.tmp 75)) (v := .func (.func 78) #[] #[.pointer (some ⟨b3, 0, none⟩), .pointer (some ⟨b14, 0, none⟩), .pointer (some ⟨b4, 0, none⟩)]) (pv_index_one (e := 27) (n := 6) rfl rfl (by kernel_rfl) (by kernel_rfl) (by kernel_rfl) (by decide) (by decide) rfl) ?_
        refine Rg.as 21 77 rfl ?_
        refine Rg.nx (fun _ _ h => h) [77,76,75,74,21,18,11,10,9,5] rfl ?_
        refine Ev.sr 2 ?_
        refine Rg.mv 78 21 rfl ?_
        refine rg_callM (T := Unit) (d := some 79) (f := 78) (fo := .tmp 78) (fs := #[]) (caps := #[.pointer (some ⟨b3, 0, none⟩), .pointer (some ⟨b14, 0, none⟩), .pointer (some ⟨b4, 0, none⟩)]) (xs := #[]) (ts := #[]) (g := none) (v := fun _ => .bool ((decide (s.wh = 2)) || (decide (s.wh = 1)))) (L := fun _ => [blk b3 (.cells (s.cells) 59 (0, 0)), blk b14 (.cells #[.pointer (some ⟨bl, 0 + k * 25, none⟩)] 147 (0, 0)), blk b4 (.cells #[.int .u32 nows, .int .u32 nown, .int .u8 bt0, .int .u8 bt1, .int .u8 bt2, .int .u8 bt3, .int .u8 bt4, .int .u8 bt5, .int .u8 bt6, .int .u8 bt7] 61 (0, 0)), own 44 25 (some ⟨bl, 0, none⟩) ns.length c10 (flat (ns.set k (deed6 s nows nown (setN s nows nown (nd ns k) 5))) (l11.set k a))]) [blk b3 (.cells (s.cells) 59 (0, 0)), blk b14 (.cells #[.pointer (some ⟨bl, 0 + k * 25, none⟩)] 147 (0, 0)), blk b4 (.cells #[.int .u32 nows, .int .u32 nown, .int .u8 bt0, .int .u8 bt1, .int .u8 bt2, .int .u8 bt3, .int .u8 bt4, .int .u8 bt5, .int .u8 bt6, .int .u8 bt7] 61 (0, 0)), own 44 25 (some ⟨bl, 0, none⟩) ns.length c10 (flat (ns.set k (setN s nows nown (nd ns k) 5)) (l11.set k a))] [blk b15 (.cells #[.func (.func 71) #[] #[.pointer (some ⟨b3, 0, none⟩), .pointer (some ⟨b14, 0, none⟩)], .func (.func 73) #[] #[.pointer (some ⟨b3, 0, none⟩), .pointer (some ⟨b14, 0, none⟩)], .func (.func 74) #[] #[.pointer (some ⟨b3, 0, none⟩), .pointer (some ⟨b14, 0, none⟩)], .func (.func 75) #[] #[.pointer (some ⟨b3, 0, none⟩), .pointer (some ⟨b14, 0, none⟩), .pointer (some ⟨b4, 0, none⟩)], .func (.func 77) #[] #[.pointer (some ⟨b3, 0, none⟩), .pointer (some ⟨b14, 0, none⟩), .pointer (some ⟨b4, 0, none⟩)], .func (.func 78) #[] #[.pointer (some ⟨b3, 0, none⟩), .pointer (some ⟨b14, 0, none⟩), .pointer (some ⟨b4, 0, none⟩)]] 152 (0, 0)), dataI none G (ns.set k (setN s nows nown (nd ns k) 5)) (l11.set k a), blk b6 (.cells (attrsS ns (k : Int)) 38 (0, 0)), blk b5 (.cells #[.slice none 0 0, .int .u32 0] 25 (0, 0)), blk b2 (.cells #[.int .u32 c.user, .int .u32 c.group, .slice pg c.groups.length cg] 56 (0, 0)), blk b1 (.cells #[.slice (some ⟨bl, 0, none⟩) ns.length c9, .int .u32 gen] 25 (0, 0)), base w (Low w), blk b7 (.cells #[.slice p ns.length cap, .int .u32 gen, .int .i64 (k : Int), .int .u32 c.user, .int .u32 c.group, .slice pg c.groups.length cg, .bool s.hm, .int .u32 s.mode, .bool s.hu, .int .u32 s.user, .bool s.hg, .int .u32 s.group, .bool s.hs, .int .u64 s.size, .int .u32 s.rh, .int .u32 s.rs, .int .u32 s.rn, .int .u32 s.wh, .int .u32 s.ws, .int .u32 s.wn, .int .u32 nows, .int .u32 nown, .bool (ownsS ns (k : Int) c)] 143 (0, 0))] (by kernel_rfl) (by kernel_rfl) rfl (by kernel_rfl) rfl (fun w hw => hw.pick [7, 1, 6, 2, 0, 3, 4, 5, 8, 9, 10, 11] (by decide)) (fun w fr_ hw => deed6_calls hk_ hl_ hw) ?_
        rintro _ _
        dsimp only [putE, List.append, HAppend.hAppend, Append.append]
        refine Rg.nx (fun _ _ h => h) [79,78,77,76,75,74,21,18,11,10,9,5] rfl ?_
        refine Ev.cd 79 rfl (fun h28 => ?_) (fun h28 => ?_)
        ·
         refine Ev.rg 6 ?_
         refine Rg.ld 80 147 18 1 rfl rfl rfl ?_
         refine Rg.fa 81 61 9 0 0 rfl ?_
         refine Rg.p 82 (.load 36 (.tmp 81)) (v := .agg #[.int .u32 nows, .int .u32 nown]) (pv_load_blk_agg 2 rfl rfl (vs := #[.int .u32 nows, .int .u32 nown]) (by kernel_rfl) (by kernel_rfl) (agg_rfl (by kernel_rfl))) ?_
         refine Rg.p 83 (.nilCheck (.tmp 80)) (pv_nilCheck rfl) ?_
         refine Rg.fa 84 44 83 8 10 rfl ?_
         refine rg_store_ownV (t := 36) (x := .tmp 84) (y := .tmp 82) (g := none) (xs' := flat (ns.set k ({ deed6 s nows nown (setN s nows nown (nd ns k) 5) with ts := nows, tn := nown } : Node)) (l11.set k a)) 3 (by kernel_rfl) (by kernel_rfl) rfl rfl rfl (by kernel_rfl) (by kernel_rfl) (by rw [flat_length, List.length_set]; show 0 + k * 25 + 10 + 2 ≤ _; omega) (by rw [show 0 + k * 25 + 10 = k * 25 + 10 by omega]; exact flat_putK hk_ hl_ (Nat.le_of_ble_eq_true (by kernel_rfl)) (by kernel_rfl)) ?_
         refine Rg.nx (fun _ _ h => h) [84,83,82,81,80,79,78,77,76,75,74,21,18,11,10,9,5] rfl ?_
         refine Ev.rg 2 ?_
         refine Rg.p 85 (.binOp .add 3 (.tmp 75) (.const (.int .i64 1)) 3) (v := .int .i64 6) (pv_addL (6) rfl rfl (by decide) (by kernel_rfl)) ?_
         refine Rg.mv 75 85 rfl ?_
         refine Rg.fin rfl ?_
         have e_ : (setN s nows nown (nd ns k) 6) = ({ deed6 s nows nown (setN s nows nown (nd ns k) 5) with ts := nows, tn := nown } : Node) := by show cond (decide (s.wh = 2) || decide (s.wh = 1)) _ _ = _; rw [h28]; rfl
         refine At.heap (S' := [blk b15 (.cells #[.func (.func 71) #[] #[.pointer (some ⟨b3, 0, none⟩), .pointer (some ⟨b14, 0, none⟩)], .func (.func 73) #[] #[.pointer (some ⟨b3, 0, none⟩), .pointer (some ⟨b14, 0, none⟩)], .func (.func 74) #[] #[.pointer (some ⟨b3, 0, none⟩), .pointer (some ⟨b14, 0, none⟩)], .func (.func 75) #[] #[.pointer (some ⟨b3, 0, none⟩), .pointer (some ⟨b14, 0, none⟩), .pointer (some ⟨b4, 0, none⟩)], .func (.func 77) #[] #[.pointer (some ⟨b3, 0, none⟩), .pointer (some ⟨b14, 0, none⟩), .pointer (some ⟨b4, 0, none⟩)], .func (.func 78) #[] #[.pointer (some ⟨b3, 0, none⟩), .pointer (some ⟨b14, 0, none⟩), .pointer (some ⟨b4, 0, none⟩)]] 152 (0, 0)), blk b14 (.cells #[.pointer (some ⟨bl, 0 + k * 25, none⟩)] 147 (0, 0)), own 44 25 (some ⟨bl, 0, none⟩) ns.length c10 (flat (ns.set k (setN s nows nown (nd ns k) 6)) (l11.set k a)), dataI none G (ns.set k (setN s nows nown (nd ns k) 6)) (l11.set k a), blk b6 (.cells (attrsS ns (k : Int)) 38 (0, 0)), blk b5 (.cells #[.slice none 0 0, .int .u32 0] 25 (0, 0)), blk b4 (.cells #[.int .u32 nows, .int .u32 nown, .int .u8 bt0, .int .u8 bt1, .int .u8 bt2, .int .u8 bt3, .int .u8 bt4, .int .u8 bt5, .int .u8 bt6, .int .u8 bt7] 61 (0, 0)), blk b3 (.cells (s.cells) 59 (0, 0)), blk b2 (.cells #[.int .u32 c.user, .int .u32 c.group, .slice pg c.groups.length cg] 56 (0, 0)), blk b1 (.cells #[.slice (some ⟨bl, 0, none⟩) ns.length c9, .int .u32 gen] 25 (0, 0)), base w (Low w), blk b7 (.cells #[.slice p ns.length cap, .int .u32 gen, .int .i64 (k : Int), .int .u32 c.user, .int .u32 c.group, .slice pg c.groups.length cg, .bool s.hm, .int .u32 s.mode, .bool s.hu, .int .u32 s.user, .bool s.hg, .int .u32 s.group, .bool s.hs, .int .u64 s.size, .int .u32 s.rh, .int .u32 s.rs, .int .u32 s.rn, .int .u32 s.wh, .int .u32 s.ws, .int .u32 s.wn, .int .u32 nows, .int .u32 nown, .bool (ownsS ns (k : Int) c)] 143 (0, 0))]) (fun w_ hw => ((by rw [e_]; exact (hw.pick [5, 0, 1, 2, 3, 4, 6, 7, 8, 9, 10, 11] (by decide)).dataSetK (n' := ({ deed6 s nows nown (setN s nows nown (nd ns k) 5) with ts := nows, tn := nown } : Node)) hk_ hl_ (deed6_same s nows nown _).1 (deed6_same s nows nown _).2 : Heap _ [dataI none G (ns.set k (setN s nows nown (nd ns k) 6)) (l11.set k a), blk b3 (.cells (s.cells) 59 (0, 0)), blk b14 (.cells #[.pointer (some ⟨bl, 0 + k * 25, none⟩)] 147 (0, 0)), blk b4 (.cells #[.int .u32 nows, .int .u32 nown, .int .u8 bt0, .int .u8 bt1, .int .u8 bt2, .int .u8 bt3, .int .u8 bt4, .int .u8 bt5, .int .u8 bt6, .int .u8 bt7] 61 (0, 0)), own 44 25 (some ⟨bl, 0, none⟩) ns.length c10 (flat (ns.set k (setN s nows nown (nd ns k) 6)) (l11.set k a)), blk b15 (.cells #[.func (.func 71) #[] #[.pointer (some ⟨b3, 0, none⟩), .pointer (some ⟨b14, 0, none⟩)], .func (.func 73) #[] #[.pointer (some ⟨b3, 0, none⟩), .pointer (some ⟨b14, 0, none⟩)], .func (.func 74) #[] #[.pointer (some ⟨b3, 0, none⟩), .pointer (some ⟨b14, 0, none⟩)], .func (.func 75) #[] #[.pointer (some ⟨b3, 0, none⟩), .pointer (some ⟨b14, 0, none⟩), .pointer (some ⟨b4, 0, none⟩)], .func (.func 77) #[] #[.pointer (some ⟨b3, 0, none⟩), .pointer (some ⟨b14, 0, none⟩), .pointer (some ⟨b4, 0, none⟩)], .func (.func 78) #[] #[.pointer (some ⟨b3, 0, none⟩), .pointer (some ⟨b14, 0, none⟩), .pointer (some ⟨b4, 0, none⟩)]] 152 (0, 0)), blk b6 (.cells (attrsS ns (k : Int)) 38 (0, 0)), blk b5 (.cells #[.slice none 0 0, .int .u32 0] 25 (0, 0)), blk b2 (.cells #[.int .u32 c.user, .int .u32 c.group, .slice pg c.groups.length cg] 56 (0, 0)), blk b1 (.cells #[.slice (some ⟨bl, 0, none⟩) ns.length c9, .int .u32 gen] 25 (0, 0)), base w (Low w), blk b7 (.cells #[.slice p ns.length cap, .int .u32 gen, .int .i64 (k : Int), .int .u32 c.user, .int .u32 c.group, .slice pg c.groups.length cg, .bool s.hm, .int .u32 s.mode, .bool s.hu, .int .u32 s.user, .bool s.hg, .int .u32 s.group, .bool s.hs, .int .u64 s.size, .int .u32 s.rh, .int .u32 s.rs, .int .u32 s.rn, .int .u32 s.wh, .int .u32 s.ws, .int .u32 s.wn, .int .u32 nows, .int .u32 nown, .bool (ownsS ns (k : Int) c)] 143 (0, 0))] w_)).pick [5, 2, 4, 0, 6, 7, 3, 1, 8, 9, 10, 11] (by decide)) ?_
         refine At.round (t := (5, a, G)) (fun _ _ h => h) (6, a, G) [0, 1, 2, 3, 4, 5, 6, 7, 8, 9, 10, 11] (by show 6 ≤ 6; decide) (by show 6 - 6 < 6 - 5; decide) (.cons (rfl) (.cons (rfl) (.cons (rfl) (.cons (rfl) (.cons (rfl) (.cons (rfl) (.cons (rfl) (.nil _)))))))) rfl (by decide)
        ·
         have ⟨h29, h30⟩ := or_f h28
         have h31 := of_decide_eq_false h29
         have h32 := of_decide_eq_false h30
         refine Ev.sk ?_
         refine At.nx (fun _ _ h => h) [79,78,77,76,75,74,21,18,11,10,9,5] rfl ?_
         refine Ev.rg 2 ?_
         refine Rg.p 85 (.binOp .add 3 (.tmp 75) (.const (.int .i64 1)) 3) (v := .int .i64 6) (pv_addL (6) rfl rfl (by decide) (by kernel_rfl)) ?_
         refine Rg.mv 75 85 rfl ?_
         refine Rg.fin rfl ?_
         have e_ : (setN s nows nown (nd ns k) 6) = deed6 s nows nown (setN s nows nown (nd ns k) 5) := by show cond (decide (s.wh = 2) || decide (s.wh = 1)) _ _ = _; rw [h28]; rfl
         refine At.heap (S' := [blk b15 (.cells #[.func (.func 71) #[] #[.pointer (some ⟨b3, 0, none⟩), .pointer (some ⟨b14, 0, none⟩)], .func (.func 73) #[] #[.pointer (some ⟨b3, 0, none⟩), .pointer (some ⟨b14, 0, none⟩)], .func (.func 74) #[] #[.pointer (some ⟨b3, 0, none⟩), .pointer (some ⟨b14, 0, none⟩)], .func (.func 75) #[] #[.pointer (some ⟨b3, 0, none⟩), .pointer (some ⟨b14, 0, none⟩), .pointer (some ⟨b4, 0, none⟩)], .func (.func 77) #[] #[.pointer (some ⟨b3, 0, none⟩), .pointer (some ⟨b14, 0, none⟩), .pointer (some ⟨b4, 0, none⟩)], .func (.func 78) #[] #[.pointer (some ⟨b3, 0, none⟩), .pointer (some ⟨b14, 0, none⟩), .pointer (some ⟨b4, 0, none⟩)]] 152 (0, 0)), blk b14 (.cells #[.pointer (some ⟨bl, 0 + k * 25, none⟩)] 147 (0, 0)), own 44 25 (some ⟨bl, 0, none⟩) ns.length c10 (flat (ns.set k (setN s nows nown (nd ns k) 6)) (l11.set k a)), dataI none G (ns.set k (setN s nows nown (nd ns k) 6)) (l11.set k a), blk b6 (.cells (attrsS ns (k : Int)) 38 (0, 0)), blk b5 (.cells #[.slice none 0 0, .int .u32 0] 25 (0, 0)), blk b4 (.cells #[.int .u32 nows, .int .u32 nown, .int .u8 bt0, .int .u8 bt1, .int .u8 bt2, .int .u8 bt3, .int .u8 bt4, .int .u8 bt5, .int .u8 bt6, .int .u8 bt7] 61 (0, 0)), blk b3 (.cells (s.cells) 59 (0, 0)), blk b2 (.cells #[.int .u32 c.user, .int .u32 c.group, .slice pg c.groups.length cg] 56 (0, 0)), blk b1 (.cells #[.slice (some ⟨bl, 0, none⟩) ns.length c9, .int .u32 gen] 25 (0, 0)), base w (Low w), blk b7 (.cells #[.slice p ns.length cap, .int .u32 gen, .int .i64 (k : Int), .int .u32 c.user, .int .u32 c.group, .slice pg c.groups.length cg, .bool s.hm, .int .u32 s.mode, .bool s.hu, .int .u32 s.user, .bool s.hg, .int .u32 s.group, .bool s.hs, .int .u64 s.size, .int .u32 s.rh, .int .u32 s.rs, .int .u32 s.rn, .int .u32 s.wh, .int .u32 s.ws, .int .u32 s.wn, .int .u32 nows, .int .u32 nown, .bool (ownsS ns (k : Int) c)] 143 (0, 0))]) (fun w_ hw => ((by rw [e_]; exact (hw.pick [5, 0, 1, 2, 3, 4, 6, 7, 8, 9, 10, 11] (by decide)).dataSetK (n' := deed6 s nows nown (setN s nows nown (nd ns k) 5)) hk_ hl_ (deed6_same s nows nown _).1 (deed6_same s nows nown _).2 : Heap _ [dataI none G (ns.set k (setN s nows nown (nd ns k) 6)) (l11.set k a), blk b3 (.cells (s.cells) 59 (0, 0)), blk b14 (.cells #[.pointer (some ⟨bl, 0 + k * 25, none⟩)] 147 (0, 0)), blk b4 (.cells #[.int .u32 nows, .int .u32 nown, .int .u8 bt0, .int .u8 bt1, .int .u8 bt2, .int .u8 bt3, .int .u8 bt4, .int .u8 bt5, .int .u8 bt6, .int .u8 bt7] 61 (0, 0)), own 44 25 (some ⟨bl, 0, none⟩) ns.length c10 (flat (ns.set k (setN s nows nown (nd ns k) 6)) (l11.set k a)), blk b15 (.cells #[.func (.func 71) #[] #[.pointer (some ⟨b3, 0, none⟩), .pointer (some ⟨b14, 0, none⟩)], .func (.func 73) #[] #[.pointer (some ⟨b3, 0, none⟩), .pointer (some ⟨b14, 0, none⟩)], .func (.func 74) #[] #[.pointer (some ⟨b3, 0, none⟩), .pointer (some ⟨b14, 0, none⟩)], .func (.func 75) #[] #[.pointer (some ⟨b3, 0, none⟩), .pointer (some ⟨b14, 0, none⟩), .pointer (some ⟨b4, 0, none⟩)], .func (.func 77) #[] #[.pointer (some ⟨b3, 0, none⟩), .pointer (some ⟨b14, 0, none⟩), .pointer (some ⟨b4, 0, none⟩)], .func (.func 78) #[] #[.pointer (some ⟨b3, 0, none⟩), .pointer (some ⟨b14, 0, none⟩), .pointer (some ⟨b4, 0, none⟩)]] 152 (0, 0)), blk b6 (.cells (attrsS ns (k : Int)) 38 (0, 0)), blk b5 (.cells #[.slice none 0 0, .int .u32 0] 25 (0, 0)), blk b2 (.cells #[.int .u32 c.user, .int .u32 c.group, .slice pg c.groups.length cg] 56 (0, 0)), blk b1 (.cells #[.slice (some ⟨bl, 0, none⟩) ns.length c9, .int .u32 gen] 25 (0, 0)), base w (Low w), blk b7 (.cells #[.slice p ns.length cap, .int .u32 gen, .int .i64 (k : Int), .int .u32 c.user, .int .u32 c.group, .slice pg c.groups.length cg, .bool s.hm, .int .u32 s.mode, .bool s.hu, .int .u32 s.user, .bool s.hg, .int .u32 s.group, .bool s.hs, .int .u64 s.size, .int .u32 s.rh, .int .u32 s.rs, .int .u32 s.rn, .int .u32 s.wh, .int .u32 s.ws, .int .u32 s.wn, .int .u32 nows, .int .u32 nown, .bool (ownsS ns (k : Int) c)] 143 (0, 0))] w_)).pick [5, 2, 4, 0, 6, 7, 3, 1, 8, 9, 10, 11] (by decide)) ?_
         refine At.round (t := (5, a, G)) (fun _ _ h => h) (6, a, G) [0, 1, 2, 3, 4, 5, 6, 7, 8, 9, 10, 11] (by show 6 ≤ 6; decide) (by show 6 - 6 < 6 - 5; decide) (.cons (rfl) (.cons (rfl) (.cons (rfl) (.cons (rfl) (.cons (rfl) (.cons (rfl) (.cons (rfl) (.nil _)))))))) rfl (by decide)
       ·
        refine Ev.sr 1 ?_
        refine Rg.p 76 (.binOp .lss 3 (.tmp 75) (.const (.int .i64 6)) 3) (pv_lss rfl rfl) ?_
        refine Rg.know 76 (b := decide ((6 : Int) < 6)) (c := false) rfl (by decide) ?_
        refine Rg.nx (fun _ _ h => h) [76,75,74,18,11,10,9,5] rfl ?_
        refine Ev.sq ?_
        refine ev_cond_f (t := 76) (by kernel_rfl) rfl ?_
        refine Ev.xt 2 ?_
        refine At.nx (fun _ _ h => h) [11,10,5] rfl ?_
        refine Ev.sr 3 ?_
        refine Rg.p 86 (.load 25 (.tmp 5)) (v := .agg #[.slice (some ⟨bl, 0, none⟩) ns.length c9, .int .u32 gen]) (pv_load_blk_whole 9 rfl rfl (by kernel_rfl) (by kernel_rfl)) ?_
        refine Rg.st 25 10 (.tmp 86) 5 #[.slice (some ⟨bl, 0, none⟩) ns.length c9, .int .u32 gen] rfl rfl rfl ?_
        refine Rg.ac 11 (.int .u32 0) ?_
        refine Rg.nx (fun _ _ h => h) [11,10] rfl ?_
        refine Ev.rt ?_
        refine At.via (Q := Q) hQ ?_
        refine At.retCell2 rfl rfl (reads_cellA 5 rfl rfl (by kernel_rfl) (by kernel_rfl)) (reads_tmp rfl) ?_
        have he_ : setE ns (k : Int) c s nows nown = 0 := (by unfold setE; rw [show (!thereS ns (k : Int)) = false from by rw [hth_]; rfl]; simp only [cond_false, h7, h10, h13, h16])
        have hb_ := setE_ok (gen := gen) he_
        exact fun w hw => ⟨⟨some ⟨bl, 0, none⟩, c9, c10, l11.set k a, G⟩, trivial, (by rw [hb_.1, hb_.2, he_, List.length_set]), (by rw [hb_.1, List.length_set]; exact hw.pick [2, 3, 10] (by decide))⟩

end Go.Proofs.Ytfhhggcdmgjbcaa.Sx
