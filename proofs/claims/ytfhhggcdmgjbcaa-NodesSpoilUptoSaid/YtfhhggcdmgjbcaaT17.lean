/-
  A part of the walk of the seat: laws of a small proof system, and contracts of functions, each proved. Conditions: as each theorem says.
-/
import Derived.Test.YtfhhggcdmgjbcaaProg
import Derived.Test.YtfhhggcdmgjbcaaT16
namespace Go.Proofs.Ytfhhggcdmgjbcaa.Sx
open Go Go.RowKit Go.Proofs

def lastN (es : List Entry) : Nat → Int
  | 0 => 2
  | k + 1 => (en es k).cookie
def namN (es : List Entry) : Nat → List (ByteArray × Int)
  | 0 => []
  | k + 1 => upd (namN es k) (en es k).name ((look (namN es k) (en es k).name).getD 0 + 1)
theorem namN_range (es : List Entry) (k : Nat) (s : ByteArray) : 0 ≤ (look (namN es k) s).getD 0 ∧ (look (namN es k) s).getD 0 ≤ (k : Int) := by
  induction k generalizing s with
  | zero => simp [namN, look]
  | succ k ih =>
    simp only [namN, look_upd]
    by_cases h : s = (en es k).name
    · rw [if_pos h]
      have := ih (en es k).name
      simp only [Option.getD_some]; omega
    · rw [if_neg h]
      have := ih s
      omega
noncomputable def badE (ns : List Node) (d : Node) (k : Nat) : Bool :=
  (((((((decide ((en d.list k).cookie ≤ lastN d.list k) || decide (d.next ≤ (en d.list k).cookie)) || decide (1 < (look (namN d.list (k + 1)) (en d.list k).name).getD 0)) || !decide (nameS (en d.list k).name = 0)) ||
    decide ((en d.list k).name = ⟨#[46]⟩)) || decide ((en d.list k).name = ⟨#[46, 46]⟩)) || decide ((en d.list k).node = 1)) || !thereS ns (en d.list k).node)
noncomputable def entriesS (ns : List Node) (d : Node) : Bool :=
  cond (decide (1024 < (d.list.length : Int))) false ((List.range d.list.length).all (fun k => !badE ns d k) && decide (lastN d.list d.list.length < d.next))
theorem entriesS_bad {ns : List Node} {d : Node} {k : Nat} (hk : k < d.list.length) (h : badE ns d k = true) : entriesS ns d = false := by
  have : (List.range d.list.length).all (fun k => !badE ns d k) = false := List.all_eq_false.2 ⟨k, List.mem_range.2 hk, by simp [h]⟩
  unfold entriesS
  rw [this]; cases decide (1024 < (d.list.length : Int)) <;> rfl
theorem entriesS_good {ns : List Node} {d : Node} (h0 : decide (1024 < (d.list.length : Int)) = false) (h : ∀ k, k < d.list.length → badE ns d k = false) : entriesS ns d = decide (lastN d.list d.list.length < d.next) := by
  have : (List.range d.list.length).all (fun k => !badE ns d k) = true := List.all_eq_true.2 fun k hk => by simp [h k (List.mem_range.1 hk)]
  unfold entriesS
  rw [this, h0]; simp

set_option maxHeartbeats 8000000 in
theorem entries_calls {d : Node} {a : Loc} {p : Option Addr} {ns : List Node} {al : List Loc} {cap : Nat} {gen : Int} {w : World} (hT : NodesAt (Low w) w p ns al) (hW : NodesWf ns) (hD : NodeAt (Low w) w d a) (hWd : NodeWf d) :
  Calls Try.prog 60 #[.agg #[.slice p ns.length cap, .int .u32 gen], .agg (d.cells a)] w (Ret w (.bool (entriesS ns d))) := by
 refine calls_ofQ (args := [_, _]) [base w (Low w)] Try.func60 (by kernel_rfl) (by kernel_rfl) (Heap.start w) ?_
 intro Q hQ
 refine Ev.sr 3 ?_
 refine Rg.bx 2 25 (.tmp 0) rfl fun b1 => ?_
 refine Rg.bx 3 44 (.tmp 1) rfl fun b2 => ?_
 refine Rg.ac 4 (.bool false) ?_
 refine Rg.nx (fun _ _ h => h) [4,3,2] rfl ?_
 refine Ev.sr 3 ?_
 refine rg_makeMap (d := 9) (t := 28) (g := none) strKey (by kernel_rfl) (by kernel_rfl) ?_
 intro r3
 refine Rg.ac 5 (.int .u64 2) ?_
 refine Rg.as 6 9 rfl ?_
 refine Rg.nx (fun _ _ h => h) [6,5,4,3,2] rfl ?_
 refine Ev.sq ?_
 refine Ev.sr 4 ?_
 refine Rg.fa 10 44 3 12 22 rfl ?_
 refine Rg.ld 11 42 10 1 rfl rfl rfl ?_
 refine Rg.p 12 (.call { callee := .builtin .len, args := #[.tmp 11], argTypes := #[42] }) (pv_len_slice rfl (by kernel_rfl)) ?_
 refine Rg.p 13 (.binOp .gtr 3 (.tmp 12) (.const (.int .i64 1024)) 3) (pv_gtr rfl rfl) ?_
 refine Rg.nx (fun _ _ h => h) [13,6,5,4,3,2] rfl ?_
 refine Ev.cd 13 rfl (fun h1 => ?_) (fun h1 => ?_)
 ·
  have h2 := of_decide_eq_true h1
  refine Ev.sr 1 ?_
  refine Rg.ac 4 (.bool false) ?_
  refine Rg.nx (fun _ _ h => h) [6,5,4,3,2] rfl ?_
  refine Ev.rt ?_
  refine At.via (Q := Q) hQ ?_
  refine At.ret1 rfl rfl rfl ?_
  exact fun w hw => ⟨(by unfold entriesS; rw [h1]; rfl), hw.base_below 3 rfl⟩
 ·
  have h3 := of_decide_eq_false h1
  refine Ev.sk ?_
  refine At.nx (fun _ _ h => h) [6,5,4,3,2] rfl ?_
  refine Ev.sq ?_
  refine Ev.sr 4 ?_
  refine Rg.fa 14 44 3 12 22 rfl ?_
  refine Rg.ld 15 42 14 1 rfl rfl rfl ?_
  refine Rg.p 16 (.call { callee := .builtin .len, args := #[.tmp 15], argTypes := #[42] }) (pv_len_slice rfl (by kernel_rfl)) ?_
  refine Rg.mc 17 (.int .i64 0) ?_
  refine Rg.nx (fun _ _ h => h) [17,16,15,6,5,4,3,2] rfl ?_
  refine Ev.bk 0 ?_
  refine ev_loop (T := Nat) (fun k => [(2, .pointer (some ⟨b1, 0, none⟩)), (3, .pointer (some ⟨b2, 0, none⟩)), (4, .bool false), (5, .int .u64 (lastN d.list k)), (6, .map (some r3)), (15, .slice a.lA d.list.length a.lCap), (16, .int .i64 (d.list.length : Int)), (17, .int .i64 (k : Int))]) (fun k => [mapItem strKey r3 (namN d.list k : List (ByteArray × Int)), blk b2 (.cells (d.cells a) 44 (0, 0)), blk b1 (.cells #[.slice p ns.length cap, .int .u32 gen] 25 (0, 0)), base w (Low w)]) (fun k => k ≤ d.list.length ∧ ∀ m, m < k → badE ns d m = false) (fun k => d.list.length - k) 0 [0, 1, 2, 3] (by kernel_rfl) ⟨Nat.zero_le _, fun m hm => absurd hm (Nat.not_lt_zero _)⟩ (.cons (rfl) (.cons (rfl) (.cons (rfl) (.cons (rfl) (.cons (rfl) (.cons (rfl) (.cons (rfl) (.cons (rfl) (.nil _))))))))) rfl (by decide) ?_
  rintro k ⟨(hk : k ≤ d.list.length), (hno : ∀ m, m < k → badE ns d m = false)⟩
  show Ev _ _ [(2, .pointer (some ⟨b1, 0, none⟩)), (3, .pointer (some ⟨b2, 0, none⟩)), (4, .bool false), (5, .int .u64 (lastN d.list k)), (6, .map (some r3)), (15, .slice a.lA d.list.length a.lCap), (16, .int .i64 (d.list.length : Int)), (17, .int .i64 (k : Int))] [mapItem strKey r3 (namN d.list k : List (ByteArray × Int)), blk b2 (.cells (d.cells a) 44 (0, 0)), blk b1 (.cells #[.slice p ns.length cap, .int .u32 gen] 25 (0, 0)), base w (Low w)] _
  have hnr := namN_range d.list k (en d.list k).name
  have hll := hWd.list
  have hen := hWd.entry k
  have hn1 := hen.node0
  have hn2 := hen.node1
  refine Ev.sr 1 ?_
  refine Rg.p 18 (.binOp .lss 3 (.tmp 17) (.tmp 16) 3) (pv_lss rfl rfl) ?_
  refine Rg.nx (fun _ _ h => h) [18,17,16,15,6,5,4,3,2] rfl ?_
  refine Ev.sq ?_
  refine Ev.cd 18 rfl (fun h4 => ?_) (fun h4 => ?_)
  ·
   have h5 := of_decide_eq_true h4
   refine Ev.sk ?_
   refine At.nx (fun _ _ h => h) [18,17,16,15,6,5,4,3,2] rfl ?_
   refine Ev.sq ?_
   refine Ev.bk 1 ?_
   refine Ev.sr 4 ?_
   have ⟨q4, o5, hp6⟩ := (hD).list.adr (by omega)
   refine Rg.p 19 (.indexAddr 42 (.tmp 15) (.tmp 17)) (v := .pointer (some ⟨q4, o5 + ((k : Int)).toNat * 3, none⟩)) (pv_indexAddr' rfl hp6 rfl (e := 50) (sz := 3) (by kernel_rfl) (by omega) (by omega)) ?_
   refine Rg.p 20 (.load 50 (.tmp 19)) (v := .agg #[.string ((en d.list k).name), .int .i64 ((en d.list k).node), .int .u64 ((en d.list k).cookie)]) (pv_load_entry (i := ((k : Int)).toNat) (es := d.list) rfl hp6 (by omega) (by kernel_rfl) (by kernel_rfl) (fun w hw => (((hD).list).keep (hw.at_ 3 rfl) (fun k hk => hw.lt 3 rfl hk)))) ?_
   refine Rg.al 8 50 (.agg #[.string ⟨#[]⟩, .int .i64 0, .int .u64 0]) fun b7 => ?_
   refine Rg.st 50 8 (.tmp 20) 0 #[.string ((en d.list k).name), .int .i64 ((en d.list k).node), .int .u64 ((en d.list k).cookie)] rfl rfl rfl ?_
   refine Rg.nx (fun _ _ h => h) [20,19,18,17,16,15,8,6,5,4,3,2] rfl ?_
   refine Ev.sr 6 ?_
   refine Rg.mv 21 6 rfl ?_
   refine Rg.fa 22 50 8 0 0 rfl ?_
   refine Rg.ld 23 9 22 0 rfl rfl rfl ?_
   refine Rg.p 24 (.lookup 28 (.tmp 21) (.tmp 23) false) (v := .int .i64 ((look (namN d.list k : List (ByteArray × Int)) ((en d.list k).name)).getD 0)) (pv_lookup (kt := 9) (et := 3) strKey 1 rfl rfl (by kernel_rfl) (by kernel_rfl) (by kernel_rfl) rfl) ?_
   refine Rg.p 25 (.binOp .add 3 (.tmp 24) (.const (.int .i64 1)) 3) (pv_addb rfl rfl (in_i64 (by omega) (by omega))) ?_
   refine rg_mapUpdate (t := 28) (x := .tmp 21) (y := .tmp 23) (z := .tmp 25) (kt := 9) (et := 3) (g := none) strKey 1 (by kernel_rfl) (by kernel_rfl) rfl rfl rfl (by kernel_rfl) (by kernel_rfl) rfl ?_
   refine Rg.nx (fun _ _ h => h) [25,24,23,22,21,20,19,18,17,16,15,8,6,5,4,3,2] rfl ?_
   refine Ev.sq ?_
   refine Ev.sr 46 ?_
   refine Rg.fa 26 50 8 2 2 rfl ?_
   refine Rg.ld 27 34 26 0 rfl rfl rfl ?_
   refine Rg.mv 28 5 rfl ?_
   refine Rg.p 29 (.binOp .leq 34 (.tmp 27) (.tmp 28) 34) (pv_leq rfl rfl) ?_
   refine Rg.mv 30 29 rfl ?_
   refine Rg.go 11 36 30 (decide (d.next ≤ ((en d.list k).cookie))) rfl (fun h6 => ?_) (fun h6 => ?_) ?_
   ·
    refine Rg.skips 10 (by kernel_rfl) ?_
    refine Rg.p 36 (.pick (.tmp 30) (.const (.bool true)) (.tmp 35)) (pv_pick_t rfl rfl) ?_
    exact Rg.em 30 h6 (ot_t h6) rfl rfl
   ·
    have h7 := of_decide_eq_false h6
    refine Rg.pg 4 false 31 (.fieldAddr 50 (.tmp 8) 2) (pv_fieldAddr rfl (n := 2) (by kernel_rfl)) ?_
    refine Rg.pg 4 false 32 (.load 34 (.tmp 31)) (v := .int .u64 ((en d.list k).cookie)) (pv_load_blk 0 rfl rfl (by kernel_rfl) rfl) ?_
    refine Rg.pg 4 false 33 (.fieldAddr 44 (.tmp 3) 14) (pv_fieldAddr rfl (n := 24) (by kernel_rfl)) ?_
    refine Rg.pg 4 false 34 (.load 34 (.tmp 33)) (v := .int .u64 d.next) (pv_load_blk 2 rfl rfl (by kernel_rfl) rfl) ?_
    refine Rg.pg 4 false 35 (.binOp .geq 34 (.tmp 32) (.tmp 34) 34) (pv_geq rfl rfl) ?_
    refine Rg.p 36 (.pick (.tmp 30) (.const (.bool true)) (.tmp 35)) (pv_pick_f rfl rfl) ?_
    exact Rg.em 30 h6 (ot_f h6) rfl rfl
   refine Rg.mv 37 36 rfl ?_
   refine Rg.go 18 43 37 (decide (1 < ((look (upd (namN d.list k) ((en d.list k).name) (((look (namN d.list k : List (ByteArray × Int)) ((en d.list k).name)).getD 0) + 1) : List (ByteArray × Int)) ((en d.list k).name)).getD 0))) rfl (fun h8 => ?_) (fun h8 => ?_) ?_
   ·
    refine Rg.skips 17 (by kernel_rfl) ?_
    refine Rg.p 43 (.pick (.tmp 37) (.const (.bool true)) (.tmp 42)) (pv_pick_t rfl rfl) ?_
    exact Rg.em 37 h8 (ot_t h8) rfl rfl
   ·
    have ⟨h9, h10⟩ := or_f h8
    have h11 := of_decide_eq_false h9
    have h12 := of_decide_eq_false h10
    refine Rg.pg 11 false 38 (.move (.tmp 6)) (pv_move rfl) ?_
    refine Rg.pg 11 false 39 (.fieldAddr 50 (.tmp 8) 0) (pv_fieldAddr rfl (n := 0) (by kernel_rfl)) ?_
    refine Rg.pg 11 false 40 (.load 9 (.tmp 39)) (v := .string ((en d.list k).name)) (pv_load_blk 0 rfl rfl (by kernel_rfl) rfl) ?_
    refine Rg.pg 11 false 41 (.lookup 28 (.tmp 38) (.tmp 40) false) (v := .int .i64 ((look (upd (namN d.list k) ((en d.list k).name) (((look (namN d.list k : List (ByteArray × Int)) ((en d.list k).name)).getD 0) + 1) : List (ByteArray × Int)) ((en d.list k).name)).getD 0)) (pv_lookup (kt := 9) (et := 3) strKey 1 rfl rfl (by kernel_rfl) (by kernel_rfl) (by kernel_rfl) rfl) ?_
    refine Rg.pg 11 false 42 (.binOp .gtr 3 (.tmp 41) (.const (.int .i64 1)) 3) (pv_gtr rfl rfl) ?_
    refine Rg.p 43 (.pick (.tmp 37) (.const (.bool true)) (.tmp 42)) (pv_pick_f rfl rfl) ?_
    exact Rg.em 37 h8 (ot_f h8) rfl rfl
   refine Rg.mv 44 43 rfl ?_
   refine Rg.go 24 49 44 (!(decide ((nameS ((en d.list k).name)) = 0))) rfl (fun h13 => ?_) (fun h13 => ?_) ?_
   ·
    refine Rg.skips 23 (by kernel_rfl) ?_
    refine Rg.p 49 (.pick (.tmp 44) (.const (.bool true)) (.tmp 48)) (pv_pick_t rfl rfl) ?_
    exact Rg.em 44 h13 (ot_t h13) rfl rfl
   ·
    have ⟨h14, h15⟩ := or_f h13
    have ⟨h16, h17⟩ := or_f h14
    have h18 := of_decide_eq_false h16
    have h19 := of_decide_eq_false h17
    have h20 := of_decide_eq_false h15
    refine Rg.pg 18 false 45 (.fieldAddr 50 (.tmp 8) 0) (pv_fieldAddr rfl (n := 0) (by kernel_rfl)) ?_
    refine Rg.pg 18 false 46 (.load 9 (.tmp 45)) (v := .string ((en d.list k).name)) (pv_load_blk 0 rfl rfl (by kernel_rfl) rfl) ?_
    refine rg_call (d := some 47) (f := 113) (xs := #[.tmp 46]) (ts := #[9]) (g := some (18, false)) (v := .int .u32 (nameS ((en d.list k).name))) (by kernel_rfl) (by kernel_rfl) (by kernel_rfl) rfl (fun w hw => Name_calls ((hWd.entry _).name)) ?_
    refine Rg.pg 18 false 48 (.binOp .neq 45 (.tmp 47) (.const (.int .u32 0)) 45) (pv_neq rfl rfl) ?_
    refine Rg.p 49 (.pick (.tmp 44) (.const (.bool true)) (.tmp 48)) (pv_pick_f rfl rfl) ?_
    exact Rg.em 44 h13 (ot_f h13) rfl rfl
   refine Rg.mv 50 49 rfl ?_
   refine Rg.go 29 54 50 (decide (((en d.list k).name) = ⟨#[46]⟩)) rfl (fun h21 => ?_) (fun h21 => ?_) ?_
   ·
    refine Rg.skips 28 (by kernel_rfl) ?_
    refine Rg.p 54 (.pick (.tmp 50) (.const (.bool true)) (.tmp 53)) (pv_pick_t rfl rfl) ?_
    exact Rg.em 50 h21 (ot_t h21) rfl rfl
   ·
    have ⟨h22, h23⟩ := or_f h21
    have ⟨h24, h25⟩ := or_f h22
    have ⟨h26, h27⟩ := or_f h24
    have h28 := of_decide_eq_false h26
    have h29 := of_decide_eq_false h27
    have h30 := of_decide_eq_false h25
    have h31 := of_decide_eq_true (not_f h23)
    refine Rg.pg 24 false 51 (.fieldAddr 50 (.tmp 8) 0) (pv_fieldAddr rfl (n := 0) (by kernel_rfl)) ?_
    refine Rg.pg 24 false 52 (.load 9 (.tmp 51)) (v := .string ((en d.list k).name)) (pv_load_blk 0 rfl rfl (by kernel_rfl) rfl) ?_
    refine Rg.pg 24 false 53 (.binOp .eql 9 (.tmp 52) (.const (.string ⟨#[46]⟩)) 9) (pv_eql_str rfl rfl) ?_
    refine Rg.p 54 (.pick (.tmp 50) (.const (.bool true)) (.tmp 53)) (pv_pick_f rfl rfl) ?_
    exact Rg.em 50 h21 (ot_f h21) rfl rfl
   refine Rg.mv 55 54 rfl ?_
   refine Rg.go 34 59 55 (decide (((en d.list k).name) = ⟨#[46, 46]⟩)) rfl (fun h32 => ?_) (fun h32 => ?_) ?_
   ·
    refine Rg.skips 33 (by kernel_rfl) ?_
    refine Rg.p 59 (.pick (.tmp 55) (.const (.bool true)) (.tmp 58)) (pv_pick_t rfl rfl) ?_
    exact Rg.em 55 h32 (ot_t h32) rfl rfl
   ·
    have ⟨h33, h34⟩ := or_f h32
    have ⟨h35, h36⟩ := or_f h33
    have ⟨h37, h38⟩ := or_f h35
    have ⟨h39, h40⟩ := or_f h37
    have h41 := of_decide_eq_false h39
    have h42 := of_decide_eq_false h40
    have h43 := of_decide_eq_false h38
    have h44 := of_decide_eq_true (not_f h36)
    have h45 := of_decide_eq_false h34
    refine Rg.pg 29 false 56 (.fieldAddr 50 (.tmp 8) 0) (pv_fieldAddr rfl (n := 0) (by kernel_rfl)) ?_
    refine Rg.pg 29 false 57 (.load 9 (.tmp 56)) (v := .string ((en d.list k).name)) (pv_load_blk 0 rfl rfl (by kernel_rfl) rfl) ?_
    refine Rg.pg 29 false 58 (.binOp .eql 9 (.tmp 57) (.const (.string ⟨#[46, 46]⟩)) 9) (pv_eql_str rfl rfl) ?_
    refine Rg.p 59 (.pick (.tmp 55) (.const (.bool true)) (.tmp 58)) (pv_pick_f rfl rfl) ?_
    exact Rg.em 55 h32 (ot_f h32) rfl rfl
   refine Rg.mv 60 59 rfl ?_
   refine Rg.go 39 64 60 (decide (((en d.list k).node) = 1)) rfl (fun h46 => ?_) (fun h46 => ?_) ?_
   ·
    refine Rg.skips 38 (by kernel_rfl) ?_
    refine Rg.p 64 (.pick (.tmp 60) (.const (.bool true)) (.tmp 63)) (pv_pick_t rfl rfl) ?_
    exact Rg.em 60 h46 (ot_t h46) rfl rfl
   ·
    have ⟨h47, h48⟩ := or_f h46
    have ⟨h49, h50⟩ := or_f h47
    have ⟨h51, h52⟩ := or_f h49
    have ⟨h53, h54⟩ := or_f h51
    have ⟨h55, h56⟩ := or_f h53
    have h57 := of_decide_eq_false h55
    have h58 := of_decide_eq_false h56
    have h59 := of_decide_eq_false h54
    have h60 := of_decide_eq_true (not_f h52)
    have h61 := of_decide_eq_false h50
    have h62 := of_decide_eq_false h48
    refine Rg.pg 34 false 61 (.fieldAddr 50 (.tmp 8) 1) (pv_fieldAddr rfl (n := 1) (by kernel_rfl)) ?_
    refine Rg.pg 34 false 62 (.load 3 (.tmp 61)) (v := .int .i64 ((en d.list k).node)) (pv_load_blk 0 rfl rfl (by kernel_rfl) rfl) ?_
    refine Rg.pg 34 false 63 (.binOp .eql 3 (.tmp 62) (.const (.int .i64 1)) 3) (pv_eql rfl rfl) ?_
    refine Rg.p 64 (.pick (.tmp 60) (.const (.bool true)) (.tmp 63)) (pv_pick_f rfl rfl) ?_
    exact Rg.em 60 h46 (ot_f h46) rfl rfl
   refine Rg.mv 65 64 rfl ?_
   refine Rg.go 46 71 65 (!(thereS ns ((en d.list k).node))) rfl (fun h63 => ?_) (fun h63 => ?_) ?_
   ·
    refine Rg.skips 45 (by kernel_rfl) ?_
    refine Rg.p 71 (.pick (.tmp 65) (.const (.bool true)) (.tmp 70)) (pv_pick_t rfl rfl) ?_
    exact Rg.em 65 h63 (ot_t h63) rfl rfl
   ·
    have ⟨h64, h65⟩ := or_f h63
    have ⟨h66, h67⟩ := or_f h64
    have ⟨h68, h69⟩ := or_f h66
    have ⟨h70, h71⟩ := or_f h68
    have ⟨h72, h73⟩ := or_f h70
    have ⟨h74, h75⟩ := or_f h72
    have h76 := of_decide_eq_false h74
    have h77 := of_decide_eq_false h75
    have h78 := of_decide_eq_false h73
    have h79 := of_decide_eq_true (not_f h71)
    have h80 := of_decide_eq_false h69
    have h81 := of_decide_eq_false h67
    have h82 := of_decide_eq_false h65
    refine Rg.pg 39 false 66 (.load 25 (.tmp 2)) (v := .agg #[.slice p ns.length cap, .int .u32 gen]) (pv_load_blk_whole 3 rfl rfl (by kernel_rfl) (by kernel_rfl)) ?_
    refine Rg.pg 39 false 67 (.fieldAddr 50 (.tmp 8) 1) (pv_fieldAddr rfl (n := 1) (by kernel_rfl)) ?_
    refine Rg.pg 39 false 68 (.load 3 (.tmp 67)) (v := .int .i64 ((en d.list k).node)) (pv_load_blk 0 rfl rfl (by kernel_rfl) rfl) ?_
    refine rg_call (d := some 69) (f := 54) (xs := #[.tmp 66, .tmp 68]) (ts := #[25, 3]) (g := some (39, false)) (v := .bool (thereS ns ((en d.list k).node))) (by kernel_rfl) (by kernel_rfl) (by kernel_rfl) rfl (fun w hw => there_calls ((hT).keep (hw.at_ 4 rfl) (fun k hk => hw.lt 4 rfl hk))) ?_
    refine Rg.pg 39 false 70 (.unOp .not 4 (.tmp 69)) (pv_not (b := thereS ns ((en d.list k).node)) rfl) ?_
    refine Rg.p 71 (.pick (.tmp 65) (.const (.bool true)) (.tmp 70)) (pv_pick_f rfl rfl) ?_
    exact Rg.em 65 h63 (ot_f h63) rfl rfl
   refine Rg.nx (fun _ _ h => h) [71,65,64,60,59,55,54,50,49,44,43,37,36,30,29,28,27,26,25,24,23,22,21,20,19,18,17,16,15,8,6,5,4,3,2] rfl ?_
   refine Ev.cd 71 rfl (fun h83 => ?_) (fun h83 => ?_)
   ·
    refine Ev.sr 1 ?_
    refine Rg.ac 4 (.bool false) ?_
    refine Rg.nx (fun _ _ h => h) [71,65,64,60,59,55,54,50,49,44,43,37,36,30,29,28,27,26,25,24,23,22,21,20,19,18,17,16,15,8,6,5,4,3,2] rfl ?_
    refine Ev.rt ?_
    refine At.via (Q := Q) hQ ?_
    refine At.ret1 rfl rfl rfl ?_
    exact fun w hw => ⟨(by rw [entriesS_bad (k := k) (by omega) h83]), hw.base_below 4 rfl⟩
   ·
    have ⟨h84, h85⟩ := or_f h83
    have ⟨h86, h87⟩ := or_f h84
    have ⟨h88, h89⟩ := or_f h86
    have ⟨h90, h91⟩ := or_f h88
    have ⟨h92, h93⟩ := or_f h90
    have ⟨h94, h95⟩ := or_f h92
    have ⟨h96, h97⟩ := or_f h94
    have h98 := of_decide_eq_false h96
    have h99 := of_decide_eq_false h97
    have h100 := of_decide_eq_false h95
    have h101 := of_decide_eq_true (not_f h93)
    have h102 := of_decide_eq_false h91
    have h103 := of_decide_eq_false h89
    have h104 := of_decide_eq_false h87
    have h105 := not_f h85
    have ⟨h106, h107, h108⟩ := thereS_t h105
    refine Ev.sk ?_
    refine At.nx (fun _ _ h => h) [71,65,64,60,59,55,54,50,49,44,43,37,36,30,29,28,27,26,25,24,23,22,21,20,19,18,17,16,15,8,6,5,4,3,2] rfl ?_
    refine Ev.rg 3 ?_
    refine Rg.fa 72 50 8 2 2 rfl ?_
    refine Rg.ld 73 34 72 0 rfl rfl rfl ?_
    refine Rg.as 5 73 rfl ?_
    refine Rg.nx (fun _ _ h => h) [73,72,71,65,64,60,59,55,54,50,49,44,43,37,36,30,29,28,27,26,25,24,23,22,21,20,19,18,17,16,15,8,6,5,4,3,2] rfl ?_
    refine Ev.rg 2 ?_
    refine Rg.p 74 (.binOp .add 3 (.tmp 17) (.const (.int .i64 1)) 3) (pv_addb rfl rfl (in_i64 (by omega) (by omega))) ?_
    refine Rg.mv 17 74 rfl ?_
    refine Rg.fin rfl ?_
    refine At.round (fun _ _ h => h) (k + 1) [1, 2, 3, 4] ⟨(by omega), (fun m hm => by rcases Nat.lt_succ_iff_lt_or_eq.1 hm with h1_ | h1_; exact hno m h1_; subst h1_; exact h83)⟩ (by show d.list.length - (k + 1) < d.list.length - k; omega) (.cons (rfl) (.cons (rfl) (.cons (rfl) (.cons (rfl) (.cons (rfl) (.cons (rfl) (.cons (rfl) (.cons (rfl) (.nil _))))))))) rfl (by decide)
  ·
   have h109 := of_decide_eq_false h4
   refine Ev.xt 0 ?_
   refine At.nx (fun _ _ h => h) [5,4,3] rfl ?_
   refine Ev.sr 5 ?_
   refine Rg.fa 75 44 3 14 24 rfl ?_
   refine Rg.ld 76 34 75 1 rfl rfl rfl ?_
   refine Rg.mv 77 5 rfl ?_
   refine Rg.p 78 (.binOp .gtr 34 (.tmp 76) (.tmp 77) 34) (pv_gtr rfl rfl) ?_
   refine Rg.as 4 78 rfl ?_
   refine Rg.nx (fun _ _ h => h) [4] rfl ?_
   refine Ev.rt ?_
   refine At.via (Q := Q) hQ ?_
   refine At.ret1 rfl rfl rfl ?_
   exact fun w hw => ⟨(by rw [entriesS_good h1 (fun m hm => hno m (by omega)), show k = d.list.length by omega]), hw.base_below 3 rfl⟩

end Go.Proofs.Ytfhhggcdmgjbcaa.Sx
