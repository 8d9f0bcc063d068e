/-
  A part of the walk of the seat: laws of a small proof system, and contracts of functions, each proved. Conditions: as each theorem says.
-/
import Derived.Test.YtfhhggcdmgjbcaaProg
import Derived.Test.YtfhhggcdmgjbcaaT33
namespace Go.Proofs.Ytfhhggcdmgjbcaa.Sx
open Go Go.RowKit Go.Proofs

/-- what the walk of GuardKeeps leans on -/
structure GKeep (ns ms : List Node) (gen g2 n e : Int) : Prop where
  wf : NodesWf ms
  ck : checkS ms g2 = true
  len : ms.length = ns.length
  there : thereS ns n = true
  there2 : thereS ms n = true
  other : ∀ k : Nat, k < ns.length → (k : Int) ≠ n → sameNS (nd ms k) (nd ns k) = true

theorem gk_other {ns ms : List Node} {gen g2 n e : Int} {k : Nat} (h : GKeep ns ms gen g2 n e) (hk : k < ns.length) : ((!decide ((k : Int) = n)) && !sameNS (nd ms k) (nd ns k)) = false := by
  by_cases hkn : (k : Int) = n
  · rw [decide_eq_true hkn]; rfl
  · rw [h.other k hk hkn]; simp

set_option maxHeartbeats 8000000 in
theorem GuardKeeps_walk {n nows nown bt0 bt1 bt2 bt3 bt4 bt5 bt6 bt7 : Int} {s : SetD} {p : Option Addr} {ns : List Node} {al : List Loc} {cap : Nat} {gen : Int} {w : World} (hT : NodesAt (Low w) w p ns al) (hW : NodesWf ns) {pg : Option Addr} {c : CredD} {cg : Nat} (hG : NumsAt (Low w) w pg c.groups) (hgl : c.groups.length ≤ 16777216) (hs0_ : 0 ≤ s.size) (hL : checkS ns gen = true → setE ns n c s nows nown = 0 → GKeep ns (setNs ns n c s nows nown) gen (setG ns n c s nows nown gen) n (setE ns n c s nows nown)) :
  Calls Try.prog 5 #[.agg #[.slice p ns.length cap, .int .u32 gen, .int .i64 n, .int .u32 c.user, .int .u32 c.group, .slice pg c.groups.length cg, .bool s.hm, .int .u32 s.mode, .bool s.hu, .int .u32 s.user, .bool s.hg, .int .u32 s.group, .bool s.hs, .int .u64 s.size, .int .u32 s.rh, .int .u32 s.rs, .int .u32 s.rn, .int .u32 s.wh, .int .u32 s.ws, .int .u32 s.wn, .int .u32 nows, .int .u32 nown, .int .u8 bt0, .int .u8 bt1, .int .u8 bt2, .int .u8 bt3, .int .u8 bt4, .int .u8 bt5, .int .u8 bt6, .int .u8 bt7]] w (Ret w (.bool true)) := by
 refine calls_ofQ (args := [_]) [base w (Low w)] Try.func5 (by kernel_rfl) (by kernel_rfl) (Heap.start w) ?_
 intro Q hQ
 have hlen := hW.len
 refine Ev.sr 2 ?_
 refine Rg.bx 1 63 (.tmp 0) rfl fun b1 => ?_
 refine Rg.ac 2 (.bool false) ?_
 refine Rg.nx (fun _ _ h => h) [2,1] rfl ?_
 refine Ev.sq ?_
 refine Ev.sr 8 ?_
 refine Rg.p 9 (.load 63 (.tmp 1)) (v := .agg #[.slice p ns.length cap, .int .u32 gen, .int .i64 n, .int .u32 c.user, .int .u32 c.group, .slice pg c.groups.length cg, .bool s.hm, .int .u32 s.mode, .bool s.hu, .int .u32 s.user, .bool s.hg, .int .u32 s.group, .bool s.hs, .int .u64 s.size, .int .u32 s.rh, .int .u32 s.rs, .int .u32 s.rn, .int .u32 s.wh, .int .u32 s.ws, .int .u32 s.wn, .int .u32 nows, .int .u32 nown, .int .u8 bt0, .int .u8 bt1, .int .u8 bt2, .int .u8 bt3, .int .u8 bt4, .int .u8 bt5, .int .u8 bt6, .int .u8 bt7]) (pv_load_blk_whole 0 rfl rfl (by kernel_rfl) (by kernel_rfl)) ?_
 refine Rg.cn (T := Bool) (some 10) 22 #[.tmp 9] #[63] (v := fun g2 => .bool g2) (L := fun g2 => []) rfl (fun w hw => great16_calls (s := s) (n := n) (nows := nows) (nown := nown) ((hT).keep (hw.at_ 1 rfl) (fun k hk => hw.lt 1 rfl hk)) hW (RowsAt.keep hG (hw.at_ 1 rfl) (fun k hk => hw.lt 1 rfl hk)) hgl hs0_) ?_
 rintro g2 _
 dsimp only [putE, List.append, HAppend.hAppend, Append.append]
 refine Rg.mv 11 10 rfl ?_
 refine Rg.go 8 16 11 (!(checkS ns gen)) rfl (fun h1 => ?_) (fun h1 => ?_) ?_
 ·
  refine Rg.skips 7 (by kernel_rfl) ?_
  refine Rg.p 16 (.pick (.tmp 11) (.const (.bool true)) (.tmp 15)) (pv_pick_t rfl rfl) ?_
  exact Rg.em 11 h1 (ot_t h1) rfl rfl
 ·
  refine Rg.pg 2 false 12 (.fieldAddr 63 (.tmp 1) 0) (pv_fieldAddr rfl (n := 0) (by kernel_rfl)) ?_
  refine Rg.pg 2 false 13 (.load 25 (.tmp 12)) (v := .agg #[.slice p ns.length cap, .int .u32 gen]) (pv_load_blk_agg 0 rfl rfl (vs := #[.slice p ns.length cap, .int .u32 gen]) (by kernel_rfl) (by kernel_rfl) (agg_rfl (by kernel_rfl))) ?_
  refine rg_call (d := some 14) (f := 15) (xs := #[.tmp 13]) (ts := #[25]) (g := some (2, false)) (v := .bool (checkS ns gen)) (by kernel_rfl) (by kernel_rfl) (by kernel_rfl) rfl (fun w hw => Check_calls ((hT).keep (hw.at_ 1 rfl) (fun k hk => hw.lt 1 rfl hk)) hW) ?_
  refine Rg.pg 2 false 15 (.unOp .not 4 (.tmp 14)) (pv_not (b := checkS ns gen) rfl) ?_
  refine Rg.p 16 (.pick (.tmp 11) (.const (.bool true)) (.tmp 15)) (pv_pick_f rfl rfl) ?_
  exact Rg.em 11 h1 (ot_f h1) rfl rfl
 refine Rg.nx (fun _ _ h => h) [16,2,1] rfl ?_
 refine Ev.cd 16 rfl (fun h2 => ?_) (fun h2 => ?_)
 ·
  refine Ev.sr 2 ?_
  refine Rg.cl (some 17) 23 #[] #[] (v := .bool true) rfl (fun w hw => lives16_calls) ?_
  refine Rg.as 2 17 rfl ?_
  refine Rg.nx (fun _ _ h => h) [2,1] rfl ?_
  refine Ev.rt ?_
  refine At.via (Q := Q) hQ ?_
  refine At.ret1 rfl rfl rfl ?_
  exact fun w hw => ⟨rfl, hw.base_below 1 rfl⟩
 ·
  have ⟨h3, h4⟩ := or_f h2
  have h5 := not_f h4
  have hck_ : checkS ns gen = true := by simpa using (or_f h2).2
  refine Ev.sk ?_
  refine At.nx (fun _ _ h => h) [2,1] rfl ?_
  refine Ev.sr 17 ?_
  refine Rg.fa 19 63 1 0 0 rfl ?_
  refine Rg.p 20 (.load 25 (.tmp 19)) (v := .agg #[.slice p ns.length cap, .int .u32 gen]) (pv_load_blk_agg 0 rfl rfl (vs := #[.slice p ns.length cap, .int .u32 gen]) (by kernel_rfl) (by kernel_rfl) (agg_rfl (by kernel_rfl))) ?_
  refine Rg.fa 21 63 1 1 2 rfl ?_
  refine Rg.ld 22 3 21 0 rfl rfl rfl ?_
  refine Rg.fa 23 63 1 2 3 rfl ?_
  refine Rg.p 24 (.load 56 (.tmp 23)) (v := .agg #[.int .u32 c.user, .int .u32 c.group, .slice pg c.groups.length cg]) (pv_load_blk_agg 0 rfl rfl (vs := #[.int .u32 c.user, .int .u32 c.group, .slice pg c.groups.length cg]) (by kernel_rfl) (by kernel_rfl) (agg_rfl (by kernel_rfl))) ?_
  refine Rg.fa 25 63 1 3 6 rfl ?_
  refine Rg.p 26 (.load 59 (.tmp 25)) (v := .agg #[.bool s.hm, .int .u32 s.mode, .bool s.hu, .int .u32 s.user, .bool s.hg, .int .u32 s.group, .bool s.hs, .int .u64 s.size, .int .u32 s.rh, .int .u32 s.rs, .int .u32 s.rn, .int .u32 s.wh, .int .u32 s.ws, .int .u32 s.wn]) (pv_load_blk_agg 0 rfl rfl (vs := #[.bool s.hm, .int .u32 s.mode, .bool s.hu, .int .u32 s.user, .bool s.hg, .int .u32 s.group, .bool s.hs, .int .u64 s.size, .int .u32 s.rh, .int .u32 s.rs, .int .u32 s.rn, .int .u32 s.wh, .int .u32 s.ws, .int .u32 s.wn]) (by kernel_rfl) (by kernel_rfl) (agg_rfl (by kernel_rfl))) ?_
  refine Rg.fa 27 63 1 4 20 rfl ?_
  refine Rg.p 28 (.load 61 (.tmp 27)) (v := .agg #[.int .u32 nows, .int .u32 nown, .int .u8 bt0, .int .u8 bt1, .int .u8 bt2, .int .u8 bt3, .int .u8 bt4, .int .u8 bt5, .int .u8 bt6, .int .u8 bt7]) (pv_load_blk_agg 0 rfl rfl (vs := #[.int .u32 nows, .int .u32 nown, .int .u8 bt0, .int .u8 bt1, .int .u8 bt2, .int .u8 bt3, .int .u8 bt4, .int .u8 bt5, .int .u8 bt6, .int .u8 bt7]) (by kernel_rfl) (by kernel_rfl) (agg_rfl (by kernel_rfl))) ?_
  refine Rg.cn (T := TL) (some 29) 24 #[.tmp 20, .tmp 22, .tmp 24, .tmp 26, .tmp 28] #[25, 3, 56, 59, 61] (v := fun ⟨p3, c4, c5, l6, G7⟩ => .tuple #[.agg #[.slice p3 ((setNs ns n c s nows nown).length) c4, .int .u32 (setG ns n c s nows nown gen)], .int .u32 (setE ns n c s nows nown)]) (L := fun ⟨p3, c4, c5, l6, G7⟩ => [own 44 25 p3 ((setNs ns n c s nows nown).length) c5 (flat (setNs ns n c s nows nown) l6), dataI none G7 (setNs ns n c s nows nown) l6]) rfl (fun w hw => Set_calls (s := s) (n := n) (nows := nows) (nown := nown) ((hT).keep (hw.at_ 1 rfl) (fun k hk => hw.lt 1 rfl hk)) hW (RowsAt.keep hG (hw.at_ 1 rfl) (fun k hk => hw.lt 1 rfl hk)) hgl hs0_) ?_
  rintro ⟨p3, c4, c5, l6, G7⟩ _
  dsimp only [putE, List.append, HAppend.hAppend, Append.append]
  refine Rg.mv 18 29 rfl ?_
  refine Rg.ex 30 18 0 rfl rfl ?_
  refine Rg.ex 31 18 1 rfl rfl ?_
  refine Rg.al 3 25 (.agg #[.slice none 0 0, .int .u32 0]) fun b8 => ?_
  refine Rg.st 25 3 (.tmp 30) 0 #[.slice p3 ((setNs ns n c s nows nown).length) c4, .int .u32 (setG ns n c s nows nown gen)] rfl rfl rfl ?_
  refine Rg.as 4 31 rfl ?_
  refine Rg.nx (fun _ _ h => h) [4,3,2,1] rfl ?_
  refine Ev.sq ?_
  refine Ev.sr 2 ?_
  refine Rg.mv 32 4 rfl ?_
  refine Rg.p 33 (.binOp .neq 45 (.tmp 32) (.const (.int .u32 0)) 45) (pv_neq rfl rfl) ?_
  refine Rg.nx (fun _ _ h => h) [33,3,2,1] rfl ?_
  refine Ev.cd 33 rfl (fun h6 => ?_) (fun h6 => ?_)
  ·
   have h7 := of_decide_eq_false (not_t h6)
   have hb_ := setE_bad (gen := gen) (show setE ns n c s nows nown = _ from rfl) (of_decide_eq_false (not_t h6))
   refine Ev.sr 8 ?_
   refine Rg.fa 34 25 3 0 0 rfl ?_
   refine Rg.ld 35 22 34 0 rfl rfl rfl ?_
   refine Rg.p 36 (.call { callee := .builtin .len, args := #[.tmp 35], argTypes := #[22] }) (pv_len_slice rfl (by kernel_rfl)) ?_
   refine Rg.p 37 (.binOp .eql 3 (.tmp 36) (.const (.int .i64 0)) 3) (pv_eql rfl rfl) ?_
   refine Rg.mv 38 37 rfl ?_
   refine Rg.ga 7 40 38 true rfl (fun h8 => ?_) (fun h8 => ?_) ?_
   ·
    have h9 := of_decide_eq_true h8
    refine rg_call (d := some 39) (f := 23) (xs := #[]) (ts := #[]) (g := some (4, true)) (v := .bool true) (by kernel_rfl) (by kernel_rfl) (by kernel_rfl) rfl (fun w hw => lives16_calls) ?_
    refine Rg.p 40 (.pick (.tmp 38) (.tmp 39) (.const (.bool false))) (pv_pick_t rfl rfl) ?_
    exact Rg.em 38 h8 (at_t h8) rfl rfl
   ·
    refine Rg.skips 6 (by kernel_rfl) ?_
    refine Rg.p 40 (.pick (.tmp 38) (.tmp 39) (.const (.bool false))) (pv_pick_f rfl rfl) ?_
    exact Rg.em 38 h8 (at_f h8) rfl rfl
   refine Rg.as 2 40 rfl ?_
   refine Rg.nx (fun _ _ h => h) [3,2,1] rfl ?_
   refine Ev.rt ?_
   refine At.via (Q := Q) hQ ?_
   refine At.ret1 rfl rfl rfl ?_
   exact fun w hw => ⟨(by rw [hb_.1]; rfl), hw.base_below 4 rfl⟩
  ·
   have h10 := of_decide_eq_true (not_f h6)
   have he_ : setE ns n c s nows nown = 0 := of_decide_eq_true (not_f h6)
   have hF := hL hck_ he_
   have hth_ := thereS_t hF.there
   have hl1_ := hF.len
   have hl2_ := hth_.1
   have hl3_ := hth_.2.1
   refine Ev.fac (fun w hw => own_some hw 1 rfl (by omega)) (fun hs_ => ?_)
   obtain ⟨bl, rfl⟩ := hs_
   refine Ev.sk ?_
   refine At.nx (fun _ _ h => h) [3,2,1] rfl ?_
   refine Ev.sq ?_
   refine Ev.sr 13 ?_
   refine Rg.p 41 (.load 25 (.tmp 3)) (v := .agg #[.slice (some ⟨bl, 0, none⟩) ((setNs ns n c s nows nown).length) c4, .int .u32 (setG ns n c s nows nown gen)]) (pv_load_blk_whole 0 rfl rfl (by kernel_rfl) (by kernel_rfl)) ?_
   refine Rg.cl (some 42) 15 #[.tmp 41] #[25] (v := .bool (checkS (setNs ns n c s nows nown) (setG ns n c s nows nown gen))) rfl (fun w hw => Check_calls (own_tree hw 1 2 rfl rfl (fun _ h => by cases h)) hF.wf) ?_
   refine Rg.p 43 (.unOp .not 4 (.tmp 42)) (pv_not (b := checkS (setNs ns n c s nows nown) (setG ns n c s nows nown gen)) rfl) ?_
   refine Rg.mv 44 43 rfl ?_
   refine Rg.go 13 53 44 (!(decide (((setNs ns n c s nows nown).length : Int) = (ns.length : Int)))) rfl (fun h11 => ?_) (fun h11 => ?_) ?_
   ·
    refine Rg.skips 12 (by kernel_rfl) ?_
    refine Rg.p 53 (.pick (.tmp 44) (.const (.bool true)) (.tmp 52)) (pv_pick_t rfl rfl) ?_
    exact Rg.em 44 h11 (ot_t h11) rfl rfl
   ·
    have h12 := not_f h11
    refine Rg.pg 3 false 45 (.fieldAddr 25 (.tmp 3) 0) (pv_fieldAddr rfl (n := 0) (by kernel_rfl)) ?_
    refine Rg.pg 3 false 46 (.load 22 (.tmp 45)) (v := .slice (some ⟨bl, 0, none⟩) ((setNs ns n c s nows nown).length) c4) (pv_load_blk 0 rfl rfl (by kernel_rfl) rfl) ?_
    refine Rg.pg 3 false 47 (.call { callee := .builtin .len, args := #[.tmp 46], argTypes := #[22] }) (pv_len_slice rfl (by kernel_rfl)) ?_
    refine Rg.pg 3 false 48 (.fieldAddr 63 (.tmp 1) 0) (pv_fieldAddr rfl (n := 0) (by kernel_rfl)) ?_
    refine Rg.pg 3 false 49 (.fieldAddr 25 (.tmp 48) 0) (pv_fieldAddr rfl (n := 0) (by kernel_rfl)) ?_
    refine Rg.pg 3 false 50 (.load 22 (.tmp 49)) (v := .slice p ns.length cap) (pv_load_blk 3 rfl rfl (by kernel_rfl) rfl) ?_
    refine Rg.pg 3 false 51 (.call { callee := .builtin .len, args := #[.tmp 50], argTypes := #[22] }) (pv_len_slice rfl (by kernel_rfl)) ?_
    refine Rg.pg 3 false 52 (.binOp .neq 3 (.tmp 47) (.tmp 51) 3) (pv_neq rfl rfl) ?_
    refine Rg.p 53 (.pick (.tmp 44) (.const (.bool true)) (.tmp 52)) (pv_pick_f rfl rfl) ?_
    exact Rg.em 44 h11 (ot_f h11) rfl rfl
   refine Rg.nx (fun _ _ h => h) [53,3,2,1] rfl ?_
   have hc53_ : ((!(checkS (setNs ns n c s nows nown) (setG ns n c s nows nown gen))) || (!(decide (((setNs ns n c s nows nown).length : Int) = (ns.length : Int))))) = false := (by rw [hF.ck, hF.len]; simp)
   refine ev_cond_f (t := 53) (by kernel_rfl) (congrArg (fun b => some (Value.bool b)) hc53_) ?_
   refine Ev.sk ?_
   refine At.nx (fun _ _ h => h) [3,2,1] rfl ?_
   refine Ev.sq ?_
   refine Ev.sr 1 ?_
   refine Rg.ac 5 (.int .i64 0) ?_
   refine Rg.nx (fun _ _ h => h) [5,3,2,1] rfl ?_
   refine Ev.bk 0 ?_
   refine ev_loop (T := Nat) (fun k => [(1, .pointer (some ⟨b1, 0, none⟩)), (3, .pointer (some ⟨b8, 0, none⟩)), (5, .int .i64 (k : Int))]) (fun k => [blk b8 (.cells #[.slice (some ⟨bl, 0, none⟩) ((setNs ns n c s nows nown).length) c4, .int .u32 (setG ns n c s nows nown gen)] 25 (0, 0)), own 44 25 (some ⟨bl, 0, none⟩) ((setNs ns n c s nows nown).length) c5 (flat (setNs ns n c s nows nown) l6), dataI none G7 (setNs ns n c s nows nown) l6, blk b1 (.cells #[.slice p ns.length cap, .int .u32 gen, .int .i64 n, .int .u32 c.user, .int .u32 c.group, .slice pg c.groups.length cg, .bool s.hm, .int .u32 s.mode, .bool s.hu, .int .u32 s.user, .bool s.hg, .int .u32 s.group, .bool s.hs, .int .u64 s.size, .int .u32 s.rh, .int .u32 s.rs, .int .u32 s.rn, .int .u32 s.wh, .int .u32 s.ws, .int .u32 s.wn, .int .u32 nows, .int .u32 nown, .int .u8 bt0, .int .u8 bt1, .int .u8 bt2, .int .u8 bt3, .int .u8 bt4, .int .u8 bt5, .int .u8 bt6, .int .u8 bt7] 63 (0, 0)), base w (Low w)]) (fun k => k ≤ ns.length) (fun k => ns.length - k) 0 [0, 1, 2, 3, 4] (by kernel_rfl) (by omega) (.cons (rfl) (.cons (rfl) (.cons (rfl) (.nil _)))) rfl (by decide) ?_
   rintro k (hk : k ≤ ns.length)
   show Ev _ _ [(1, .pointer (some ⟨b1, 0, none⟩)), (3, .pointer (some ⟨b8, 0, none⟩)), (5, .int .i64 (k : Int))] [blk b8 (.cells #[.slice (some ⟨bl, 0, none⟩) ((setNs ns n c s nows nown).length) c4, .int .u32 (setG ns n c s nows nown gen)] 25 (0, 0)), own 44 25 (some ⟨bl, 0, none⟩) ((setNs ns n c s nows nown).length) c5 (flat (setNs ns n c s nows nown) l6), dataI none G7 (setNs ns n c s nows nown) l6, blk b1 (.cells #[.slice p ns.length cap, .int .u32 gen, .int .i64 n, .int .u32 c.user, .int .u32 c.group, .slice pg c.groups.length cg, .bool s.hm, .int .u32 s.mode, .bool s.hu, .int .u32 s.user, .bool s.hg, .int .u32 s.group, .bool s.hs, .int .u64 s.size, .int .u32 s.rh, .int .u32 s.rs, .int .u32 s.rn, .int .u32 s.wh, .int .u32 s.ws, .int .u32 s.wn, .int .u32 nows, .int .u32 nown, .int .u8 bt0, .int .u8 bt1, .int .u8 bt2, .int .u8 bt3, .int .u8 bt4, .int .u8 bt5, .int .u8 bt6, .int .u8 bt7] 63 (0, 0)), base w (Low w)] _
   refine Ev.sq ?_
   refine Ev.sr 5 ?_
   refine Rg.mv 54 5 rfl ?_
   refine Rg.fa 55 25 3 0 0 rfl ?_
   refine Rg.ld 56 22 55 0 rfl rfl rfl ?_
   refine Rg.p 57 (.call { callee := .builtin .len, args := #[.tmp 56], argTypes := #[22] }) (pv_len_slice rfl (by kernel_rfl)) ?_
   refine Rg.p 58 (.binOp .lss 3 (.tmp 54) (.tmp 57) 3) (pv_lss rfl rfl) ?_
   refine Rg.nx (fun _ _ h => h) [58,57,56,55,54,5,3,1] rfl ?_
   refine Ev.cd 58 rfl (fun h13 => ?_) (fun h13 => ?_)
   ·
    have h14 := of_decide_eq_true h13
    refine Ev.sk ?_
    refine At.nx (fun _ _ h => h) [58,57,56,55,54,5,3,1] rfl ?_
    refine Ev.sq ?_
    refine Ev.bk 1 ?_
    refine Ev.sq ?_
    refine ev_quiet (n := 19) (E' := [(1, .pointer (some ⟨b1, 0, none⟩)), (3, .pointer (some ⟨b8, 0, none⟩)), (5, .int .i64 (k : Int)), (54, .int .i64 (k : Int)), (55, .pointer (some ⟨b8, 0 + 0, none⟩)), (56, .slice (some ⟨bl, 0, none⟩) ((setNs ns n c s nows nown).length) c4), (57, .int .i64 ((setNs ns n c s nows nown).length : Int)), (58, .bool (decide ((k : Int) < ((setNs ns n c s nows nown).length : Int)))), (61, .int .i64 (k : Int)), (62, .pointer (some ⟨b1, 0 + 2, none⟩)), (63, .int .i64 n), (64, .bool (!(decide ((k : Int) = n)))), (65, .bool (!(decide ((k : Int) = n)))), (79, .bool ((!(decide ((k : Int) = n))) && (!(sameNS (nd (setNs ns n c s nows nown) k) (nd ns k)))))]) (by kernel_rfl) (by kernel_rfl) ?_ ?_
    ·
     refine Qg.pure (d := 61) (op := .move (.tmp 5)) (g := none) (v := .int .i64 (k : Int)) (by kernel_rfl) (by kernel_rfl) (pv_move rfl) ?_
     refine Qg.pure (d := 62) (op := .fieldAddr 63 (.tmp 1) 1) (g := none) (v := .pointer (some ⟨b1, 0 + 2, none⟩)) (by kernel_rfl) (by kernel_rfl) (pv_fieldAddr rfl (n := 2) (by kernel_rfl)) ?_
     refine Qg.pure (d := 63) (op := .load 3 (.tmp 62)) (g := none) (v := .int .i64 n) (by kernel_rfl) (by kernel_rfl) (pv_load_blk 3 rfl rfl (by kernel_rfl) rfl) ?_
     refine Qg.pure (d := 64) (op := .binOp .neq 3 (.tmp 61) (.tmp 63) 3) (g := none) (v := .bool (!(decide ((k : Int) = n)))) (by kernel_rfl) (by kernel_rfl) (pv_neq rfl rfl) ?_
     refine Qg.pure (d := 65) (op := .move (.tmp 64)) (g := none) (v := .bool (!(decide ((k : Int) = n)))) (by kernel_rfl) (by kernel_rfl) (pv_move rfl) ?_
     refine Qg.split 19 [(79, .bool ((!(decide ((k : Int) = n))) && (!(sameNS (nd (setNs ns n c s nows nown) k) (nd ns k))))), (1, .pointer (some ⟨b1, 0, none⟩)), (3, .pointer (some ⟨b8, 0, none⟩)), (5, .int .i64 (k : Int)), (54, .int .i64 (k : Int)), (55, .pointer (some ⟨b8, 0 + 0, none⟩)), (56, .slice (some ⟨bl, 0, none⟩) ((setNs ns n c s nows nown).length) c4), (57, .int .i64 ((setNs ns n c s nows nown).length : Int)), (58, .bool (decide ((k : Int) < ((setNs ns n c s nows nown).length : Int)))), (61, .int .i64 (k : Int)), (62, .pointer (some ⟨b1, 0 + 2, none⟩)), (63, .int .i64 n), (64, .bool (!(decide ((k : Int) = n)))), (65, .bool (!(decide ((k : Int) = n))))] [blk b8 (.cells #[.slice (some ⟨bl, 0, none⟩) ((setNs ns n c s nows nown).length) c4, .int .u32 (setG ns n c s nows nown gen)] 25 (0, 0)), own 44 25 (some ⟨bl, 0, none⟩) ((setNs ns n c s nows nown).length) c5 (flat (setNs ns n c s nows nown) l6), dataI none G7 (setNs ns n c s nows nown) l6, blk b1 (.cells #[.slice p ns.length cap, .int .u32 gen, .int .i64 n, .int .u32 c.user, .int .u32 c.group, .slice pg c.groups.length cg, .bool s.hm, .int .u32 s.mode, .bool s.hu, .int .u32 s.user, .bool s.hg, .int .u32 s.group, .bool s.hs, .int .u64 s.size, .int .u32 s.rh, .int .u32 s.rs, .int .u32 s.rn, .int .u32 s.wh, .int .u32 s.ws, .int .u32 s.wn, .int .u32 nows, .int .u32 nown, .int .u8 bt0, .int .u8 bt1, .int .u8 bt2, .int .u8 bt3, .int .u8 bt4, .int .u8 bt5, .int .u8 bt6, .int .u8 bt7] 63 (0, 0)), base w (Low w)] (s := 65) (g := !(decide ((k : Int) = n))) rfl (by decide) (fun h15 => ?_) (fun h15 => ?_) ?_
     ·
      have h16 := of_decide_eq_false (not_t h15)
      refine Qg.pure (d := 66) (op := .fieldAddr 25 (.tmp 3) 0) (g := some (4, true)) (v := .pointer (some ⟨b8, 0 + 0, none⟩)) (by kernel_rfl) (by kernel_rfl) (pv_fieldAddr rfl (n := 0) (by kernel_rfl)) ?_
      refine Qg.pure (d := 67) (op := .load 22 (.tmp 66)) (g := some (4, true)) (v := .slice (some ⟨bl, 0, none⟩) ((setNs ns n c s nows nown).length) c4) (by kernel_rfl) (by kernel_rfl) (pv_load_blk 0 rfl rfl (by kernel_rfl) rfl) ?_
      refine Qg.pure (d := 68) (op := .move (.tmp 5)) (g := some (4, true)) (v := .int .i64 (k : Int)) (by kernel_rfl) (by kernel_rfl) (pv_move rfl) ?_
      refine Qg.pure (d := 69) (op := .indexAddr 22 (.tmp 67) (.tmp 68)) (g := some (4, true)) (v := .pointer (some ⟨bl, 0 + k * 25, none⟩)) (by kernel_rfl) (by kernel_rfl) (pv_indexN rfl rfl (e := 44) (sz := 25) (k := k) (by kernel_rfl) (by omega)) ?_
      refine Qg.pure (d := 70) (op := .load 44 (.tmp 69)) (g := some (4, true)) (v := .agg ((nd (setNs ns n c s nows nown) k).cells (lc l6 k))) (by kernel_rfl) (by kernel_rfl) (pv_load_ownnode (ns := (setNs ns n c s nows nown)) (al := l6) 1 rfl rfl (by omega) (by kernel_rfl) (by kernel_rfl)) ?_
      refine Qg.pure (d := 71) (op := .fieldAddr 63 (.tmp 1) 0) (g := some (4, true)) (v := .pointer (some ⟨b1, 0 + 0, none⟩)) (by kernel_rfl) (by kernel_rfl) (pv_fieldAddr rfl (n := 0) (by kernel_rfl)) ?_
      refine Qg.pure (d := 72) (op := .fieldAddr 25 (.tmp 71) 0) (g := some (4, true)) (v := .pointer (some ⟨b1, 0 + 0 + 0, none⟩)) (by kernel_rfl) (by kernel_rfl) (pv_fieldAddr rfl (n := 0) (by kernel_rfl)) ?_
      refine Qg.pure (d := 73) (op := .load 22 (.tmp 72)) (g := some (4, true)) (v := .slice p ns.length cap) (by kernel_rfl) (by kernel_rfl) (pv_load_blk 3 rfl rfl (by kernel_rfl) rfl) ?_
      refine Qg.pure (d := 74) (op := .move (.tmp 5)) (g := some (4, true)) (v := .int .i64 (k : Int)) (by kernel_rfl) (by kernel_rfl) (pv_move rfl) ?_
      have ⟨q9, o10, hp11⟩ := hT.rows.adr (by omega)
      refine Qg.pure (d := 75) (op := .indexAddr 22 (.tmp 73) (.tmp 74)) (g := some (4, true)) (v := .pointer (some ⟨q9, o10 + ((k : Int)).toNat * 25, none⟩)) (by kernel_rfl) (by kernel_rfl) (pv_indexAddr' rfl hp11 rfl (e := 44) (sz := 25) (by kernel_rfl) (by omega) (by omega)) ?_
      refine Qg.pure (d := 76) (op := .load 44 (.tmp 75)) (g := some (4, true)) (v := .agg ((nd ns k).cells (lc al k))) (by kernel_rfl) (by kernel_rfl) (pv_load_node (i := ((k : Int)).toNat) (ns := ns) rfl hp11 (by omega) (by kernel_rfl) (by kernel_rfl) (fun w hw => ((hT).keep (hw.at_ 4 rfl) (fun k hk => hw.lt 4 rfl hk)))) ?_
      refine qg_call (d := some 77) (f := 25) (xs := #[.tmp 70, .tmp 76]) (ts := #[44, 44]) (g := some (4, true)) (v := .bool (sameNS (nd (setNs ns n c s nows nown) k) (nd ns k))) (by kernel_rfl) (by kernel_rfl) (by kernel_rfl) rfl (fun w hw => sameNS_calls ((own_tree hw 1 2 rfl rfl (fun _ h => by cases h)).node k (by omega)) (((hT.node k (by omega))).keep (hw.at_ 4 rfl) (fun k hk => hw.lt 4 rfl hk)) (hF.wf.node _)) ?_
      refine Qg.pure (d := 78) (op := .unOp .not 4 (.tmp 77)) (g := some (4, true)) (v := .bool (!(sameNS (nd (setNs ns n c s nows nown) k) (nd ns k)))) (by kernel_rfl) (by kernel_rfl) (pv_not (b := sameNS (nd (setNs ns n c s nows nown) k) (nd ns k)) rfl) ?_
      refine Qg.pure (d := 79) (op := .pick (.tmp 65) (.tmp 78) (.const (.bool false))) (g := none) (v := .bool (!(sameNS (nd (setNs ns n c s nows nown) k) (nd ns k)))) (by kernel_rfl) (by kernel_rfl) (pv_pick_t rfl rfl) ?_
      exact Qg.mid (.cons (and_of_t h15 rfl) (.cons (rfl) (.cons (rfl) (.cons (rfl) (.cons (rfl) (.cons (rfl) (.cons (rfl) (.cons (rfl) (.cons (rfl) (.cons (rfl) (.cons (rfl) (.cons (rfl) (.cons (rfl) (.cons ((congrArg (fun z => some (Value.bool z)) (Eq.symm h15))) (.nil _))))))))))))))) rfl
     ·
      refine Qg.skips 18 (by kernel_rfl) ?_
      refine Qg.pure (d := 79) (op := .pick (.tmp 65) (.tmp 78) (.const (.bool false))) (g := none) (v := .bool false) (by kernel_rfl) (by kernel_rfl) (pv_pick_f rfl rfl) ?_
      exact Qg.mid (.cons (and_of_f h15 rfl) (.cons (rfl) (.cons (rfl) (.cons (rfl) (.cons (rfl) (.cons (rfl) (.cons (rfl) (.cons (rfl) (.cons (rfl) (.cons (rfl) (.cons (rfl) (.cons (rfl) (.cons (rfl) (.cons ((congrArg (fun z => some (Value.bool z)) (Eq.symm h15))) (.nil _))))))))))))))) rfl
     exact Qg.mid (.cons rfl (.cons rfl (.cons rfl (.cons rfl (.cons rfl (.cons rfl (.cons rfl (.cons rfl (.cons rfl (.cons rfl (.cons rfl (.cons rfl (.cons rfl (.cons rfl (.nil _))))))))))))))) rfl
    refine At.nx (fun _ _ h => h) [79,65,64,63,62,61,58,57,56,55,54,5,3,1] rfl ?_
    have hc79_ : ((!(decide ((k : Int) = n))) && (!(sameNS (nd (setNs ns n c s nows nown) k) (nd ns k)))) = false := (gk_other hF (by omega))
    refine ev_cond_f (t := 79) (by kernel_rfl) (congrArg (fun b => some (Value.bool b)) hc79_) ?_
    refine Ev.sk ?_
    refine At.nx (fun _ _ h => h) [79,65,64,63,62,61,58,57,56,55,54,5,3,1] rfl ?_
    refine Ev.rg 3 ?_
    refine Rg.mv 59 5 rfl ?_
    refine Rg.p 60 (.binOp .add 3 (.tmp 59) (.const (.int .i64 1)) 3) (pv_addb rfl rfl (in_i64 (by omega) (by omega))) ?_
    refine Rg.as 5 60 rfl ?_
    refine Rg.fin rfl ?_
    refine At.round (fun _ _ h => h) (k + 1) [0, 1, 2, 3, 4] (by omega) (by show ns.length - (k + 1) < ns.length - k; omega) (.cons (rfl) (.cons (rfl) (.cons (rfl) (.nil _)))) rfl (by decide)
   ·
    have h17 := of_decide_eq_false h13
    refine Ev.xt 0 ?_
    refine At.nx (fun _ _ h => h) [3,1] rfl ?_
    refine Ev.sr 8 ?_
    refine Rg.fa 80 63 1 0 0 rfl ?_
    refine Rg.p 81 (.load 25 (.tmp 80)) (v := .agg #[.slice p ns.length cap, .int .u32 gen]) (pv_load_blk_agg 3 rfl rfl (vs := #[.slice p ns.length cap, .int .u32 gen]) (by kernel_rfl) (by kernel_rfl) (agg_rfl (by kernel_rfl))) ?_
    refine Rg.p 82 (.load 25 (.tmp 3)) (v := .agg #[.slice (some ⟨bl, 0, none⟩) ((setNs ns n c s nows nown).length) c4, .int .u32 (setG ns n c s nows nown gen)]) (pv_load_blk_whole 0 rfl rfl (by kernel_rfl) (by kernel_rfl)) ?_
    refine Rg.fa 83 63 1 1 2 rfl ?_
    refine Rg.ld 84 3 83 3 rfl rfl rfl ?_
    refine Rg.cl (some 85) 26 #[.tmp 81, .tmp 82, .tmp 84] #[25, 25, 3] (v := .agg #[.bool (thereS ns n), .int .u64 (attrSize ns n), .int .u32 (attrWs ns n), .int .u32 (attrWn ns n), .int .u32 (attrTs ns n), .int .u32 (attrTn ns n), .bool (thereS (setNs ns n c s nows nown) n), .int .u32 (attrKind (setNs ns n c s nows nown) n), .int .u32 (attrMode (setNs ns n c s nows nown) n), .int .u32 (attrLinks (setNs ns n c s nows nown) n), .int .u32 (attrUser (setNs ns n c s nows nown) n), .int .u32 (attrGroup (setNs ns n c s nows nown) n), .int .u64 (attrSize (setNs ns n c s nows nown) n), .int .u64 (attrUsed (setNs ns n c s nows nown) n), .int .u64 (attrID (setNs ns n c s nows nown) n), .int .u32 (attrRs (setNs ns n c s nows nown) n), .int .u32 (attrRn (setNs ns n c s nows nown) n), .int .u32 (attrWs (setNs ns n c s nows nown) n), .int .u32 (attrWn (setNs ns n c s nows nown) n), .int .u32 (attrTs (setNs ns n c s nows nown) n), .int .u32 (attrTn (setNs ns n c s nows nown) n)]) rfl (fun w hw => Weak_calls (n := n) ((hT).keep (hw.at_ 4 rfl) (fun k hk => hw.lt 4 rfl hk)) hW (own_tree hw 1 2 rfl rfl (fun _ h => by cases h)) hF.wf) ?_
    refine Rg.al 6 69 (.agg #[.bool false, .int .u64 0, .int .u32 0, .int .u32 0, .int .u32 0, .int .u32 0, .bool false, .int .u32 0, .int .u32 0, .int .u32 0, .int .u32 0, .int .u32 0, .int .u64 0, .int .u64 0, .int .u64 0, .int .u32 0, .int .u32 0, .int .u32 0, .int .u32 0, .int .u32 0, .int .u32 0]) fun b12 => ?_
    refine Rg.st 69 6 (.tmp 85) 0 #[.bool (thereS ns n), .int .u64 (attrSize ns n), .int .u32 (attrWs ns n), .int .u32 (attrWn ns n), .int .u32 (attrTs ns n), .int .u32 (attrTn ns n), .bool (thereS (setNs ns n c s nows nown) n), .int .u32 (attrKind (setNs ns n c s nows nown) n), .int .u32 (attrMode (setNs ns n c s nows nown) n), .int .u32 (attrLinks (setNs ns n c s nows nown) n), .int .u32 (attrUser (setNs ns n c s nows nown) n), .int .u32 (attrGroup (setNs ns n c s nows nown) n), .int .u64 (attrSize (setNs ns n c s nows nown) n), .int .u64 (attrUsed (setNs ns n c s nows nown) n), .int .u64 (attrID (setNs ns n c s nows nown) n), .int .u32 (attrRs (setNs ns n c s nows nown) n), .int .u32 (attrRn (setNs ns n c s nows nown) n), .int .u32 (attrWs (setNs ns n c s nows nown) n), .int .u32 (attrWn (setNs ns n c s nows nown) n), .int .u32 (attrTs (setNs ns n c s nows nown) n), .int .u32 (attrTn (setNs ns n c s nows nown) n)] rfl rfl rfl ?_
    refine Rg.nx (fun _ _ h => h) [6,3,1] rfl ?_
    refine Ev.sr 10 ?_
    refine Rg.p 87 (.load 25 (.tmp 3)) (v := .agg #[.slice (some ⟨bl, 0, none⟩) ((setNs ns n c s nows nown).length) c4, .int .u32 (setG ns n c s nows nown gen)]) (pv_load_blk_whole 1 rfl rfl (by kernel_rfl) (by kernel_rfl)) ?_
    refine Rg.fa 88 63 1 1 2 rfl ?_
    refine Rg.ld 89 3 88 4 rfl rfl rfl ?_
    refine Rg.cl (some 90) 18 #[.tmp 87, .tmp 89] #[25, 3] (v := .tuple #[.agg #[.int .u32 (attrKind (setNs ns n c s nows nown) n), .int .u32 (attrMode (setNs ns n c s nows nown) n), .int .u32 (attrLinks (setNs ns n c s nows nown) n), .int .u32 (attrUser (setNs ns n c s nows nown) n), .int .u32 (attrGroup (setNs ns n c s nows nown) n), .int .u64 (attrSize (setNs ns n c s nows nown) n), .int .u64 (attrUsed (setNs ns n c s nows nown) n), .int .u64 (attrID (setNs ns n c s nows nown) n), .int .u32 (attrRs (setNs ns n c s nows nown) n), .int .u32 (attrRn (setNs ns n c s nows nown) n), .int .u32 (attrWs (setNs ns n c s nows nown) n), .int .u32 (attrWn (setNs ns n c s nows nown) n), .int .u32 (attrTs (setNs ns n c s nows nown) n), .int .u32 (attrTn (setNs ns n c s nows nown) n)], .bool (thereS (setNs ns n c s nows nown) n)]) rfl (fun w hw => Attrs_calls2 (own_tree hw 2 3 rfl rfl (fun _ h => by cases h)) hF.wf) ?_
    refine Rg.mv 86 90 rfl ?_
    refine Rg.ex 91 86 0 rfl rfl ?_
    refine Rg.ex 92 86 1 rfl rfl ?_
    refine Rg.al 7 38 (.agg #[.int .u32 0, .int .u32 0, .int .u32 0, .int .u32 0, .int .u32 0, .int .u64 0, .int .u64 0, .int .u64 0, .int .u32 0, .int .u32 0, .int .u32 0, .int .u32 0, .int .u32 0, .int .u32 0]) fun b13 => ?_
    refine Rg.st 38 7 (.tmp 91) 0 #[.int .u32 (attrKind (setNs ns n c s nows nown) n), .int .u32 (attrMode (setNs ns n c s nows nown) n), .int .u32 (attrLinks (setNs ns n c s nows nown) n), .int .u32 (attrUser (setNs ns n c s nows nown) n), .int .u32 (attrGroup (setNs ns n c s nows nown) n), .int .u64 (attrSize (setNs ns n c s nows nown) n), .int .u64 (attrUsed (setNs ns n c s nows nown) n), .int .u64 (attrID (setNs ns n c s nows nown) n), .int .u32 (attrRs (setNs ns n c s nows nown) n), .int .u32 (attrRn (setNs ns n c s nows nown) n), .int .u32 (attrWs (setNs ns n c s nows nown) n), .int .u32 (attrWn (setNs ns n c s nows nown) n), .int .u32 (attrTs (setNs ns n c s nows nown) n), .int .u32 (attrTn (setNs ns n c s nows nown) n)] rfl rfl rfl ?_
    refine Rg.as 8 92 rfl ?_
    refine Rg.nx (fun _ _ h => h) [8,7,6] rfl ?_
    refine Ev.sr 19 ?_
    refine Rg.mv 93 8 rfl ?_
    refine Rg.mv 94 93 rfl ?_
    refine Rg.ga 5 97 94 (thereS ns n) rfl (fun h18 => ?_) (fun h18 => ?_) ?_
    ·
     have ⟨h19, h20, h21⟩ := thereS_t h18
     refine Rg.pg 1 true 95 (.fieldAddr 69 (.tmp 6) 0) (pv_fieldAddr rfl (n := 0) (by kernel_rfl)) ?_
     refine Rg.pg 1 true 96 (.load 4 (.tmp 95)) (v := .bool (thereS ns n)) (pv_load_blk 1 rfl rfl (by kernel_rfl) rfl) ?_
     refine Rg.p 97 (.pick (.tmp 94) (.tmp 96) (.const (.bool false))) (pv_pick_t rfl rfl) ?_
     exact Rg.em 94 h18 (at_t h18) rfl rfl
    ·
     refine Rg.skips 4 (by kernel_rfl) ?_
     refine Rg.p 97 (.pick (.tmp 94) (.tmp 96) (.const (.bool false))) (pv_pick_f rfl rfl) ?_
     exact Rg.em 94 h18 (at_f h18) rfl rfl
    refine Rg.mv 98 97 rfl ?_
    refine Rg.ga 9 101 98 (thereS (setNs ns n c s nows nown) n) rfl (fun h22 => ?_) (fun h22 => ?_) ?_
    ·
     have ⟨h23, h24⟩ := and_t h22
     have ⟨h25, h26, h27⟩ := thereS_t h23
     refine Rg.pg 5 true 99 (.fieldAddr 69 (.tmp 6) 4) (pv_fieldAddr rfl (n := 6) (by kernel_rfl)) ?_
     refine Rg.pg 5 true 100 (.load 4 (.tmp 99)) (v := .bool (thereS (setNs ns n c s nows nown) n)) (pv_load_blk 1 rfl rfl (by kernel_rfl) rfl) ?_
     refine Rg.p 101 (.pick (.tmp 98) (.tmp 100) (.const (.bool false))) (pv_pick_t rfl rfl) ?_
     exact Rg.em 98 h22 (at_t h22) rfl rfl
    ·
     refine Rg.skips 8 (by kernel_rfl) ?_
     refine Rg.p 101 (.pick (.tmp 98) (.tmp 100) (.const (.bool false))) (pv_pick_f rfl rfl) ?_
     exact Rg.em 98 h22 (at_f h22) rfl rfl
    refine Rg.mv 102 101 rfl ?_
    refine Rg.ga 15 107 102 (decide ((attrKind (setNs ns n c s nows nown) n) = (attrKind (setNs ns n c s nows nown) n)) && (decide ((attrMode (setNs ns n c s nows nown) n) = (attrMode (setNs ns n c s nows nown) n)) && (decide ((attrLinks (setNs ns n c s nows nown) n) = (attrLinks (setNs ns n c s nows nown) n)) && (decide ((attrUser (setNs ns n c s nows nown) n) = (attrUser (setNs ns n c s nows nown) n)) && (decide ((attrGroup (setNs ns n c s nows nown) n) = (attrGroup (setNs ns n c s nows nown) n)) && (decide ((attrSize (setNs ns n c s nows nown) n) = (attrSize (setNs ns n c s nows nown) n)) && (decide ((attrUsed (setNs ns n c s nows nown) n) = (attrUsed (setNs ns n c s nows nown) n)) && (decide ((attrID (setNs ns n c s nows nown) n) = (attrID (setNs ns n c s nows nown) n)) && ((decide ((attrRs (setNs ns n c s nows nown) n) = (attrRs (setNs ns n c s nows nown) n)) && (decide ((attrRn (setNs ns n c s nows nown) n) = (attrRn (setNs ns n c s nows nown) n)) && true)) && ((decide ((attrWs (setNs ns n c s nows nown) n) = (attrWs (setNs ns n c s nows nown) n)) && (decide ((attrWn (setNs ns n c s nows nown) n) = (attrWn (setNs ns n c s nows nown) n)) && true)) && ((decide ((attrTs (setNs ns n c s nows nown) n) = (attrTs (setNs ns n c s nows nown) n)) && (decide ((attrTn (setNs ns n c s nows nown) n) = (attrTn (setNs ns n c s nows nown) n)) && true)) && true))))))))))) rfl (fun h28 => ?_) (fun h28 => ?_) ?_
    ·
     have ⟨h29, h30⟩ := and_t h28
     have ⟨h31, h32⟩ := and_t h29
     have ⟨h33, h34, h35⟩ := thereS_t h31
     refine Rg.pg 9 true 103 (.fieldAddr 69 (.tmp 6) 5) (pv_fieldAddr rfl (n := 7) (by kernel_rfl)) ?_
     refine Rg.pg 9 true 104 (.load 38 (.tmp 103)) (v := .agg #[.int .u32 (attrKind (setNs ns n c s nows nown) n), .int .u32 (attrMode (setNs ns n c s nows nown) n), .int .u32 (attrLinks (setNs ns n c s nows nown) n), .int .u32 (attrUser (setNs ns n c s nows nown) n), .int .u32 (attrGroup (setNs ns n c s nows nown) n), .int .u64 (attrSize (setNs ns n c s nows nown) n), .int .u64 (attrUsed (setNs ns n c s nows nown) n), .int .u64 (attrID (setNs ns n c s nows nown) n), .int .u32 (attrRs (setNs ns n c s nows nown) n), .int .u32 (attrRn (setNs ns n c s nows nown) n), .int .u32 (attrWs (setNs ns n c s nows nown) n), .int .u32 (attrWn (setNs ns n c s nows nown) n), .int .u32 (attrTs (setNs ns n c s nows nown) n), .int .u32 (attrTn (setNs ns n c s nows nown) n)]) (pv_load_blk_agg 1 rfl rfl (vs := #[.int .u32 (attrKind (setNs ns n c s nows nown) n), .int .u32 (attrMode (setNs ns n c s nows nown) n), .int .u32 (attrLinks (setNs ns n c s nows nown) n), .int .u32 (attrUser (setNs ns n c s nows nown) n), .int .u32 (attrGroup (setNs ns n c s nows nown) n), .int .u64 (attrSize (setNs ns n c s nows nown) n), .int .u64 (attrUsed (setNs ns n c s nows nown) n), .int .u64 (attrID (setNs ns n c s nows nown) n), .int .u32 (attrRs (setNs ns n c s nows nown) n), .int .u32 (attrRn (setNs ns n c s nows nown) n), .int .u32 (attrWs (setNs ns n c s nows nown) n), .int .u32 (attrWn (setNs ns n c s nows nown) n), .int .u32 (attrTs (setNs ns n c s nows nown) n), .int .u32 (attrTn (setNs ns n c s nows nown) n)]) (by kernel_rfl) (by kernel_rfl) (agg_rfl (by kernel_rfl))) ?_
     refine Rg.pg 9 true 105 (.load 38 (.tmp 7)) (v := .agg #[.int .u32 (attrKind (setNs ns n c s nows nown) n), .int .u32 (attrMode (setNs ns n c s nows nown) n), .int .u32 (attrLinks (setNs ns n c s nows nown) n), .int .u32 (attrUser (setNs ns n c s nows nown) n), .int .u32 (attrGroup (setNs ns n c s nows nown) n), .int .u64 (attrSize (setNs ns n c s nows nown) n), .int .u64 (attrUsed (setNs ns n c s nows nown) n), .int .u64 (attrID (setNs ns n c s nows nown) n), .int .u32 (attrRs (setNs ns n c s nows nown) n), .int .u32 (attrRn (setNs ns n c s nows nown) n), .int .u32 (attrWs (setNs ns n c s nows nown) n), .int .u32 (attrWn (setNs ns n c s nows nown) n), .int .u32 (attrTs (setNs ns n c s nows nown) n), .int .u32 (attrTn (setNs ns n c s nows nown) n)]) (pv_load_blk_whole 0 rfl rfl (by kernel_rfl) (by kernel_rfl)) ?_
     refine Rg.pg 9 true 106 (.binOp .eql 38 (.tmp 104) (.tmp 105) 38) (v := .bool (decide ((attrKind (setNs ns n c s nows nown) n) = (attrKind (setNs ns n c s nows nown) n)) && (decide ((attrMode (setNs ns n c s nows nown) n) = (attrMode (setNs ns n c s nows nown) n)) && (decide ((attrLinks (setNs ns n c s nows nown) n) = (attrLinks (setNs ns n c s nows nown) n)) && (decide ((attrUser (setNs ns n c s nows nown) n) = (attrUser (setNs ns n c s nows nown) n)) && (decide ((attrGroup (setNs ns n c s nows nown) n) = (attrGroup (setNs ns n c s nows nown) n)) && (decide ((attrSize (setNs ns n c s nows nown) n) = (attrSize (setNs ns n c s nows nown) n)) && (decide ((attrUsed (setNs ns n c s nows nown) n) = (attrUsed (setNs ns n c s nows nown) n)) && (decide ((attrID (setNs ns n c s nows nown) n) = (attrID (setNs ns n c s nows nown) n)) && ((decide ((attrRs (setNs ns n c s nows nown) n) = (attrRs (setNs ns n c s nows nown) n)) && (decide ((attrRn (setNs ns n c s nows nown) n) = (attrRn (setNs ns n c s nows nown) n)) && true)) && ((decide ((attrWs (setNs ns n c s nows nown) n) = (attrWs (setNs ns n c s nows nown) n)) && (decide ((attrWn (setNs ns n c s nows nown) n) = (attrWn (setNs ns n c s nows nown) n)) && true)) && ((decide ((attrTs (setNs ns n c s nows nown) n) = (attrTs (setNs ns n c s nows nown) n)) && (decide ((attrTn (setNs ns n c s nows nown) n) = (attrTn (setNs ns n c s nows nown) n)) && true)) && true)))))))))))) (pv_eql_V (b := (decide ((attrKind (setNs ns n c s nows nown) n) = (attrKind (setNs ns n c s nows nown) n)) && (decide ((attrMode (setNs ns n c s nows nown) n) = (attrMode (setNs ns n c s nows nown) n)) && (decide ((attrLinks (setNs ns n c s nows nown) n) = (attrLinks (setNs ns n c s nows nown) n)) && (decide ((attrUser (setNs ns n c s nows nown) n) = (attrUser (setNs ns n c s nows nown) n)) && (decide ((attrGroup (setNs ns n c s nows nown) n) = (attrGroup (setNs ns n c s nows nown) n)) && (decide ((attrSize (setNs ns n c s nows nown) n) = (attrSize (setNs ns n c s nows nown) n)) && (decide ((attrUsed (setNs ns n c s nows nown) n) = (attrUsed (setNs ns n c s nows nown) n)) && (decide ((attrID (setNs ns n c s nows nown) n) = (attrID (setNs ns n c s nows nown) n)) && ((decide ((attrRs (setNs ns n c s nows nown) n) = (attrRs (setNs ns n c s nows nown) n)) && (decide ((attrRn (setNs ns n c s nows nown) n) = (attrRn (setNs ns n c s nows nown) n)) && true)) && ((decide ((attrWs (setNs ns n c s nows nown) n) = (attrWs (setNs ns n c s nows nown) n)) && (decide ((attrWn (setNs ns n c s nows nown) n) = (attrWn (setNs ns n c s nows nown) n)) && true)) && ((decide ((attrTs (setNs ns n c s nows nown) n) = (attrTs (setNs ns n c s nows nown) n)) && (decide ((attrTn (setNs ns n c s nows nown) n) = (attrTn (setNs ns n c s nows nown) n)) && true)) && true)))))))))))) rfl rfl (by kernel_rfl) (by kernel_rfl)) ?_
     refine Rg.p 107 (.pick (.tmp 102) (.tmp 106) (.const (.bool false))) (pv_pick_t rfl rfl) ?_
     exact Rg.em 102 h28 (at_t h28) rfl rfl
    ·
     refine Rg.skips 14 (by kernel_rfl) ?_
     refine Rg.p 107 (.pick (.tmp 102) (.tmp 106) (.const (.bool false))) (pv_pick_f rfl rfl) ?_
     exact Rg.em 102 h28 (at_f h28) rfl rfl
    refine Rg.mv 108 107 rfl ?_
    refine Rg.ga 18 110 108 true rfl (fun h36 => ?_) (fun h36 => ?_) ?_
    ·
     have ⟨h37, h38⟩ := and_t h36
     have ⟨h39, h40⟩ := and_t h37
     have ⟨h41, h42⟩ := and_t h39
     have ⟨h43, h44, h45⟩ := thereS_t h41
     refine rg_call (d := some 109) (f := 23) (xs := #[]) (ts := #[]) (g := some (15, true)) (v := .bool true) (by kernel_rfl) (by kernel_rfl) (by kernel_rfl) rfl (fun w hw => lives16_calls) ?_
     refine Rg.p 110 (.pick (.tmp 108) (.tmp 109) (.const (.bool false))) (pv_pick_t rfl rfl) ?_
     exact Rg.em 108 h36 (at_t h36) rfl rfl
    ·
     refine Rg.skips 17 (by kernel_rfl) ?_
     refine Rg.p 110 (.pick (.tmp 108) (.tmp 109) (.const (.bool false))) (pv_pick_f rfl rfl) ?_
     exact Rg.em 108 h36 (at_f h36) rfl rfl
    refine Rg.as 2 110 rfl ?_
    refine Rg.nx (fun _ _ h => h) [2] rfl ?_
    refine Ev.rt ?_
    refine At.via (Q := Q) hQ ?_
    refine At.ret1 rfl rfl rfl ?_
    exact fun w hw => ⟨(by rw [hF.there, hF.there2]; simp), hw.base_below 6 rfl⟩

end Go.Proofs.Ytfhhggcdmgjbcaa.Sx
