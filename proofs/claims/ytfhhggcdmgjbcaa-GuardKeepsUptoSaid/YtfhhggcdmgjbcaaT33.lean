/-
  A part of the walk of the seat: laws of a small proof system, and contracts of functions, each proved. Conditions: as each theorem says.
-/
import Derived.Test.YtfhhggcdmgjbcaaProg
import Derived.Test.YtfhhggcdmgjbcaaWalkC
namespace Go.Proofs.Ytfhhggcdmgjbcaa.Sx
open Go Go.RowKit Go.Proofs

theorem withN_wf {mode user group : Int} {s : ByteArray} (hm : U32 mode) (hu : U32 user) (hg : U32 group) (hs : s.size ≤ 16777216) : NodesWf (withN mode user group s) := by
  have hr := rootN_wf (s := 5) (n := 0) (mode := 493) (by simp [U32]) (by simp [U32]) (by simp [U32])
  have hz : NodeWf Node.zero := hr.node 0
  have h1 : NodeWf (root 5 0 493) := hr.node 1
  refine ⟨by show 3 ≤ 16777216; omega, fun i => ?_⟩
  rcases i with _ | _ | _ | i
  · exact hz
  · have he : ∀ i, EntryWf (en withD.list i) := by
      intro i
      rcases i with _ | i
      · exact ⟨by decide, by decide, by decide, by decide, by decide⟩
      · have : en withD.list (i + 1) = Entry.zero := by simp [en, withD]
        rw [this]; exact ⟨by decide, by decide, by decide, by decide, by decide⟩
    exact { h1 with list := (by show 1 ≤ 16777216; omega), next0 := (by show (0 : Int) ≤ 4; decide), next1 := (by show (4 : Int) ≤ _; decide), entry := he }
  · refine { hz with kind0 := (by show (0 : Int) ≤ 1; decide), kind1 := (by show (1 : Int) ≤ _; decide), gen0 := (by show (0 : Int) ≤ 1; decide), gen1 := (by show (1 : Int) ≤ _; decide), links0 := (by show _ ≤ (1 : Int); decide), links1 := (by show (1 : Int) ≤ _; decide), data := (by show (bytesS s).length ≤ _; rw [bytesS_length]; exact hs), u := ⟨hm, hu, hg, hz.u.2.2.2⟩, bytes := fun x hx => ?_ }
    have hx' : x ∈ bytesS s := hx
    unfold bytesS at hx'
    obtain ⟨b, _, rfl⟩ := List.mem_map.1 hx'
    exact ⟨by omega, by have := b.toNat_lt; omega⟩
  · have : nd (withN mode user group s) (i + 3) = Node.zero := by simp [nd, withN]
    rw [this]; exact hz
theorem nil_nums {F : Nat → Prop} {w : World} : NumsAt F w none [] := ⟨fun h => by simp at h, fun _ _ h => by simp at h, fun _ _ _ i h => by simp at h⟩
def lvT : List Node := withN 420 5 6 ⟨#[97, 98, 99]⟩
def lvF : Node := withF 420 5 6 ⟨#[97, 98, 99]⟩
def lvA : List Node := [Node.zero, withD, { lvF with mode := 384, ts := 9, tn := 0 }]
def lvB : List Node := [Node.zero, withD, { lvF with data := [97, 98, 99, 0, 0], ws := 9, wn := 0, ts := 9, tn := 0 }]
def sMode : SetD := ⟨true, 384, false, 0, false, 0, false, 0, 0, 0, 0, 0, 0, 0⟩
def sSize (n : Int) : SetD := ⟨false, 0, false, 0, false, 0, true, n, 0, 0, 0, 0, 0, 0⟩
theorem lvE1 : setE lvT 2 ⟨5, 0, []⟩ sMode 9 0 = 0 := by kernel_rfl
theorem lvE2 : setE lvT 2 ⟨7, 0, []⟩ sMode 9 0 = 1 := by kernel_rfl
theorem lvE3 : setE lvT 1 ⟨0, 0, []⟩ (sSize 0) 9 0 = 21 := by kernel_rfl
theorem lvE4 : setE lvT 2 ⟨5, 0, []⟩ (sSize 5) 9 0 = 0 := by kernel_rfl
theorem lvN1 : setNs lvT 2 ⟨5, 0, []⟩ sMode 9 0 = lvA := by kernel_rfl
theorem lvN4 : setNs lvT 2 ⟨5, 0, []⟩ (sSize 5) 9 0 = lvB := by kernel_rfl

theorem lvSet1_calls {p : Option Addr} {cap : Nat} {l : List Loc} {w : World} (hT : NodesAt (Low w) w p lvT l) :
  Calls Try.prog 24 #[.agg #[.slice p 3 cap, .int .u32 2], .int .i64 2, .agg #[.int .u32 5, .int .u32 0, .slice none 0 0], .agg #[.bool true, .int .u32 384, .bool false, .int .u32 0, .bool false, .int .u32 0, .bool false, .int .u64 0, .int .u32 0, .int .u32 0, .int .u32 0, .int .u32 0, .int .u32 0, .int .u32 0], .agg #[.int .u32 9, .int .u32 0, .int .u8 0, .int .u8 0, .int .u8 0, .int .u8 0, .int .u8 0, .int .u8 0, .int .u8 0, .int .u8 0]] w
    (RetN w (fun _ : TL => True) (fun x => .tuple #[.agg #[.slice x.p 3 x.c, .int .u32 2], .int .u32 0]) (fun x => [own 44 25 x.p 3 x.d (flat lvA x.l), dataI none x.G lvA x.l])) := by
  have h := Set_calls (cap := cap) (gen := 2) (n := 2) (s := sMode) (nows := 9) (nown := 0) (bt0 := 0) (bt1 := 0) (bt2 := 0) (bt3 := 0) (bt4 := 0) (bt5 := 0) (bt6 := 0) (bt7 := 0) (c := ⟨5, 0, []⟩) (cg := 0) hT (withN_wf (by simp [U32]) (by simp [U32]) (by simp [U32]) (by decide)) nil_nums (by simp) (by decide)
  rw [lvE1, lvN1, (setE_ok (gen := 2) lvE1).2] at h
  exact h

theorem lvSet2_calls {p : Option Addr} {cap : Nat} {l : List Loc} {w : World} (hT : NodesAt (Low w) w p lvT l) :
  Calls Try.prog 24 #[.agg #[.slice p 3 cap, .int .u32 2], .int .i64 2, .agg #[.int .u32 7, .int .u32 0, .slice none 0 0], .agg #[.bool true, .int .u32 384, .bool false, .int .u32 0, .bool false, .int .u32 0, .bool false, .int .u64 0, .int .u32 0, .int .u32 0, .int .u32 0, .int .u32 0, .int .u32 0, .int .u32 0], .agg #[.int .u32 9, .int .u32 0, .int .u8 0, .int .u8 0, .int .u8 0, .int .u8 0, .int .u8 0, .int .u8 0, .int .u8 0, .int .u8 0]] w
    (RetN w (fun _ : TL => True) (fun x => .tuple #[.agg #[.slice x.p 0 x.c, .int .u32 0], .int .u32 1]) (fun x => [own 44 25 x.p 0 x.d (flat [] x.l), dataI none x.G [] x.l])) := by
  have h := Set_calls (cap := cap) (gen := 2) (n := 2) (s := sMode) (nows := 9) (nown := 0) (bt0 := 0) (bt1 := 0) (bt2 := 0) (bt3 := 0) (bt4 := 0) (bt5 := 0) (bt6 := 0) (bt7 := 0) (c := ⟨7, 0, []⟩) (cg := 0) hT (withN_wf (by simp [U32]) (by simp [U32]) (by simp [U32]) (by decide)) nil_nums (by simp) (by decide)
  rw [lvE2, (setE_bad (gen := 2) lvE2 (by decide)).1, (setE_bad (gen := 2) lvE2 (by decide)).2] at h
  exact h

theorem lvSet3_calls {p : Option Addr} {cap : Nat} {l : List Loc} {w : World} (hT : NodesAt (Low w) w p lvT l) :
  Calls Try.prog 24 #[.agg #[.slice p 3 cap, .int .u32 2], .int .i64 1, .agg #[.int .u32 0, .int .u32 0, .slice none 0 0], .agg #[.bool false, .int .u32 0, .bool false, .int .u32 0, .bool false, .int .u32 0, .bool true, .int .u64 0, .int .u32 0, .int .u32 0, .int .u32 0, .int .u32 0, .int .u32 0, .int .u32 0], .agg #[.int .u32 9, .int .u32 0, .int .u8 0, .int .u8 0, .int .u8 0, .int .u8 0, .int .u8 0, .int .u8 0, .int .u8 0, .int .u8 0]] w
    (RetN w (fun _ : TL => True) (fun x => .tuple #[.agg #[.slice x.p 0 x.c, .int .u32 0], .int .u32 21]) (fun x => [own 44 25 x.p 0 x.d (flat [] x.l), dataI none x.G [] x.l])) := by
  have h := Set_calls (cap := cap) (gen := 2) (n := 1) (s := (sSize 0)) (nows := 9) (nown := 0) (bt0 := 0) (bt1 := 0) (bt2 := 0) (bt3 := 0) (bt4 := 0) (bt5 := 0) (bt6 := 0) (bt7 := 0) (c := ⟨0, 0, []⟩) (cg := 0) hT (withN_wf (by simp [U32]) (by simp [U32]) (by simp [U32]) (by decide)) nil_nums (by simp) (by decide)
  rw [lvE3, (setE_bad (gen := 2) lvE3 (by decide)).1, (setE_bad (gen := 2) lvE3 (by decide)).2] at h
  exact h

theorem lvSet4_calls {p : Option Addr} {cap : Nat} {l : List Loc} {w : World} (hT : NodesAt (Low w) w p lvT l) :
  Calls Try.prog 24 #[.agg #[.slice p 3 cap, .int .u32 2], .int .i64 2, .agg #[.int .u32 5, .int .u32 0, .slice none 0 0], .agg #[.bool false, .int .u32 0, .bool false, .int .u32 0, .bool false, .int .u32 0, .bool true, .int .u64 5, .int .u32 0, .int .u32 0, .int .u32 0, .int .u32 0, .int .u32 0, .int .u32 0], .agg #[.int .u32 9, .int .u32 0, .int .u8 0, .int .u8 0, .int .u8 0, .int .u8 0, .int .u8 0, .int .u8 0, .int .u8 0, .int .u8 0]] w
    (RetN w (fun _ : TL => True) (fun x => .tuple #[.agg #[.slice x.p 3 x.c, .int .u32 2], .int .u32 0]) (fun x => [own 44 25 x.p 3 x.d (flat lvB x.l), dataI none x.G lvB x.l])) := by
  have h := Set_calls (cap := cap) (gen := 2) (n := 2) (s := (sSize 5)) (nows := 9) (nown := 0) (bt0 := 0) (bt1 := 0) (bt2 := 0) (bt3 := 0) (bt4 := 0) (bt5 := 0) (bt6 := 0) (bt7 := 0) (c := ⟨5, 0, []⟩) (cg := 0) hT (withN_wf (by simp [U32]) (by simp [U32]) (by simp [U32]) (by decide)) nil_nums (by simp) (by decide)
  rw [lvE4, lvN4, (setE_ok (gen := 2) lvE4).2] at h
  exact h

set_option maxHeartbeats 8000000 in
theorem lives16_calls {w : World} :
  Calls Try.prog 23 #[] w (Ret w (.bool true)) := by
 refine calls_ofQ (args := []) [base w (Low w)] Try.func23 (by kernel_rfl) (by kernel_rfl) (Heap.start w) ?_
 intro Q hQ
 have hlA_ : lvA.length = 3 := rfl
 have hlB_ : lvB.length = 3 := rfl
 refine Ev.sr 1 ?_
 refine Rg.ac 0 (.bool false) ?_
 refine Rg.nx (fun _ _ h => h) [0] rfl ?_
 refine Ev.sr 3 ?_
 refine Rg.cn (T := TL) (some 11) 37 #[.const (.int .u32 420), .const (.int .u32 5), .const (.int .u32 6), .const (.string ⟨#[97, 98, 99]⟩)] #[23, 23, 23, 9] (v := fun ⟨p1, c2, c3, l4, G5⟩ => .agg #[.slice p1 3 c2, .int .u32 2]) (L := fun ⟨p1, c2, c3, l4, G5⟩ => [own 44 25 p1 3 c3 (flat lvT l4), dataI none G5 lvT l4]) rfl (fun w hw => With_calls (mode := 420) (user := 5) (group := 6) (s := ⟨#[97, 98, 99]⟩)) ?_
 rintro ⟨p1, c2, c3, l4, G5⟩ _
 dsimp only [putE, List.append, HAppend.hAppend, Append.append]
 refine Rg.al 1 25 (.agg #[.slice none 0 0, .int .u32 0]) fun b7 => ?_
 refine Rg.st 25 1 (.tmp 11) 0 #[.slice p1 3 c2, .int .u32 2] rfl rfl rfl ?_
 refine Rg.nx (fun _ _ h => h) [1,0] rfl ?_
 refine Ev.sr 4 ?_
 refine Rg.p 12 (.build 36 #[(0, .const (.int .u32 9))]) (v := .agg #[.int .u32 9, .int .u32 0]) (pv_build (parts := [(0, .const (.int .u32 9))]) (vs := [.int .u32 9]) (fs := [(0, 1), (1, 1)]) (zv := .agg #[.int .u32 0, .int .u32 0]) (cs := #[.int .u32 9, .int .u32 0]) rfl (by kernel_rfl) (by kernel_rfl) (by kernel_rfl)) ?_
 refine Rg.p 13 (.build 61 #[(0, .tmp 12)]) (v := .agg #[.int .u32 9, .int .u32 0, .int .u8 0, .int .u8 0, .int .u8 0, .int .u8 0, .int .u8 0, .int .u8 0, .int .u8 0, .int .u8 0]) (pv_build (parts := [(0, .tmp 12)]) (vs := [.agg #[.int .u32 9, .int .u32 0]]) (fs := [(0, 2), (2, 8)]) (zv := .agg #[.int .u32 0, .int .u32 0, .int .u8 0, .int .u8 0, .int .u8 0, .int .u8 0, .int .u8 0, .int .u8 0, .int .u8 0, .int .u8 0]) (cs := #[.int .u32 9, .int .u32 0, .int .u8 0, .int .u8 0, .int .u8 0, .int .u8 0, .int .u8 0, .int .u8 0, .int .u8 0, .int .u8 0]) rfl (by kernel_rfl) (by kernel_rfl) (by kernel_rfl)) ?_
 refine Rg.al 2 61 (.agg #[.int .u32 0, .int .u32 0, .int .u8 0, .int .u8 0, .int .u8 0, .int .u8 0, .int .u8 0, .int .u8 0, .int .u8 0, .int .u8 0]) fun b8 => ?_
 refine Rg.st 61 2 (.tmp 13) 0 #[.int .u32 9, .int .u32 0, .int .u8 0, .int .u8 0, .int .u8 0, .int .u8 0, .int .u8 0, .int .u8 0, .int .u8 0, .int .u8 0] rfl rfl rfl ?_
 refine Rg.nx (fun _ _ h => h) [2,1,0] rfl ?_
 refine Ev.sr 11 ?_
 refine Rg.p 15 (.load 25 (.tmp 1)) (v := .agg #[.slice p1 3 c2, .int .u32 2]) (pv_load_blk_whole 1 rfl rfl (by kernel_rfl) (by kernel_rfl)) ?_
 refine Rg.p 16 (.build 56 #[(0, .const (.int .u32 5))]) (v := .agg #[.int .u32 5, .int .u32 0, .slice none 0 0]) (pv_build (parts := [(0, .const (.int .u32 5))]) (vs := [.int .u32 5]) (fs := [(0, 1), (1, 1), (2, 1)]) (zv := .agg #[.int .u32 0, .int .u32 0, .slice none 0 0]) (cs := #[.int .u32 5, .int .u32 0, .slice none 0 0]) rfl (by kernel_rfl) (by kernel_rfl) (by kernel_rfl)) ?_
 refine Rg.p 17 (.build 59 #[(0, .const (.bool true)), (1, .const (.int .u32 384))]) (v := .agg #[.bool true, .int .u32 384, .bool false, .int .u32 0, .bool false, .int .u32 0, .bool false, .int .u64 0, .int .u32 0, .int .u32 0, .int .u32 0, .int .u32 0, .int .u32 0, .int .u32 0]) (pv_build (parts := [(0, .const (.bool true)), (1, .const (.int .u32 384))]) (vs := [.bool true, .int .u32 384]) (fs := [(0, 1), (1, 1), (2, 1), (3, 1), (4, 1), (5, 1), (6, 1), (7, 1), (8, 1), (9, 2), (11, 1), (12, 2)]) (zv := .agg #[.bool false, .int .u32 0, .bool false, .int .u32 0, .bool false, .int .u32 0, .bool false, .int .u64 0, .int .u32 0, .int .u32 0, .int .u32 0, .int .u32 0, .int .u32 0, .int .u32 0]) (cs := #[.bool true, .int .u32 384, .bool false, .int .u32 0, .bool false, .int .u32 0, .bool false, .int .u64 0, .int .u32 0, .int .u32 0, .int .u32 0, .int .u32 0, .int .u32 0, .int .u32 0]) rfl (by kernel_rfl) (by kernel_rfl) (by kernel_rfl)) ?_
 refine Rg.p 18 (.load 61 (.tmp 2)) (v := .agg #[.int .u32 9, .int .u32 0, .int .u8 0, .int .u8 0, .int .u8 0, .int .u8 0, .int .u8 0, .int .u8 0, .int .u8 0, .int .u8 0]) (pv_load_blk_whole 0 rfl rfl (by kernel_rfl) (by kernel_rfl)) ?_
 refine Rg.cn (T := TL) (some 19) 24 #[.tmp 15, .const (.int .i64 2), .tmp 16, .tmp 17, .tmp 18] #[25, 3, 56, 59, 61] (v := fun ⟨p9, c10, c11, l12, G13⟩ => .tuple #[.agg #[.slice p9 3 c10, .int .u32 2], .int .u32 0]) (L := fun ⟨p9, c10, c11, l12, G13⟩ => [own 44 25 p9 3 c11 (flat lvA l12), dataI none G13 lvA l12]) rfl (fun w hw => lvSet1_calls (own_tree hw 2 3 rfl rfl (fun _ h => by cases h))) ?_
 rintro ⟨p9, c10, c11, l12, G13⟩ _
 dsimp only [putE, List.append, HAppend.hAppend, Append.append]
 refine Rg.fac (fun w hw => own_some hw 0 rfl (by decide)) (fun hs_ => ?_)
 obtain ⟨bl15, rfl⟩ := hs_
 refine Rg.mv 14 19 rfl ?_
 refine Rg.ex 20 14 0 rfl rfl ?_
 refine Rg.ex 21 14 1 rfl rfl ?_
 refine Rg.al 3 25 (.agg #[.slice none 0 0, .int .u32 0]) fun b16 => ?_
 refine Rg.st 25 3 (.tmp 20) 0 #[.slice (some ⟨bl15, 0, none⟩) 3 c10, .int .u32 2] rfl rfl rfl ?_
 refine Rg.as 4 21 rfl ?_
 refine Rg.nx (fun _ _ h => h) [4,3,2,1,0] rfl ?_
 refine Ev.sr 11 ?_
 refine Rg.p 23 (.load 25 (.tmp 1)) (v := .agg #[.slice p1 3 c2, .int .u32 2]) (pv_load_blk_whole 4 rfl rfl (by kernel_rfl) (by kernel_rfl)) ?_
 refine Rg.p 24 (.build 56 #[(0, .const (.int .u32 7))]) (v := .agg #[.int .u32 7, .int .u32 0, .slice none 0 0]) (pv_build (parts := [(0, .const (.int .u32 7))]) (vs := [.int .u32 7]) (fs := [(0, 1), (1, 1), (2, 1)]) (zv := .agg #[.int .u32 0, .int .u32 0, .slice none 0 0]) (cs := #[.int .u32 7, .int .u32 0, .slice none 0 0]) rfl (by kernel_rfl) (by kernel_rfl) (by kernel_rfl)) ?_
 refine Rg.p 25 (.build 59 #[(0, .const (.bool true)), (1, .const (.int .u32 384))]) (v := .agg #[.bool true, .int .u32 384, .bool false, .int .u32 0, .bool false, .int .u32 0, .bool false, .int .u64 0, .int .u32 0, .int .u32 0, .int .u32 0, .int .u32 0, .int .u32 0, .int .u32 0]) (pv_build (parts := [(0, .const (.bool true)), (1, .const (.int .u32 384))]) (vs := [.bool true, .int .u32 384]) (fs := [(0, 1), (1, 1), (2, 1), (3, 1), (4, 1), (5, 1), (6, 1), (7, 1), (8, 1), (9, 2), (11, 1), (12, 2)]) (zv := .agg #[.bool false, .int .u32 0, .bool false, .int .u32 0, .bool false, .int .u32 0, .bool false, .int .u64 0, .int .u32 0, .int .u32 0, .int .u32 0, .int .u32 0, .int .u32 0, .int .u32 0]) (cs := #[.bool true, .int .u32 384, .bool false, .int .u32 0, .bool false, .int .u32 0, .bool false, .int .u64 0, .int .u32 0, .int .u32 0, .int .u32 0, .int .u32 0, .int .u32 0, .int .u32 0]) rfl (by kernel_rfl) (by kernel_rfl) (by kernel_rfl)) ?_
 refine Rg.p 26 (.load 61 (.tmp 2)) (v := .agg #[.int .u32 9, .int .u32 0, .int .u8 0, .int .u8 0, .int .u8 0, .int .u8 0, .int .u8 0, .int .u8 0, .int .u8 0, .int .u8 0]) (pv_load_blk_whole 3 rfl rfl (by kernel_rfl) (by kernel_rfl)) ?_
 refine Rg.cn (T := TL) (some 27) 24 #[.tmp 23, .const (.int .i64 2), .tmp 24, .tmp 25, .tmp 26] #[25, 3, 56, 59, 61] (v := fun ⟨p17, c18, c19, l20, G21⟩ => .tuple #[.agg #[.slice p17 0 c18, .int .u32 0], .int .u32 1]) (L := fun ⟨p17, c18, c19, l20, G21⟩ => [own 44 25 p17 0 c19 (flat [] l20), dataI none G21 [] l20]) rfl (fun w hw => lvSet2_calls (own_tree hw 5 6 rfl rfl (fun _ h => by cases h))) ?_
 rintro ⟨p17, c18, c19, l20, G21⟩ _
 dsimp only [putE, List.append, HAppend.hAppend, Append.append]
 refine Rg.mv 22 27 rfl ?_
 refine Rg.ex 28 22 0 rfl rfl ?_
 refine Rg.ex 29 22 1 rfl rfl ?_
 refine Rg.al 5 25 (.agg #[.slice none 0 0, .int .u32 0]) fun b23 => ?_
 refine Rg.st 25 5 (.tmp 28) 0 #[.slice p17 0 c18, .int .u32 0] rfl rfl rfl ?_
 refine Rg.as 6 29 rfl ?_
 refine Rg.nx (fun _ _ h => h) [6,4,3,2,1,0] rfl ?_
 refine Ev.sr 11 ?_
 refine Rg.p 31 (.load 25 (.tmp 1)) (v := .agg #[.slice p1 3 c2, .int .u32 2]) (pv_load_blk_whole 7 rfl rfl (by kernel_rfl) (by kernel_rfl)) ?_
 refine Rg.p 32 (.build 56 #[]) (v := .agg #[.int .u32 0, .int .u32 0, .slice none 0 0]) (pv_build (parts := []) (vs := []) (fs := [(0, 1), (1, 1), (2, 1)]) (zv := .agg #[.int .u32 0, .int .u32 0, .slice none 0 0]) (cs := #[.int .u32 0, .int .u32 0, .slice none 0 0]) rfl (by kernel_rfl) (by kernel_rfl) (by kernel_rfl)) ?_
 refine Rg.p 33 (.build 59 #[(6, .const (.bool true))]) (v := .agg #[.bool false, .int .u32 0, .bool false, .int .u32 0, .bool false, .int .u32 0, .bool true, .int .u64 0, .int .u32 0, .int .u32 0, .int .u32 0, .int .u32 0, .int .u32 0, .int .u32 0]) (pv_build (parts := [(6, .const (.bool true))]) (vs := [.bool true]) (fs := [(0, 1), (1, 1), (2, 1), (3, 1), (4, 1), (5, 1), (6, 1), (7, 1), (8, 1), (9, 2), (11, 1), (12, 2)]) (zv := .agg #[.bool false, .int .u32 0, .bool false, .int .u32 0, .bool false, .int .u32 0, .bool false, .int .u64 0, .int .u32 0, .int .u32 0, .int .u32 0, .int .u32 0, .int .u32 0, .int .u32 0]) (cs := #[.bool false, .int .u32 0, .bool false, .int .u32 0, .bool false, .int .u32 0, .bool true, .int .u64 0, .int .u32 0, .int .u32 0, .int .u32 0, .int .u32 0, .int .u32 0, .int .u32 0]) rfl (by kernel_rfl) (by kernel_rfl) (by kernel_rfl)) ?_
 refine Rg.p 34 (.load 61 (.tmp 2)) (v := .agg #[.int .u32 9, .int .u32 0, .int .u8 0, .int .u8 0, .int .u8 0, .int .u8 0, .int .u8 0, .int .u8 0, .int .u8 0, .int .u8 0]) (pv_load_blk_whole 6 rfl rfl (by kernel_rfl) (by kernel_rfl)) ?_
 refine Rg.cn (T := TL) (some 35) 24 #[.tmp 31, .const (.int .i64 1), .tmp 32, .tmp 33, .tmp 34] #[25, 3, 56, 59, 61] (v := fun ⟨p24, c25, c26, l27, G28⟩ => .tuple #[.agg #[.slice p24 0 c25, .int .u32 0], .int .u32 21]) (L := fun ⟨p24, c25, c26, l27, G28⟩ => [own 44 25 p24 0 c26 (flat [] l27), dataI none G28 [] l27]) rfl (fun w hw => lvSet3_calls (own_tree hw 8 9 rfl rfl (fun _ h => by cases h))) ?_
 rintro ⟨p24, c25, c26, l27, G28⟩ _
 dsimp only [putE, List.append, HAppend.hAppend, Append.append]
 refine Rg.mv 30 35 rfl ?_
 refine Rg.ex 36 30 0 rfl rfl ?_
 refine Rg.ex 37 30 1 rfl rfl ?_
 refine Rg.al 7 25 (.agg #[.slice none 0 0, .int .u32 0]) fun b30 => ?_
 refine Rg.st 25 7 (.tmp 36) 0 #[.slice p24 0 c25, .int .u32 0] rfl rfl rfl ?_
 refine Rg.as 8 37 rfl ?_
 refine Rg.nx (fun _ _ h => h) [8,6,4,3,2,1,0] rfl ?_
 refine Ev.sr 11 ?_
 refine Rg.p 39 (.load 25 (.tmp 1)) (v := .agg #[.slice p1 3 c2, .int .u32 2]) (pv_load_blk_whole 10 rfl rfl (by kernel_rfl) (by kernel_rfl)) ?_
 refine Rg.p 40 (.build 56 #[(0, .const (.int .u32 5))]) (v := .agg #[.int .u32 5, .int .u32 0, .slice none 0 0]) (pv_build (parts := [(0, .const (.int .u32 5))]) (vs := [.int .u32 5]) (fs := [(0, 1), (1, 1), (2, 1)]) (zv := .agg #[.int .u32 0, .int .u32 0, .slice none 0 0]) (cs := #[.int .u32 5, .int .u32 0, .slice none 0 0]) rfl (by kernel_rfl) (by kernel_rfl) (by kernel_rfl)) ?_
 refine Rg.p 41 (.build 59 #[(6, .const (.bool true)), (7, .const (.int .u64 5))]) (v := .agg #[.bool false, .int .u32 0, .bool false, .int .u32 0, .bool false, .int .u32 0, .bool true, .int .u64 5, .int .u32 0, .int .u32 0, .int .u32 0, .int .u32 0, .int .u32 0, .int .u32 0]) (pv_build (parts := [(6, .const (.bool true)), (7, .const (.int .u64 5))]) (vs := [.bool true, .int .u64 5]) (fs := [(0, 1), (1, 1), (2, 1), (3, 1), (4, 1), (5, 1), (6, 1), (7, 1), (8, 1), (9, 2), (11, 1), (12, 2)]) (zv := .agg #[.bool false, .int .u32 0, .bool false, .int .u32 0, .bool false, .int .u32 0, .bool false, .int .u64 0, .int .u32 0, .int .u32 0, .int .u32 0, .int .u32 0, .int .u32 0, .int .u32 0]) (cs := #[.bool false, .int .u32 0, .bool false, .int .u32 0, .bool false, .int .u32 0, .bool true, .int .u64 5, .int .u32 0, .int .u32 0, .int .u32 0, .int .u32 0, .int .u32 0, .int .u32 0]) rfl (by kernel_rfl) (by kernel_rfl) (by kernel_rfl)) ?_
 refine Rg.p 42 (.load 61 (.tmp 2)) (v := .agg #[.int .u32 9, .int .u32 0, .int .u8 0, .int .u8 0, .int .u8 0, .int .u8 0, .int .u8 0, .int .u8 0, .int .u8 0, .int .u8 0]) (pv_load_blk_whole 9 rfl rfl (by kernel_rfl) (by kernel_rfl)) ?_
 refine Rg.cn (T := TL) (some 43) 24 #[.tmp 39, .const (.int .i64 2), .tmp 40, .tmp 41, .tmp 42] #[25, 3, 56, 59, 61] (v := fun ⟨p31, c32, c33, l34, G35⟩ => .tuple #[.agg #[.slice p31 3 c32, .int .u32 2], .int .u32 0]) (L := fun ⟨p31, c32, c33, l34, G35⟩ => [own 44 25 p31 3 c33 (flat lvB l34), dataI none G35 lvB l34]) rfl (fun w hw => lvSet4_calls (own_tree hw 11 12 rfl rfl (fun _ h => by cases h))) ?_
 rintro ⟨p31, c32, c33, l34, G35⟩ _
 dsimp only [putE, List.append, HAppend.hAppend, Append.append]
 refine Rg.fac (fun w hw => own_some hw 0 rfl (by decide)) (fun hs_ => ?_)
 obtain ⟨bl37, rfl⟩ := hs_
 refine Rg.mv 38 43 rfl ?_
 refine Rg.ex 44 38 0 rfl rfl ?_
 refine Rg.ex 45 38 1 rfl rfl ?_
 refine Rg.al 9 25 (.agg #[.slice none 0 0, .int .u32 0]) fun b38 => ?_
 refine Rg.st 25 9 (.tmp 44) 0 #[.slice (some ⟨bl37, 0, none⟩) 3 c32, .int .u32 2] rfl rfl rfl ?_
 refine Rg.as 10 45 rfl ?_
 refine Rg.nx (fun _ _ h => h) [10,9,8,6,4,3,2,0] rfl ?_
 refine Ev.sq ?_
 refine ev_quiet (n := 64) (E' := [(0, .bool ((((((((decide (((nd lvA 2).mode) = 384)) && (decide (((nd lvA 2).ts) = 9) && (decide (((nd lvA 2).tn) = 0) && true))) && true) && true) && true) && true) && (decide ((strOf ((nd lvB 2).data)) = ⟨#[97, 98, 99, 0, 0]⟩))) && (decide (((nd lvB 2).ws) = 9) && (decide (((nd lvB 2).wn) = 0) && true))))]) (by kernel_rfl) (by kernel_rfl) ?_ ?_
 ·
  refine Qg.pure (d := 46) (op := .move (.tmp 4)) (g := none) (v := .int .u32 0) (by kernel_rfl) (by kernel_rfl) (pv_move rfl) ?_
  refine Qg.pure (d := 47) (op := .binOp .eql 45 (.tmp 46) (.const (.int .u32 0)) 45) (g := none) (v := .bool (decide (0 = 0))) (by kernel_rfl) (by kernel_rfl) (pv_eql rfl rfl) ?_
  refine Qg.know 47 (b := decide (0 = 0)) (c := true) rfl (by decide) ?_
  refine Qg.pure (d := 48) (op := .move (.tmp 47)) (g := none) (v := .bool true) (by kernel_rfl) (by kernel_rfl) (pv_move rfl) ?_
  refine Qg.pure (d := 49) (op := .fieldAddr 25 (.tmp 3) 0) (g := some (2, true)) (v := .pointer (some ⟨b16, 0 + 0, none⟩)) (by kernel_rfl) (by kernel_rfl) (pv_fieldAddr rfl (n := 0) (by kernel_rfl)) ?_
  refine Qg.pure (d := 50) (op := .load 22 (.tmp 49)) (g := some (2, true)) (v := .slice (some ⟨bl15, 0, none⟩) 3 c10) (by kernel_rfl) (by kernel_rfl) (pv_load_blk 9 rfl rfl (by kernel_rfl) rfl) ?_
  refine Qg.pure (d := 51) (op := .call { callee := .builtin .len, args := #[.tmp 50], argTypes := #[22] }) (g := some (2, true)) (v := .int .i64 (3 : Int)) (by kernel_rfl) (by kernel_rfl) (pv_len_slice rfl (by kernel_rfl)) ?_
  refine Qg.pure (d := 52) (op := .binOp .eql 3 (.tmp 51) (.const (.int .i64 3)) 3) (g := some (2, true)) (v := .bool (decide ((3 : Int) = 3))) (by kernel_rfl) (by kernel_rfl) (pv_eql rfl rfl) ?_
  refine Qg.know 52 (b := decide ((3 : Int) = 3)) (c := true) rfl (by decide) ?_
  refine Qg.pure (d := 53) (op := .pick (.tmp 48) (.tmp 52) (.const (.bool false))) (g := none) (v := .bool true) (by kernel_rfl) (by kernel_rfl) (pv_pick_t rfl rfl) ?_
  refine Qg.pure (d := 54) (op := .move (.tmp 53)) (g := none) (v := .bool true) (by kernel_rfl) (by kernel_rfl) (pv_move rfl) ?_
  refine Qg.pure (d := 55) (op := .fieldAddr 25 (.tmp 3) 0) (g := some (8, true)) (v := .pointer (some ⟨b16, 0 + 0, none⟩)) (by kernel_rfl) (by kernel_rfl) (pv_fieldAddr rfl (n := 0) (by kernel_rfl)) ?_
  refine Qg.pure (d := 56) (op := .load 22 (.tmp 55)) (g := some (8, true)) (v := .slice (some ⟨bl15, 0, none⟩) 3 c10) (by kernel_rfl) (by kernel_rfl) (pv_load_blk 9 rfl rfl (by kernel_rfl) rfl) ?_
  refine Qg.pure (d := 57) (op := .indexAddr 22 (.tmp 56) (.const (.int .i64 2))) (g := some (8, true)) (v := .pointer (some ⟨bl15, 0 + (2 : Int).toNat * 25, none⟩)) (by kernel_rfl) (by kernel_rfl) (pv_indexAddr rfl rfl (e := 44) (sz := 25) (by kernel_rfl) (by omega) (by omega)) ?_
  refine Qg.pure (d := 58) (op := .fieldAddr 44 (.tmp 57) 2) (g := some (8, true)) (v := .pointer (some ⟨bl15, 0 + (2 : Int).toNat * 25 + 2, none⟩)) (by kernel_rfl) (by kernel_rfl) (pv_fieldAddr rfl (n := 2) (by kernel_rfl)) ?_
  refine Qg.pure (d := 59) (op := .load 23 (.tmp 58)) (g := some (8, true)) (v := .int .u32 ((nd lvA 2).mode)) (by kernel_rfl) (by kernel_rfl) (pv_load_ownfield (ns := lvA) (al := l12) (i := 2) (f := 2) 10 rfl rfl (by omega) (by kernel_rfl) rfl) ?_
  refine Qg.pure (d := 60) (op := .binOp .eql 23 (.tmp 59) (.const (.int .u32 384)) 23) (g := some (8, true)) (v := .bool (decide (((nd lvA 2).mode) = 384))) (by kernel_rfl) (by kernel_rfl) (pv_eql rfl rfl) ?_
  refine Qg.pure (d := 61) (op := .pick (.tmp 54) (.tmp 60) (.const (.bool false))) (g := none) (v := .bool (decide (((nd lvA 2).mode) = 384))) (by kernel_rfl) (by kernel_rfl) (pv_pick_t rfl rfl) ?_
  refine Qg.pure (d := 62) (op := .move (.tmp 61)) (g := none) (v := .bool (decide (((nd lvA 2).mode) = 384))) (by kernel_rfl) (by kernel_rfl) (pv_move rfl) ?_
  refine Qg.split 26 [(71, .bool ((decide (((nd lvA 2).mode) = 384)) && (decide (((nd lvA 2).ts) = 9) && (decide (((nd lvA 2).tn) = 0) && true)))), (0, .bool false), (2, .pointer (some ⟨b8, 0, none⟩)), (6, .int .u32 1), (8, .int .u32 21), (9, .pointer (some ⟨b38, 0, none⟩)), (10, .int .u32 0)] [blk b38 (.cells #[.slice (some ⟨bl37, 0, none⟩) 3 c32, .int .u32 2] 25 (0, 0)), own 44 25 (some ⟨bl37, 0, none⟩) 3 c33 (flat lvB l34), dataI none G35 lvB l34, blk b30 (.cells #[.slice p24 0 c25, .int .u32 0] 25 (0, 0)), own 44 25 p24 0 c26 (flat [] l27), dataI none G28 [] l27, blk b23 (.cells #[.slice p17 0 c18, .int .u32 0] 25 (0, 0)), own 44 25 p17 0 c19 (flat [] l20), dataI none G21 [] l20, blk b16 (.cells #[.slice (some ⟨bl15, 0, none⟩) 3 c10, .int .u32 2] 25 (0, 0)), own 44 25 (some ⟨bl15, 0, none⟩) 3 c11 (flat lvA l12), dataI none G13 lvA l12, blk b8 (.cells #[.int .u32 9, .int .u32 0, .int .u8 0, .int .u8 0, .int .u8 0, .int .u8 0, .int .u8 0, .int .u8 0, .int .u8 0, .int .u8 0] 61 (0, 0)), blk b7 (.cells #[.slice p1 3 c2, .int .u32 2] 25 (0, 0)), own 44 25 p1 3 c3 (flat lvT l4), dataI none G5 lvT l4, base w (Low w)] (s := 62) (g := decide (((nd lvA 2).mode) = 384)) rfl (by decide) (fun h1 => ?_) (fun h1 => ?_) ?_
  ·
   have h2 := of_decide_eq_true h1
   refine Qg.pure (d := 63) (op := .fieldAddr 25 (.tmp 3) 0) (g := some (16, true)) (v := .pointer (some ⟨b16, 0 + 0, none⟩)) (by kernel_rfl) (by kernel_rfl) (pv_fieldAddr rfl (n := 0) (by kernel_rfl)) ?_
   refine Qg.pure (d := 64) (op := .load 22 (.tmp 63)) (g := some (16, true)) (v := .slice (some ⟨bl15, 0, none⟩) 3 c10) (by kernel_rfl) (by kernel_rfl) (pv_load_blk 9 rfl rfl (by kernel_rfl) rfl) ?_
   refine Qg.pure (d := 65) (op := .indexAddr 22 (.tmp 64) (.const (.int .i64 2))) (g := some (16, true)) (v := .pointer (some ⟨bl15, 0 + (2 : Int).toNat * 25, none⟩)) (by kernel_rfl) (by kernel_rfl) (pv_indexAddr rfl rfl (e := 44) (sz := 25) (by kernel_rfl) (by omega) (by omega)) ?_
   refine Qg.pure (d := 66) (op := .fieldAddr 44 (.tmp 65) 8) (g := some (16, true)) (v := .pointer (some ⟨bl15, 0 + (2 : Int).toNat * 25 + 10, none⟩)) (by kernel_rfl) (by kernel_rfl) (pv_fieldAddr rfl (n := 10) (by kernel_rfl)) ?_
   refine Qg.pure (d := 67) (op := .load 36 (.tmp 66)) (g := some (16, true)) (v := .agg #[.int .u32 ((nd lvA 2).ts), .int .u32 ((nd lvA 2).tn)]) (by kernel_rfl) (by kernel_rfl) (pv_load_ownpart (ns := lvA) (al := l12) (i := 2) (f := 10) 10 rfl rfl (by omega) (by kernel_rfl) (by kernel_rfl) rfl rfl) ?_
   refine Qg.pure (d := 68) (op := .fieldAddr 61 (.tmp 2) 0) (g := some (16, true)) (v := .pointer (some ⟨b8, 0 + 0, none⟩)) (by kernel_rfl) (by kernel_rfl) (pv_fieldAddr rfl (n := 0) (by kernel_rfl)) ?_
   refine Qg.pure (d := 69) (op := .load 36 (.tmp 68)) (g := some (16, true)) (v := .agg #[.int .u32 9, .int .u32 0]) (by kernel_rfl) (by kernel_rfl) (pv_load_blk_agg 12 rfl rfl (vs := #[.int .u32 9, .int .u32 0]) (by kernel_rfl) (by kernel_rfl) (agg_rfl (by kernel_rfl))) ?_
   refine Qg.pure (d := 70) (op := .binOp .eql 36 (.tmp 67) (.tmp 69) 36) (g := some (16, true)) (v := .bool (decide (((nd lvA 2).ts) = 9) && (decide (((nd lvA 2).tn) = 0) && true))) (by kernel_rfl) (by kernel_rfl) (pv_eql_V (b := (decide (((nd lvA 2).ts) = 9) && (decide (((nd lvA 2).tn) = 0) && true))) rfl rfl (by kernel_rfl) (by kernel_rfl)) ?_
   refine Qg.pure (d := 71) (op := .pick (.tmp 62) (.tmp 70) (.const (.bool false))) (g := none) (v := .bool (decide (((nd lvA 2).ts) = 9) && (decide (((nd lvA 2).tn) = 0) && true))) (by kernel_rfl) (by kernel_rfl) (pv_pick_t rfl rfl) ?_
   exact Qg.mid (.cons (and_of_t h1 rfl) (.cons (rfl) (.cons (rfl) (.cons (rfl) (.cons (rfl) (.cons (rfl) (.cons (rfl) (.nil _)))))))) rfl
  ·
   refine Qg.skips 25 (by kernel_rfl) ?_
   refine Qg.pure (d := 71) (op := .pick (.tmp 62) (.tmp 70) (.const (.bool false))) (g := none) (v := .bool false) (by kernel_rfl) (by kernel_rfl) (pv_pick_f rfl rfl) ?_
   exact Qg.mid (.cons (and_of_f h1 rfl) (.cons (rfl) (.cons (rfl) (.cons (rfl) (.cons (rfl) (.cons (rfl) (.cons (rfl) (.nil _)))))))) rfl
  refine Qg.pure (d := 72) (op := .move (.tmp 71)) (g := none) (v := .bool ((decide (((nd lvA 2).mode) = 384)) && (decide (((nd lvA 2).ts) = 9) && (decide (((nd lvA 2).tn) = 0) && true)))) (by kernel_rfl) (by kernel_rfl) (pv_move rfl) ?_
  refine Qg.split 30 [(75, .bool (((decide (((nd lvA 2).mode) = 384)) && (decide (((nd lvA 2).ts) = 9) && (decide (((nd lvA 2).tn) = 0) && true))) && true)), (0, .bool false), (2, .pointer (some ⟨b8, 0, none⟩)), (8, .int .u32 21), (9, .pointer (some ⟨b38, 0, none⟩)), (10, .int .u32 0)] [blk b38 (.cells #[.slice (some ⟨bl37, 0, none⟩) 3 c32, .int .u32 2] 25 (0, 0)), own 44 25 (some ⟨bl37, 0, none⟩) 3 c33 (flat lvB l34), dataI none G35 lvB l34, blk b30 (.cells #[.slice p24 0 c25, .int .u32 0] 25 (0, 0)), own 44 25 p24 0 c26 (flat [] l27), dataI none G28 [] l27, blk b23 (.cells #[.slice p17 0 c18, .int .u32 0] 25 (0, 0)), own 44 25 p17 0 c19 (flat [] l20), dataI none G21 [] l20, blk b16 (.cells #[.slice (some ⟨bl15, 0, none⟩) 3 c10, .int .u32 2] 25 (0, 0)), own 44 25 (some ⟨bl15, 0, none⟩) 3 c11 (flat lvA l12), dataI none G13 lvA l12, blk b8 (.cells #[.int .u32 9, .int .u32 0, .int .u8 0, .int .u8 0, .int .u8 0, .int .u8 0, .int .u8 0, .int .u8 0, .int .u8 0, .int .u8 0] 61 (0, 0)), blk b7 (.cells #[.slice p1 3 c2, .int .u32 2] 25 (0, 0)), own 44 25 p1 3 c3 (flat lvT l4), dataI none G5 lvT l4, base w (Low w)] (s := 72) (g := (decide (((nd lvA 2).mode) = 384)) && (decide (((nd lvA 2).ts) = 9) && (decide (((nd lvA 2).tn) = 0) && true))) rfl (by decide) (fun h3 => ?_) (fun h3 => ?_) ?_
  ·
   have ⟨h4, h5⟩ := and_t h3
   have h6 := of_decide_eq_true h4
   refine Qg.pure (d := 73) (op := .move (.tmp 6)) (g := some (26, true)) (v := .int .u32 1) (by kernel_rfl) (by kernel_rfl) (pv_move rfl) ?_
   refine Qg.pure (d := 74) (op := .binOp .eql 45 (.tmp 73) (.const (.int .u32 1)) 45) (g := some (26, true)) (v := .bool (decide (1 = 1))) (by kernel_rfl) (by kernel_rfl) (pv_eql rfl rfl) ?_
   refine Qg.know 74 (b := decide (1 = 1)) (c := true) rfl (by decide) ?_
   refine Qg.pure (d := 75) (op := .pick (.tmp 72) (.tmp 74) (.const (.bool false))) (g := none) (v := .bool true) (by kernel_rfl) (by kernel_rfl) (pv_pick_t rfl rfl) ?_
   exact Qg.mid (.cons (and_of_t h3 rfl) (.cons (rfl) (.cons (rfl) (.cons (rfl) (.cons (rfl) (.cons (rfl) (.nil _))))))) rfl
  ·
   refine Qg.skips 29 (by kernel_rfl) ?_
   refine Qg.pure (d := 75) (op := .pick (.tmp 72) (.tmp 74) (.const (.bool false))) (g := none) (v := .bool false) (by kernel_rfl) (by kernel_rfl) (pv_pick_f rfl rfl) ?_
   exact Qg.mid (.cons (and_of_f h3 rfl) (.cons (rfl) (.cons (rfl) (.cons (rfl) (.cons (rfl) (.cons (rfl) (.nil _))))))) rfl
  refine Qg.pure (d := 76) (op := .move (.tmp 75)) (g := none) (v := .bool (((decide (((nd lvA 2).mode) = 384)) && (decide (((nd lvA 2).ts) = 9) && (decide (((nd lvA 2).tn) = 0) && true))) && true)) (by kernel_rfl) (by kernel_rfl) (pv_move rfl) ?_
  refine Qg.split 34 [(79, .bool ((((decide (((nd lvA 2).mode) = 384)) && (decide (((nd lvA 2).ts) = 9) && (decide (((nd lvA 2).tn) = 0) && true))) && true) && true)), (0, .bool false), (2, .pointer (some ⟨b8, 0, none⟩)), (9, .pointer (some ⟨b38, 0, none⟩)), (10, .int .u32 0)] [blk b38 (.cells #[.slice (some ⟨bl37, 0, none⟩) 3 c32, .int .u32 2] 25 (0, 0)), own 44 25 (some ⟨bl37, 0, none⟩) 3 c33 (flat lvB l34), dataI none G35 lvB l34, blk b30 (.cells #[.slice p24 0 c25, .int .u32 0] 25 (0, 0)), own 44 25 p24 0 c26 (flat [] l27), dataI none G28 [] l27, blk b23 (.cells #[.slice p17 0 c18, .int .u32 0] 25 (0, 0)), own 44 25 p17 0 c19 (flat [] l20), dataI none G21 [] l20, blk b16 (.cells #[.slice (some ⟨bl15, 0, none⟩) 3 c10, .int .u32 2] 25 (0, 0)), own 44 25 (some ⟨bl15, 0, none⟩) 3 c11 (flat lvA l12), dataI none G13 lvA l12, blk b8 (.cells #[.int .u32 9, .int .u32 0, .int .u8 0, .int .u8 0, .int .u8 0, .int .u8 0, .int .u8 0, .int .u8 0, .int .u8 0, .int .u8 0] 61 (0, 0)), blk b7 (.cells #[.slice p1 3 c2, .int .u32 2] 25 (0, 0)), own 44 25 p1 3 c3 (flat lvT l4), dataI none G5 lvT l4, base w (Low w)] (s := 76) (g := ((decide (((nd lvA 2).mode) = 384)) && (decide (((nd lvA 2).ts) = 9) && (decide (((nd lvA 2).tn) = 0) && true))) && true) rfl (by decide) (fun h7 => ?_) (fun h7 => ?_) ?_
  ·
   have ⟨h8, h9⟩ := and_t h7
   have ⟨h10, h11⟩ := and_t h8
   have h12 := of_decide_eq_true h10
   refine Qg.pure (d := 77) (op := .move (.tmp 8)) (g := some (30, true)) (v := .int .u32 21) (by kernel_rfl) (by kernel_rfl) (pv_move rfl) ?_
   refine Qg.pure (d := 78) (op := .binOp .eql 45 (.tmp 77) (.const (.int .u32 21)) 45) (g := some (30, true)) (v := .bool (decide (21 = 21))) (by kernel_rfl) (by kernel_rfl) (pv_eql rfl rfl) ?_
   refine Qg.know 78 (b := decide (21 = 21)) (c := true) rfl (by decide) ?_
   refine Qg.pure (d := 79) (op := .pick (.tmp 76) (.tmp 78) (.const (.bool false))) (g := none) (v := .bool true) (by kernel_rfl) (by kernel_rfl) (pv_pick_t rfl rfl) ?_
   exact Qg.mid (.cons (and_of_t h7 rfl) (.cons (rfl) (.cons (rfl) (.cons (rfl) (.cons (rfl) (.nil _)))))) rfl
  ·
   refine Qg.skips 33 (by kernel_rfl) ?_
   refine Qg.pure (d := 79) (op := .pick (.tmp 76) (.tmp 78) (.const (.bool false))) (g := none) (v := .bool false) (by kernel_rfl) (by kernel_rfl) (pv_pick_f rfl rfl) ?_
   exact Qg.mid (.cons (and_of_f h7 rfl) (.cons (rfl) (.cons (rfl) (.cons (rfl) (.cons (rfl) (.nil _)))))) rfl
  refine Qg.pure (d := 80) (op := .move (.tmp 79)) (g := none) (v := .bool ((((decide (((nd lvA 2).mode) = 384)) && (decide (((nd lvA 2).ts) = 9) && (decide (((nd lvA 2).tn) = 0) && true))) && true) && true)) (by kernel_rfl) (by kernel_rfl) (pv_move rfl) ?_
  refine Qg.split 38 [(83, .bool (((((decide (((nd lvA 2).mode) = 384)) && (decide (((nd lvA 2).ts) = 9) && (decide (((nd lvA 2).tn) = 0) && true))) && true) && true) && true)), (0, .bool false), (2, .pointer (some ⟨b8, 0, none⟩)), (9, .pointer (some ⟨b38, 0, none⟩))] [blk b38 (.cells #[.slice (some ⟨bl37, 0, none⟩) 3 c32, .int .u32 2] 25 (0, 0)), own 44 25 (some ⟨bl37, 0, none⟩) 3 c33 (flat lvB l34), dataI none G35 lvB l34, blk b30 (.cells #[.slice p24 0 c25, .int .u32 0] 25 (0, 0)), own 44 25 p24 0 c26 (flat [] l27), dataI none G28 [] l27, blk b23 (.cells #[.slice p17 0 c18, .int .u32 0] 25 (0, 0)), own 44 25 p17 0 c19 (flat [] l20), dataI none G21 [] l20, blk b16 (.cells #[.slice (some ⟨bl15, 0, none⟩) 3 c10, .int .u32 2] 25 (0, 0)), own 44 25 (some ⟨bl15, 0, none⟩) 3 c11 (flat lvA l12), dataI none G13 lvA l12, blk b8 (.cells #[.int .u32 9, .int .u32 0, .int .u8 0, .int .u8 0, .int .u8 0, .int .u8 0, .int .u8 0, .int .u8 0, .int .u8 0, .int .u8 0] 61 (0, 0)), blk b7 (.cells #[.slice p1 3 c2, .int .u32 2] 25 (0, 0)), own 44 25 p1 3 c3 (flat lvT l4), dataI none G5 lvT l4, base w (Low w)] (s := 80) (g := (((decide (((nd lvA 2).mode) = 384)) && (decide (((nd lvA 2).ts) = 9) && (decide (((nd lvA 2).tn) = 0) && true))) && true) && true) rfl (by decide) (fun h13 => ?_) (fun h13 => ?_) ?_
  ·
   have ⟨h14, h15⟩ := and_t h13
   have ⟨h16, h17⟩ := and_t h14
   have ⟨h18, h19⟩ := and_t h16
   have h20 := of_decide_eq_true h18
   refine Qg.pure (d := 81) (op := .move (.tmp 10)) (g := some (34, true)) (v := .int .u32 0) (by kernel_rfl) (by kernel_rfl) (pv_move rfl) ?_
   refine Qg.pure (d := 82) (op := .binOp .eql 45 (.tmp 81) (.const (.int .u32 0)) 45) (g := some (34, true)) (v := .bool (decide (0 = 0))) (by kernel_rfl) (by kernel_rfl) (pv_eql rfl rfl) ?_
   refine Qg.know 82 (b := decide (0 = 0)) (c := true) rfl (by decide) ?_
   refine Qg.pure (d := 83) (op := .pick (.tmp 80) (.tmp 82) (.const (.bool false))) (g := none) (v := .bool true) (by kernel_rfl) (by kernel_rfl) (pv_pick_t rfl rfl) ?_
   exact Qg.mid (.cons (and_of_t h13 rfl) (.cons (rfl) (.cons (rfl) (.cons (rfl) (.nil _))))) rfl
  ·
   refine Qg.skips 37 (by kernel_rfl) ?_
   refine Qg.pure (d := 83) (op := .pick (.tmp 80) (.tmp 82) (.const (.bool false))) (g := none) (v := .bool false) (by kernel_rfl) (by kernel_rfl) (pv_pick_f rfl rfl) ?_
   exact Qg.mid (.cons (and_of_f h13 rfl) (.cons (rfl) (.cons (rfl) (.cons (rfl) (.nil _))))) rfl
  refine Qg.pure (d := 84) (op := .move (.tmp 83)) (g := none) (v := .bool (((((decide (((nd lvA 2).mode) = 384)) && (decide (((nd lvA 2).ts) = 9) && (decide (((nd lvA 2).tn) = 0) && true))) && true) && true) && true)) (by kernel_rfl) (by kernel_rfl) (pv_move rfl) ?_
  refine Qg.split 44 [(89, .bool ((((((decide (((nd lvA 2).mode) = 384)) && (decide (((nd lvA 2).ts) = 9) && (decide (((nd lvA 2).tn) = 0) && true))) && true) && true) && true) && true)), (0, .bool false), (2, .pointer (some ⟨b8, 0, none⟩)), (9, .pointer (some ⟨b38, 0, none⟩))] [blk b38 (.cells #[.slice (some ⟨bl37, 0, none⟩) 3 c32, .int .u32 2] 25 (0, 0)), own 44 25 (some ⟨bl37, 0, none⟩) 3 c33 (flat lvB l34), dataI none G35 lvB l34, blk b30 (.cells #[.slice p24 0 c25, .int .u32 0] 25 (0, 0)), own 44 25 p24 0 c26 (flat [] l27), dataI none G28 [] l27, blk b23 (.cells #[.slice p17 0 c18, .int .u32 0] 25 (0, 0)), own 44 25 p17 0 c19 (flat [] l20), dataI none G21 [] l20, blk b16 (.cells #[.slice (some ⟨bl15, 0, none⟩) 3 c10, .int .u32 2] 25 (0, 0)), own 44 25 (some ⟨bl15, 0, none⟩) 3 c11 (flat lvA l12), dataI none G13 lvA l12, blk b8 (.cells #[.int .u32 9, .int .u32 0, .int .u8 0, .int .u8 0, .int .u8 0, .int .u8 0, .int .u8 0, .int .u8 0, .int .u8 0, .int .u8 0] 61 (0, 0)), blk b7 (.cells #[.slice p1 3 c2, .int .u32 2] 25 (0, 0)), own 44 25 p1 3 c3 (flat lvT l4), dataI none G5 lvT l4, base w (Low w)] (s := 84) (g := ((((decide (((nd lvA 2).mode) = 384)) && (decide (((nd lvA 2).ts) = 9) && (decide (((nd lvA 2).tn) = 0) && true))) && true) && true) && true) rfl (by decide) (fun h21 => ?_) (fun h21 => ?_) ?_
  ·
   have ⟨h22, h23⟩ := and_t h21
   have ⟨h24, h25⟩ := and_t h22
   have ⟨h26, h27⟩ := and_t h24
   have ⟨h28, h29⟩ := and_t h26
   have h30 := of_decide_eq_true h28
   refine Qg.pure (d := 85) (op := .fieldAddr 25 (.tmp 9) 0) (g := some (38, true)) (v := .pointer (some ⟨b38, 0 + 0, none⟩)) (by kernel_rfl) (by kernel_rfl) (pv_fieldAddr rfl (n := 0) (by kernel_rfl)) ?_
   refine Qg.pure (d := 86) (op := .load 22 (.tmp 85)) (g := some (38, true)) (v := .slice (some ⟨bl37, 0, none⟩) 3 c32) (by kernel_rfl) (by kernel_rfl) (pv_load_blk 0 rfl rfl (by kernel_rfl) rfl) ?_
   refine Qg.pure (d := 87) (op := .call { callee := .builtin .len, args := #[.tmp 86], argTypes := #[22] }) (g := some (38, true)) (v := .int .i64 (3 : Int)) (by kernel_rfl) (by kernel_rfl) (pv_len_slice rfl (by kernel_rfl)) ?_
   refine Qg.pure (d := 88) (op := .binOp .eql 3 (.tmp 87) (.const (.int .i64 3)) 3) (g := some (38, true)) (v := .bool (decide ((3 : Int) = 3))) (by kernel_rfl) (by kernel_rfl) (pv_eql rfl rfl) ?_
   refine Qg.know 88 (b := decide ((3 : Int) = 3)) (c := true) rfl (by decide) ?_
   refine Qg.pure (d := 89) (op := .pick (.tmp 84) (.tmp 88) (.const (.bool false))) (g := none) (v := .bool true) (by kernel_rfl) (by kernel_rfl) (pv_pick_t rfl rfl) ?_
   exact Qg.mid (.cons (and_of_t h21 rfl) (.cons (rfl) (.cons (rfl) (.cons (rfl) (.nil _))))) rfl
  ·
   refine Qg.skips 43 (by kernel_rfl) ?_
   refine Qg.pure (d := 89) (op := .pick (.tmp 84) (.tmp 88) (.const (.bool false))) (g := none) (v := .bool false) (by kernel_rfl) (by kernel_rfl) (pv_pick_f rfl rfl) ?_
   exact Qg.mid (.cons (and_of_f h21 rfl) (.cons (rfl) (.cons (rfl) (.cons (rfl) (.nil _))))) rfl
  refine Qg.pure (d := 90) (op := .move (.tmp 89)) (g := none) (v := .bool ((((((decide (((nd lvA 2).mode) = 384)) && (decide (((nd lvA 2).ts) = 9) && (decide (((nd lvA 2).tn) = 0) && true))) && true) && true) && true) && true)) (by kernel_rfl) (by kernel_rfl) (pv_move rfl) ?_
  refine Qg.split 53 [(98, .bool (((((((decide (((nd lvA 2).mode) = 384)) && (decide (((nd lvA 2).ts) = 9) && (decide (((nd lvA 2).tn) = 0) && true))) && true) && true) && true) && true) && (decide ((strOf ((nd lvB 2).data)) = ⟨#[97, 98, 99, 0, 0]⟩)))), (0, .bool false), (2, .pointer (some ⟨b8, 0, none⟩)), (9, .pointer (some ⟨b38, 0, none⟩))] [blk b38 (.cells #[.slice (some ⟨bl37, 0, none⟩) 3 c32, .int .u32 2] 25 (0, 0)), own 44 25 (some ⟨bl37, 0, none⟩) 3 c33 (flat lvB l34), dataI none G35 lvB l34, blk b30 (.cells #[.slice p24 0 c25, .int .u32 0] 25 (0, 0)), own 44 25 p24 0 c26 (flat [] l27), dataI none G28 [] l27, blk b23 (.cells #[.slice p17 0 c18, .int .u32 0] 25 (0, 0)), own 44 25 p17 0 c19 (flat [] l20), dataI none G21 [] l20, blk b16 (.cells #[.slice (some ⟨bl15, 0, none⟩) 3 c10, .int .u32 2] 25 (0, 0)), own 44 25 (some ⟨bl15, 0, none⟩) 3 c11 (flat lvA l12), dataI none G13 lvA l12, blk b8 (.cells #[.int .u32 9, .int .u32 0, .int .u8 0, .int .u8 0, .int .u8 0, .int .u8 0, .int .u8 0, .int .u8 0, .int .u8 0, .int .u8 0] 61 (0, 0)), blk b7 (.cells #[.slice p1 3 c2, .int .u32 2] 25 (0, 0)), own 44 25 p1 3 c3 (flat lvT l4), dataI none G5 lvT l4, base w (Low w)] (s := 90) (g := (((((decide (((nd lvA 2).mode) = 384)) && (decide (((nd lvA 2).ts) = 9) && (decide (((nd lvA 2).tn) = 0) && true))) && true) && true) && true) && true) rfl (by decide) (fun h31 => ?_) (fun h31 => ?_) ?_
  ·
   have ⟨h32, h33⟩ := and_t h31
   have ⟨h34, h35⟩ := and_t h32
   have ⟨h36, h37⟩ := and_t h34
   have ⟨h38, h39⟩ := and_t h36
   have ⟨h40, h41⟩ := and_t h38
   have h42 := of_decide_eq_true h40
   refine Qg.pure (d := 91) (op := .fieldAddr 25 (.tmp 9) 0) (g := some (44, true)) (v := .pointer (some ⟨b38, 0 + 0, none⟩)) (by kernel_rfl) (by kernel_rfl) (pv_fieldAddr rfl (n := 0) (by kernel_rfl)) ?_
   refine Qg.pure (d := 92) (op := .load 22 (.tmp 91)) (g := some (44, true)) (v := .slice (some ⟨bl37, 0, none⟩) 3 c32) (by kernel_rfl) (by kernel_rfl) (pv_load_blk 0 rfl rfl (by kernel_rfl) rfl) ?_
   refine Qg.pure (d := 93) (op := .indexAddr 22 (.tmp 92) (.const (.int .i64 2))) (g := some (44, true)) (v := .pointer (some ⟨bl37, 0 + (2 : Int).toNat * 25, none⟩)) (by kernel_rfl) (by kernel_rfl) (pv_indexAddr rfl rfl (e := 44) (sz := 25) (by kernel_rfl) (by omega) (by omega)) ?_
   refine Qg.pure (d := 94) (op := .fieldAddr 44 (.tmp 93) 9) (g := some (44, true)) (v := .pointer (some ⟨bl37, 0 + (2 : Int).toNat * 25 + 12, none⟩)) (by kernel_rfl) (by kernel_rfl) (pv_fieldAddr rfl (n := 12) (by kernel_rfl)) ?_
   refine Qg.pure (d := 95) (op := .load 29 (.tmp 94)) (g := some (44, true)) (v := .slice ((lc l34 2).dA) ((nd lvB 2).data.length) ((lc l34 2).dCap)) (by kernel_rfl) (by kernel_rfl) (pv_load_ownfield (ns := lvB) (al := l34) (i := 2) (f := 12) 1 rfl rfl (by omega) (by kernel_rfl) rfl) ?_
   refine Qg.pure (d := 96) (op := .convert 29 9 (.tmp 95)) (g := some (44, true)) (v := .string (strOf ((nd lvB 2).data))) (by kernel_rfl) (by kernel_rfl) (pv_convert_str (xs := (nd lvB 2).data) (e := 5) rfl (by kernel_rfl) (by kernel_rfl) (by kernel_rfl) (fun w hw => ((own_tree hw 1 2 rfl rfl (fun _ h => by cases h)).node 2 (by decide)).data) (by decide)) ?_
   refine Qg.pure (d := 97) (op := .binOp .eql 9 (.tmp 96) (.const (.string ⟨#[97, 98, 99, 0, 0]⟩)) 9) (g := some (44, true)) (v := .bool (decide ((strOf ((nd lvB 2).data)) = ⟨#[97, 98, 99, 0, 0]⟩))) (by kernel_rfl) (by kernel_rfl) (pv_eql_str rfl rfl) ?_
   refine Qg.pure (d := 98) (op := .pick (.tmp 90) (.tmp 97) (.const (.bool false))) (g := none) (v := .bool (decide ((strOf ((nd lvB 2).data)) = ⟨#[97, 98, 99, 0, 0]⟩))) (by kernel_rfl) (by kernel_rfl) (pv_pick_t rfl rfl) ?_
   exact Qg.mid (.cons (and_of_t h31 rfl) (.cons (rfl) (.cons (rfl) (.cons (rfl) (.nil _))))) rfl
  ·
   refine Qg.skips 52 (by kernel_rfl) ?_
   refine Qg.pure (d := 98) (op := .pick (.tmp 90) (.tmp 97) (.const (.bool false))) (g := none) (v := .bool false) (by kernel_rfl) (by kernel_rfl) (pv_pick_f rfl rfl) ?_
   exact Qg.mid (.cons (and_of_f h31 rfl) (.cons (rfl) (.cons (rfl) (.cons (rfl) (.nil _))))) rfl
  refine Qg.pure (d := 99) (op := .move (.tmp 98)) (g := none) (v := .bool (((((((decide (((nd lvA 2).mode) = 384)) && (decide (((nd lvA 2).ts) = 9) && (decide (((nd lvA 2).tn) = 0) && true))) && true) && true) && true) && true) && (decide ((strOf ((nd lvB 2).data)) = ⟨#[97, 98, 99, 0, 0]⟩)))) (by kernel_rfl) (by kernel_rfl) (pv_move rfl) ?_
  refine Qg.split 63 [(108, .bool ((((((((decide (((nd lvA 2).mode) = 384)) && (decide (((nd lvA 2).ts) = 9) && (decide (((nd lvA 2).tn) = 0) && true))) && true) && true) && true) && true) && (decide ((strOf ((nd lvB 2).data)) = ⟨#[97, 98, 99, 0, 0]⟩))) && (decide (((nd lvB 2).ws) = 9) && (decide (((nd lvB 2).wn) = 0) && true)))), (0, .bool false)] [blk b38 (.cells #[.slice (some ⟨bl37, 0, none⟩) 3 c32, .int .u32 2] 25 (0, 0)), own 44 25 (some ⟨bl37, 0, none⟩) 3 c33 (flat lvB l34), dataI none G35 lvB l34, blk b30 (.cells #[.slice p24 0 c25, .int .u32 0] 25 (0, 0)), own 44 25 p24 0 c26 (flat [] l27), dataI none G28 [] l27, blk b23 (.cells #[.slice p17 0 c18, .int .u32 0] 25 (0, 0)), own 44 25 p17 0 c19 (flat [] l20), dataI none G21 [] l20, blk b16 (.cells #[.slice (some ⟨bl15, 0, none⟩) 3 c10, .int .u32 2] 25 (0, 0)), own 44 25 (some ⟨bl15, 0, none⟩) 3 c11 (flat lvA l12), dataI none G13 lvA l12, blk b8 (.cells #[.int .u32 9, .int .u32 0, .int .u8 0, .int .u8 0, .int .u8 0, .int .u8 0, .int .u8 0, .int .u8 0, .int .u8 0, .int .u8 0] 61 (0, 0)), blk b7 (.cells #[.slice p1 3 c2, .int .u32 2] 25 (0, 0)), own 44 25 p1 3 c3 (flat lvT l4), dataI none G5 lvT l4, base w (Low w)] (s := 99) (g := ((((((decide (((nd lvA 2).mode) = 384)) && (decide (((nd lvA 2).ts) = 9) && (decide (((nd lvA 2).tn) = 0) && true))) && true) && true) && true) && true) && (decide ((strOf ((nd lvB 2).data)) = ⟨#[97, 98, 99, 0, 0]⟩))) rfl (by decide) (fun h43 => ?_) (fun h43 => ?_) ?_
  ·
   have ⟨h44, h45⟩ := and_t h43
   have ⟨h46, h47⟩ := and_t h44
   have ⟨h48, h49⟩ := and_t h46
   have ⟨h50, h51⟩ := and_t h48
   have ⟨h52, h53⟩ := and_t h50
   have ⟨h54, h55⟩ := and_t h52
   have h56 := of_decide_eq_true h54
   have h57 := of_decide_eq_true h45
   refine Qg.pure (d := 100) (op := .fieldAddr 25 (.tmp 9) 0) (g := some (53, true)) (v := .pointer (some ⟨b38, 0 + 0, none⟩)) (by kernel_rfl) (by kernel_rfl) (pv_fieldAddr rfl (n := 0) (by kernel_rfl)) ?_
   refine Qg.pure (d := 101) (op := .load 22 (.tmp 100)) (g := some (53, true)) (v := .slice (some ⟨bl37, 0, none⟩) 3 c32) (by kernel_rfl) (by kernel_rfl) (pv_load_blk 0 rfl rfl (by kernel_rfl) rfl) ?_
   refine Qg.pure (d := 102) (op := .indexAddr 22 (.tmp 101) (.const (.int .i64 2))) (g := some (53, true)) (v := .pointer (some ⟨bl37, 0 + (2 : Int).toNat * 25, none⟩)) (by kernel_rfl) (by kernel_rfl) (pv_indexAddr rfl rfl (e := 44) (sz := 25) (by kernel_rfl) (by omega) (by omega)) ?_
   refine Qg.pure (d := 103) (op := .fieldAddr 44 (.tmp 102) 7) (g := some (53, true)) (v := .pointer (some ⟨bl37, 0 + (2 : Int).toNat * 25 + 8, none⟩)) (by kernel_rfl) (by kernel_rfl) (pv_fieldAddr rfl (n := 8) (by kernel_rfl)) ?_
   refine Qg.pure (d := 104) (op := .load 36 (.tmp 103)) (g := some (53, true)) (v := .agg #[.int .u32 ((nd lvB 2).ws), .int .u32 ((nd lvB 2).wn)]) (by kernel_rfl) (by kernel_rfl) (pv_load_ownpart (ns := lvB) (al := l34) (i := 2) (f := 8) 1 rfl rfl (by omega) (by kernel_rfl) (by kernel_rfl) rfl rfl) ?_
   refine Qg.pure (d := 105) (op := .fieldAddr 61 (.tmp 2) 0) (g := some (53, true)) (v := .pointer (some ⟨b8, 0 + 0, none⟩)) (by kernel_rfl) (by kernel_rfl) (pv_fieldAddr rfl (n := 0) (by kernel_rfl)) ?_
   refine Qg.pure (d := 106) (op := .load 36 (.tmp 105)) (g := some (53, true)) (v := .agg #[.int .u32 9, .int .u32 0]) (by kernel_rfl) (by kernel_rfl) (pv_load_blk_agg 12 rfl rfl (vs := #[.int .u32 9, .int .u32 0]) (by kernel_rfl) (by kernel_rfl) (agg_rfl (by kernel_rfl))) ?_
   refine Qg.pure (d := 107) (op := .binOp .eql 36 (.tmp 104) (.tmp 106) 36) (g := some (53, true)) (v := .bool (decide (((nd lvB 2).ws) = 9) && (decide (((nd lvB 2).wn) = 0) && true))) (by kernel_rfl) (by kernel_rfl) (pv_eql_V (b := (decide (((nd lvB 2).ws) = 9) && (decide (((nd lvB 2).wn) = 0) && true))) rfl rfl (by kernel_rfl) (by kernel_rfl)) ?_
   refine Qg.pure (d := 108) (op := .pick (.tmp 99) (.tmp 107) (.const (.bool false))) (g := none) (v := .bool (decide (((nd lvB 2).ws) = 9) && (decide (((nd lvB 2).wn) = 0) && true))) (by kernel_rfl) (by kernel_rfl) (pv_pick_t rfl rfl) ?_
   exact Qg.mid (.cons (and_of_t h43 rfl) (.cons (rfl) (.nil _))) rfl
  ·
   refine Qg.skips 62 (by kernel_rfl) ?_
   refine Qg.pure (d := 108) (op := .pick (.tmp 99) (.tmp 107) (.const (.bool false))) (g := none) (v := .bool false) (by kernel_rfl) (by kernel_rfl) (pv_pick_f rfl rfl) ?_
   exact Qg.mid (.cons (and_of_f h43 rfl) (.cons (rfl) (.nil _))) rfl
  refine Qg.pure (d := 0) (op := .assign (.tmp 108)) (g := none) (v := .bool ((((((((decide (((nd lvA 2).mode) = 384)) && (decide (((nd lvA 2).ts) = 9) && (decide (((nd lvA 2).tn) = 0) && true))) && true) && true) && true) && true) && (decide ((strOf ((nd lvB 2).data)) = ⟨#[97, 98, 99, 0, 0]⟩))) && (decide (((nd lvB 2).ws) = 9) && (decide (((nd lvB 2).wn) = 0) && true)))) (by kernel_rfl) (by kernel_rfl) (pv_assign rfl) ?_
  exact Qg.mid (.cons rfl (.nil _)) rfl
 refine At.nx (fun _ _ h => h) [0] rfl ?_
 refine Ev.rt ?_
 refine At.via (Q := Q) hQ ?_
 refine At.ret1 rfl rfl rfl ?_
 exact fun w hw => ⟨(by rw [show ((((((((decide (((nd lvA 2).mode) = 384)) && (decide (((nd lvA 2).ts) = 9) && (decide (((nd lvA 2).tn) = 0) && true))) && true) && true) && true) && true) && (decide ((strOf ((nd lvB 2).data)) = ⟨#[97, 98, 99, 0, 0]⟩))) && (decide (((nd lvB 2).ws) = 9) && (decide (((nd lvB 2).wn) = 0) && true))) = true from by kernel_rfl]), hw.base_below 16 rfl⟩

end Go.Proofs.Ytfhhggcdmgjbcaa.Sx
