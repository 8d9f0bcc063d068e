/-
  A part of the walk of the seat: laws of a small proof system, and contracts of functions, each proved. Conditions: as each theorem says.
-/
import Derived.Test.YtfhhggcdmgjbcaaProg
import Derived.Test.YtfhhggcdmgjbcaaCoreB
import Derived.Test.YtfhhggcdmgjbcaaT19
namespace Go.Proofs.Ytfhhggcdmgjbcaa.Sx
open Go Go.RowKit Go.Proofs

set_option maxHeartbeats 8000000 in
theorem ClipB_calls {p : Option Addr} {n c : Nat} {w : World} (hc : n ≤ c) :
  Calls Try.prog 89 #[.slice p n c] w (Ret w (.slice p n n)) := by
 refine calls_ofQ (args := [_]) [base w (Low w)] Try.func89 (by kernel_rfl) (by kernel_rfl) (Heap.start w) ?_
 intro Q hQ
 refine Ev.sr 1 ?_
 refine Rg.ac 2 (.slice none 0 0) ?_
 refine Rg.nx (fun _ _ h => h) [2,0] rfl ?_
 refine Ev.sr 7 ?_
 refine Rg.mv 3 0 rfl ?_
 refine Rg.mv 4 0 rfl ?_
 refine Rg.p 5 (.call { callee := .builtin .len, args := #[.tmp 4], argTypes := #[29] }) (pv_len_slice rfl (by kernel_rfl)) ?_
 refine Rg.mv 6 0 rfl ?_
 refine Rg.p 7 (.call { callee := .builtin .len, args := #[.tmp 6], argTypes := #[29] }) (pv_len_slice rfl (by kernel_rfl)) ?_
 refine Rg.p 8 (.slice 29 (.tmp 3) none (some (.tmp 5)) (some (.tmp 7))) (v := .slice p n n) (pv_slice_hmN rfl rfl rfl (e := 5) (sz := 1) (l := n) (m := n) (by kernel_rfl) (by omega) (by omega)) ?_
 refine Rg.as 2 8 rfl ?_
 refine Rg.nx (fun _ _ h => h) [2] rfl ?_
 refine Ev.rt ?_
 refine At.via (Q := Q) hQ ?_
 refine At.ret1 rfl rfl rfl ?_
 exact fun w hw => ⟨rfl, hw.base_below 0 rfl⟩

set_option maxHeartbeats 8000000 in
theorem ClipE_calls {p : Option Addr} {n c : Nat} {w : World} (hc : n ≤ c) :
  Calls Try.prog 119 #[.slice p n c] w (Ret w (.slice p n n)) := by
 refine calls_ofQ (args := [_]) [base w (Low w)] Try.func119 (by kernel_rfl) (by kernel_rfl) (Heap.start w) ?_
 intro Q hQ
 refine Ev.sr 1 ?_
 refine Rg.ac 2 (.slice none 0 0) ?_
 refine Rg.nx (fun _ _ h => h) [2,0] rfl ?_
 refine Ev.sr 7 ?_
 refine Rg.mv 3 0 rfl ?_
 refine Rg.mv 4 0 rfl ?_
 refine Rg.p 5 (.call { callee := .builtin .len, args := #[.tmp 4], argTypes := #[42] }) (pv_len_slice rfl (by kernel_rfl)) ?_
 refine Rg.mv 6 0 rfl ?_
 refine Rg.p 7 (.call { callee := .builtin .len, args := #[.tmp 6], argTypes := #[42] }) (pv_len_slice rfl (by kernel_rfl)) ?_
 refine Rg.p 8 (.slice 42 (.tmp 3) none (some (.tmp 5)) (some (.tmp 7))) (v := .slice p n n) (pv_slice_hmN rfl rfl rfl (e := 50) (sz := 3) (l := n) (m := n) (by kernel_rfl) (by omega) (by omega)) ?_
 refine Rg.as 2 8 rfl ?_
 refine Rg.nx (fun _ _ h => h) [2] rfl ?_
 refine Ev.rt ?_
 refine At.via (Q := Q) hQ ?_
 refine At.ret1 rfl rfl rfl ?_
 exact fun w hw => ⟨rfl, hw.base_below 0 rfl⟩

set_option maxHeartbeats 8000000 in
theorem ClipN_calls {p : Option Addr} {n c : Nat} {w : World} (hc : n ≤ c) :
  Calls Try.prog 93 #[.slice p n c] w (Ret w (.slice p n n)) := by
 refine calls_ofQ (args := [_]) [base w (Low w)] Try.func93 (by kernel_rfl) (by kernel_rfl) (Heap.start w) ?_
 intro Q hQ
 refine Ev.sr 1 ?_
 refine Rg.ac 2 (.slice none 0 0) ?_
 refine Rg.nx (fun _ _ h => h) [2,0] rfl ?_
 refine Ev.sr 7 ?_
 refine Rg.mv 3 0 rfl ?_
 refine Rg.mv 4 0 rfl ?_
 refine Rg.p 5 (.call { callee := .builtin .len, args := #[.tmp 4], argTypes := #[22] }) (pv_len_slice rfl (by kernel_rfl)) ?_
 refine Rg.mv 6 0 rfl ?_
 refine Rg.p 7 (.call { callee := .builtin .len, args := #[.tmp 6], argTypes := #[22] }) (pv_len_slice rfl (by kernel_rfl)) ?_
 refine Rg.p 8 (.slice 22 (.tmp 3) none (some (.tmp 5)) (some (.tmp 7))) (v := .slice p n n) (pv_slice_hmN rfl rfl rfl (e := 44) (sz := 25) (l := n) (m := n) (by kernel_rfl) (by omega) (by omega)) ?_
 refine Rg.as 2 8 rfl ?_
 refine Rg.nx (fun _ _ h => h) [2] rfl ?_
 refine Ev.rt ?_
 refine At.via (Q := Q) hQ ?_
 refine At.ret1 rfl rfl rfl ?_
 exact fun w hw => ⟨rfl, hw.base_below 0 rfl⟩

set_option maxHeartbeats 8000000 in
theorem CloneB_calls {p : Option Addr} {xs : List Int} {cap : Nat} {w : World} (hB : BytesAt (Low w) w p xs) (hl : xs.length ≤ 16777216) :
  Calls Try.prog 104 #[.slice p xs.length cap] w (RetN w (fun x : Option Addr × Nat => xs.length ≤ x.2) (fun x => .slice x.1 xs.length x.2) (fun x => [own 5 1 x.1 xs.length x.2 (bv xs)])) := by
 refine calls_ofQ (args := [_]) [base w (Low w)] Try.func104 (by kernel_rfl) (by kernel_rfl) (Heap.start w) ?_
 intro Q hQ
 refine Ev.sr 1 ?_
 refine Rg.ac 2 (.slice none 0 0) ?_
 refine Rg.nx (fun _ _ h => h) [2,0] rfl ?_
 refine Ev.sq ?_
 refine Ev.sr 2 ?_
 refine Rg.mv 3 0 rfl ?_
 refine Rg.p 4 (.binOp .eql 29 (.tmp 3) (.const (.slice none 0 0)) 29) (v := .bool p.isNone) (pv_eql_nilslice (p := p) rfl rfl (by kernel_rfl)) ?_
 refine Rg.nx (fun _ _ h => h) [4,2,0] rfl ?_
 refine Ev.cd 4 rfl (fun h1 => ?_) (fun h1 => ?_)
 ·
  refine Ev.sr 1 ?_
  refine Rg.ac 2 (.slice none 0 0) ?_
  refine Rg.nx (fun _ _ h => h) [2,0] rfl ?_
  refine Ev.rt ?_
  refine At.via (Q := Q) hQ ?_
  refine At.ret1 rfl rfl rfl ?_
  have h0_ := rows_none hB h1
  exact fun w hw => ⟨(none, 0), (Nat.le_of_eq h0_), (by show _ = Ending.returned (Value.slice none _ 0); rw [h0_]), (by rw [h0_, show xs = [] from List.length_eq_zero_iff.1 h0_]; exact (hw.ownNil 5 1).pick [0, 1] (by decide))⟩
 ·
  refine Ev.sk ?_
  refine At.nx (fun _ _ h => h) [2,0] rfl ?_
  refine Ev.sr 4 ?_
  refine rg_buildSlice0 (d := 5) (t := 29) (e := 5) (sz := 1) (g := none) (by kernel_rfl) (by kernel_rfl) (by kernel_rfl) ?_
  intro b1
  refine Rg.mv 6 0 rfl ?_
  refine rg_appendE (d := 7) (t := 29) (e := 5) (sz := 1) (x := .tmp 5) (y := .tmp 6) (ty := 29) (g := none) (m := xs.length) (ys := bv xs) (zv := .int .u8 0) 0 xs.length (bv xs) (by rw [Nat.zero_add]) (List.nil_append _) (by kernel_rfl) (by kernel_rfl) rfl rfl (by kernel_rfl) (by kernel_rfl) (by kernel_rfl) (by kernel_rfl) (by kernel_rfl) rfl rfl (by rw [bv_length, Nat.mul_one]) (bv_one _) (fun w hw => firstCells_bytes ((hB).keep (hw.at_ 1 rfl) (fun k hk => hw.lt 1 rfl hk))) (by show (2 * (0 + xs.length) + 192) * bytesT Try.prog 5 ≤ 281474976710656; rw [show bytesT Try.prog 5 = 1 from by kernel_rfl]; omega) (by kernel_rfl) ?_
  intro p3 c4 hc_c4 he_c4
  refine Rg.as 2 7 rfl ?_
  refine Rg.nx (fun _ _ h => h) [2] rfl ?_
  refine Ev.rt ?_
  refine At.via (Q := Q) hQ ?_
  refine At.ret1 rfl rfl rfl ?_
  exact fun w hw => ⟨(p3, c4), hc_c4, rfl, hw.pick [0, 1] (by decide)⟩

set_option maxHeartbeats 8000000 in
theorem CloneE_calls {p : Option Addr} {es : List Entry} {cap : Nat} {w : World} (hE : EntriesAt (Low w) w p es) (hl : es.length ≤ 4294967296) :
  Calls Try.prog 120 #[.slice p es.length cap] w (RetN w (fun x : Option Addr × Nat => es.length ≤ x.2) (fun x => .slice x.1 es.length x.2) (fun x => [own 50 3 x.1 es.length x.2 (flatE es)])) := by
 refine calls_ofQ (args := [_]) [base w (Low w)] Try.func120 (by kernel_rfl) (by kernel_rfl) (Heap.start w) ?_
 intro Q hQ
 refine Ev.sr 1 ?_
 refine Rg.ac 2 (.slice none 0 0) ?_
 refine Rg.nx (fun _ _ h => h) [2,0] rfl ?_
 refine Ev.sq ?_
 refine Ev.sr 2 ?_
 refine Rg.mv 3 0 rfl ?_
 refine Rg.p 4 (.binOp .eql 42 (.tmp 3) (.const (.slice none 0 0)) 42) (v := .bool p.isNone) (pv_eql_nilslice (p := p) rfl rfl (by kernel_rfl)) ?_
 refine Rg.nx (fun _ _ h => h) [4,2,0] rfl ?_
 refine Ev.cd 4 rfl (fun h1 => ?_) (fun h1 => ?_)
 ·
  refine Ev.sr 1 ?_
  refine Rg.ac 2 (.slice none 0 0) ?_
  refine Rg.nx (fun _ _ h => h) [2,0] rfl ?_
  refine Ev.rt ?_
  refine At.via (Q := Q) hQ ?_
  refine At.ret1 rfl rfl rfl ?_
  have h0_ := rows_none hE h1
  exact fun w hw => ⟨(none, 0), (Nat.le_of_eq h0_), (by show _ = Ending.returned (Value.slice none _ 0); rw [h0_]), (by rw [h0_, show es = [] from List.length_eq_zero_iff.1 h0_]; exact (hw.ownNil 50 3).pick [0, 1] (by decide))⟩
 ·
  refine Ev.sk ?_
  refine At.nx (fun _ _ h => h) [2,0] rfl ?_
  refine Ev.sr 4 ?_
  refine rg_buildSlice0 (d := 5) (t := 42) (e := 50) (sz := 3) (g := none) (by kernel_rfl) (by kernel_rfl) (by kernel_rfl) ?_
  intro b1
  refine Rg.mv 6 0 rfl ?_
  refine rg_appendE (d := 7) (t := 42) (e := 50) (sz := 3) (x := .tmp 5) (y := .tmp 6) (ty := 42) (g := none) (m := es.length) (ys := flatE es) (zv := .agg #[.string ⟨#[]⟩, .int .i64 0, .int .u64 0]) 0 es.length (flatE es) (by rw [Nat.zero_add]) (List.nil_append _) (by kernel_rfl) (by kernel_rfl) rfl rfl (by kernel_rfl) (by kernel_rfl) (by kernel_rfl) (by kernel_rfl) (by kernel_rfl) rfl rfl (flatE_len _) (flatE_one _) (fun w hw => firstCells_entries ((hE).keep (hw.at_ 1 rfl) (fun k hk => hw.lt 1 rfl hk))) (by show (2 * (0 + es.length) + 192) * bytesT Try.prog 50 ≤ 281474976710656; rw [show bytesT Try.prog 50 = 32 from by kernel_rfl]; omega) (by kernel_rfl) ?_
  intro p3 c4 hc_c4 he_c4
  refine Rg.as 2 7 rfl ?_
  refine Rg.nx (fun _ _ h => h) [2] rfl ?_
  refine Ev.rt ?_
  refine At.via (Q := Q) hQ ?_
  refine At.ret1 rfl rfl rfl ?_
  exact fun w hw => ⟨(p3, c4), hc_c4, rfl, hw.pick [0, 1] (by decide)⟩

set_option maxHeartbeats 8000000 in
theorem CloneN_calls {p : Option Addr} {ns : List Node} {al : List Loc} {cap : Nat} {w : World} (hT : NodesAt (Low w) w p ns al) (hl : ns.length ≤ 4294967296) :
  Calls Try.prog 137 #[.slice p ns.length cap] w (RetN w (fun x : Option Addr × Nat => ns.length ≤ x.2) (fun x => .slice x.1 ns.length x.2) (fun x => [own 44 25 x.1 ns.length x.2 (flat ns al)])) := by
 refine calls_ofQ (args := [_]) [base w (Low w)] Try.func137 (by kernel_rfl) (by kernel_rfl) (Heap.start w) ?_
 intro Q hQ
 refine Ev.sr 1 ?_
 refine Rg.ac 2 (.slice none 0 0) ?_
 refine Rg.nx (fun _ _ h => h) [2,0] rfl ?_
 refine Ev.sq ?_
 refine Ev.sr 2 ?_
 refine Rg.mv 3 0 rfl ?_
 refine Rg.p 4 (.binOp .eql 22 (.tmp 3) (.const (.slice none 0 0)) 22) (v := .bool p.isNone) (pv_eql_nilslice (p := p) rfl rfl (by kernel_rfl)) ?_
 refine Rg.nx (fun _ _ h => h) [4,2,0] rfl ?_
 refine Ev.cd 4 rfl (fun h1 => ?_) (fun h1 => ?_)
 ·
  refine Ev.sr 1 ?_
  refine Rg.ac 2 (.slice none 0 0) ?_
  refine Rg.nx (fun _ _ h => h) [2,0] rfl ?_
  refine Ev.rt ?_
  refine At.via (Q := Q) hQ ?_
  refine At.ret1 rfl rfl rfl ?_
  have h0_ := rows_none hT.rows h1
  exact fun w hw => ⟨(none, 0), (Nat.le_of_eq h0_), (by show _ = Ending.returned (Value.slice none _ 0); rw [h0_]), (by rw [h0_, show ns = [] from List.length_eq_zero_iff.1 h0_]; exact (hw.ownNil 44 25).pick [0, 1] (by decide))⟩
 ·
  refine Ev.sk ?_
  refine At.nx (fun _ _ h => h) [2,0] rfl ?_
  refine Ev.sr 4 ?_
  refine rg_buildSlice0 (d := 5) (t := 22) (e := 44) (sz := 25) (g := none) (by kernel_rfl) (by kernel_rfl) (by kernel_rfl) ?_
  intro b1
  refine Rg.mv 6 0 rfl ?_
  refine rg_appendE (d := 7) (t := 22) (e := 44) (sz := 25) (x := .tmp 5) (y := .tmp 6) (ty := 22) (g := none) (m := ns.length) (ys := flat ns al) (zv := .agg #[.int .u32 0, .int .u32 0, .int .u32 0, .int .u32 0, .int .u32 0, .int .i64 0, .int .u32 0, .int .u32 0, .int .u32 0, .int .u32 0, .int .u32 0, .int .u32 0, .slice none 0 0, .int .u8 0, .int .u8 0, .int .u8 0, .int .u8 0, .int .u8 0, .int .u8 0, .int .u8 0, .int .u8 0, .string ⟨#[]⟩, .slice none 0 0, .int .i64 0, .int .u64 0]) 0 ns.length (flat ns al) (by rw [Nat.zero_add]) (List.nil_append _) (by kernel_rfl) (by kernel_rfl) rfl rfl (by kernel_rfl) (by kernel_rfl) (by kernel_rfl) (by kernel_rfl) (by kernel_rfl) rfl rfl (flat_length _ _) (flat_one _ _) (fun w hw => firstCells_nodes (hT.keep (hw.at_ 1 rfl) (fun _ h => h))) (by show (2 * (0 + ns.length) + 192) * bytesT Try.prog 44 ≤ 281474976710656; rw [show bytesT Try.prog 44 = 144 from by kernel_rfl]; omega) (by kernel_rfl) ?_
  intro p3 c4 hc_c4 he_c4
  refine Rg.as 2 7 rfl ?_
  refine Rg.nx (fun _ _ h => h) [2] rfl ?_
  refine Ev.rt ?_
  refine At.via (Q := Q) hQ ?_
  refine At.ret1 rfl rfl rfl ?_
  exact fun w hw => ⟨(p3, c4), hc_c4, rfl, hw.pick [0, 1] (by decide)⟩

end Go.Proofs.Ytfhhggcdmgjbcaa.Sx
