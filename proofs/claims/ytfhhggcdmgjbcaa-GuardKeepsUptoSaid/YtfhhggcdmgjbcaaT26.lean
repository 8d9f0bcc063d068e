/-
  A part of the walk of the seat: laws of a small proof system, and contracts of functions, each proved. Conditions: as each theorem says.
-/
import Derived.Test.YtfhhggcdmgjbcaaProg
import Derived.Test.YtfhhggcdmgjbcaaT25
import Derived.Test.YtfhhggcdmgjbcaaT22
namespace Go.Proofs.Ytfhhggcdmgjbcaa.Sx
open Go Go.RowKit Go.Proofs

set_option maxHeartbeats 8000000 in
theorem set1_calls {told : Bool} {v : Int} {b o n cc : Nat} {xs : List Value} (ho : o + 1 ≤ xs.length) {w0 w : World} {fr : Item} (h : Heap w0 [own 44 25 (some ⟨b, 0, none⟩) n cc xs, fr] w) :
  Calls Try.prog 72 #[.bool told, .pointer (some ⟨b, o, none⟩), .int .u32 v] w (RetM w0 (fun _ : Unit => True) (fun _ => .bool told) (fun _ => [own 44 25 (some ⟨b, 0, none⟩) n cc (cond told (putL xs o [.int .u32 v]) xs)]) fr) := by
 refine calls_ofQ (args := [_, _, _]) [own 44 25 (some ⟨b, 0, none⟩) n cc xs, fr] Try.func72 (by kernel_rfl) (by kernel_rfl) h ?_
 intro Q hQ
 refine Ev.sr 1 ?_
 refine Rg.ac 6 (.bool false) ?_
 refine Rg.nx (fun _ _ h => h) [6,2,1,0] rfl ?_
 refine Ev.sq ?_
 refine Ev.sr 1 ?_
 refine Rg.mv 7 0 rfl ?_
 refine Rg.nx (fun _ _ h => h) [7,6,2,1,0] rfl ?_
 refine Ev.cd 7 rfl (fun h1 => ?_) (fun h1 => ?_)
 ·
  refine Ev.rg 4 ?_
  refine Rg.mv 8 1 rfl ?_
  refine Rg.mv 9 2 rfl ?_
  refine Rg.p 10 (.nilCheck (.tmp 8)) (pv_nilCheck rfl) ?_
  refine rg_store_ownV (t := 23) (x := .tmp 10) (y := .tmp 9) (g := none) (xs' := putL xs o (.int .u32 v : Value).cells.toList) 0 (by kernel_rfl) (by kernel_rfl) rfl rfl rfl (by kernel_rfl) (by kernel_rfl) ho rfl ?_
  refine Rg.nx (fun _ _ h => h) [6,0] rfl ?_
  refine Ev.sr 2 ?_
  refine Rg.mv 11 0 rfl ?_
  refine Rg.as 6 11 rfl ?_
  refine Rg.nx (fun _ _ h => h) [6] rfl ?_
  refine Ev.rt ?_
  refine At.via (Q := Q) hQ ?_
  refine At.ret1 rfl rfl rfl ?_
  exact fun w hw => ⟨(), trivial, rfl, by rw [h1]; exact hw.pick [0, 1] (by decide)⟩
 ·
  refine Ev.sk ?_
  refine At.nx (fun _ _ h => h) [6,0] rfl ?_
  refine Ev.sr 2 ?_
  refine Rg.mv 11 0 rfl ?_
  refine Rg.as 6 11 rfl ?_
  refine Rg.nx (fun _ _ h => h) [6] rfl ?_
  refine Ev.rt ?_
  refine At.via (Q := Q) hQ ?_
  refine At.ret1 rfl rfl rfl ?_
  exact fun w hw => ⟨(), trivial, rfl, by rw [h1]; exact hw.pick [0, 1] (by decide)⟩

set_option maxHeartbeats 8000000 in
theorem set2_calls {told : Bool} {v u : Int} {b o n cc : Nat} {xs : List Value} (ho : o + 2 ≤ xs.length) {w0 w : World} {fr : Item} (h : Heap w0 [own 44 25 (some ⟨b, 0, none⟩) n cc xs, fr] w) :
  Calls Try.prog 76 #[.bool told, .pointer (some ⟨b, o, none⟩), .agg #[.int .u32 v, .int .u32 u]] w (RetM w0 (fun _ : Unit => True) (fun _ => .bool told) (fun _ => [own 44 25 (some ⟨b, 0, none⟩) n cc (cond told (putL xs o [.int .u32 v, .int .u32 u]) xs)]) fr) := by
 refine calls_ofQ (args := [_, _, _]) [own 44 25 (some ⟨b, 0, none⟩) n cc xs, fr] Try.func76 (by kernel_rfl) (by kernel_rfl) h ?_
 intro Q hQ
 refine Ev.sr 2 ?_
 refine Rg.bx 5 36 (.tmp 2) rfl fun b1 => ?_
 refine Rg.ac 6 (.bool false) ?_
 refine Rg.nx (fun _ _ h => h) [6,5,1,0] rfl ?_
 refine Ev.sq ?_
 refine Ev.sr 1 ?_
 refine Rg.mv 7 0 rfl ?_
 refine Rg.nx (fun _ _ h => h) [7,6,5,1,0] rfl ?_
 refine Ev.cd 7 rfl (fun h1 => ?_) (fun h1 => ?_)
 ·
  refine Ev.rg 4 ?_
  refine Rg.mv 8 1 rfl ?_
  refine Rg.p 9 (.load 36 (.tmp 5)) (v := .agg #[.int .u32 v, .int .u32 u]) (pv_load_blk_whole 0 rfl rfl (by kernel_rfl) (by kernel_rfl)) ?_
  refine Rg.p 10 (.nilCheck (.tmp 8)) (pv_nilCheck rfl) ?_
  refine rg_store_ownV (t := 36) (x := .tmp 10) (y := .tmp 9) (g := none) (xs' := putL xs o (.agg #[.int .u32 v, .int .u32 u] : Value).cells.toList) 1 (by kernel_rfl) (by kernel_rfl) rfl rfl rfl (by kernel_rfl) (by kernel_rfl) ho rfl ?_
  refine Rg.nx (fun _ _ h => h) [6,0] rfl ?_
  refine Ev.sr 2 ?_
  refine Rg.mv 11 0 rfl ?_
  refine Rg.as 6 11 rfl ?_
  refine Rg.nx (fun _ _ h => h) [6] rfl ?_
  refine Ev.rt ?_
  refine At.via (Q := Q) hQ ?_
  refine At.ret1 rfl rfl rfl ?_
  exact fun w hw => ⟨(), trivial, rfl, by rw [h1]; exact hw.pick [1, 2] (by decide)⟩
 ·
  refine Ev.sk ?_
  refine At.nx (fun _ _ h => h) [6,0] rfl ?_
  refine Ev.sr 2 ?_
  refine Rg.mv 11 0 rfl ?_
  refine Rg.as 6 11 rfl ?_
  refine Rg.nx (fun _ _ h => h) [6] rfl ?_
  refine Ev.rt ?_
  refine At.via (Q := Q) hQ ?_
  refine At.ret1 rfl rfl rfl ?_
  exact fun w hw => ⟨(), trivial, rfl, by rw [h1]; exact hw.pick [1, 2] (by decide)⟩

section
variable {told : Bool} {v u : Int} {b k f n cc : Nat} {ns : List Node} {l : List Loc} {m n' : Node} {a : Loc} {w0 w : World} {fr : Item}
theorem setF_calls (hk : k < ns.length) (hl : l.length = ns.length) (hf : f + 1 ≤ 25) (hn : (n'.cells a).toList = putL (m.cells a).toList f [.int .u32 v]) (h : Heap w0 [own 44 25 (some ⟨b, 0, none⟩) n cc (flat (ns.set k m) (l.set k a)), fr] w) :
    Calls Try.prog 72 #[.bool told, .pointer (some ⟨b, 0 + k * 25 + f, none⟩), .int .u32 v] w (RetM w0 (fun _ : Unit => True) (fun _ => .bool told) (fun _ => [own 44 25 (some ⟨b, 0, none⟩) n cc (flat (ns.set k (cond told n' m)) (l.set k a))]) fr) := by
  refine (set1_calls (told := told) (v := v) (o := 0 + k * 25 + f) (by rw [flat_length, List.length_set]; omega) h).mono ?_
  rintro e w' ⟨t, h1, h2, h3⟩
  refine ⟨t, h1, h2, ?_⟩
  rw [show 0 + k * 25 + f = k * 25 + f by omega, flat_putK (a' := a) hk hl hf hn] at h3
  cases told <;> exact h3
theorem setT_calls (hk : k < ns.length) (hl : l.length = ns.length) (hf : f + 2 ≤ 25) (hn : (n'.cells a).toList = putL (m.cells a).toList f [.int .u32 v, .int .u32 u]) (h : Heap w0 [own 44 25 (some ⟨b, 0, none⟩) n cc (flat (ns.set k m) (l.set k a)), fr] w) :
    Calls Try.prog 76 #[.bool told, .pointer (some ⟨b, 0 + k * 25 + f, none⟩), .agg #[.int .u32 v, .int .u32 u]] w (RetM w0 (fun _ : Unit => True) (fun _ => .bool told) (fun _ => [own 44 25 (some ⟨b, 0, none⟩) n cc (flat (ns.set k (cond told n' m)) (l.set k a))]) fr) := by
  refine (set2_calls (told := told) (v := v) (u := u) (o := 0 + k * 25 + f) (by rw [flat_length, List.length_set]; omega) h).mono ?_
  rintro e w' ⟨t, h1, h2, h3⟩
  refine ⟨t, h1, h2, ?_⟩
  rw [show 0 + k * 25 + f = k * 25 + f by omega, flat_putK (a' := a) hk hl hf hn] at h3
  cases told <;> exact h3
end

def deed1 (s : SetD) (n : Node) : Node := cond s.hm ({ n with mode := s.mode } : Node) n
def deed2 (s : SetD) (n : Node) : Node := cond s.hu ({ n with user := s.user } : Node) n
def deed3 (s : SetD) (n : Node) : Node := cond s.hg ({ n with group := s.group } : Node) n

set_option maxHeartbeats 8000000 in
theorem deed1_calls {s : SetD} {b8 b18 bl n cc k : Nat} {ns : List Node} {l : List Loc} {m : Node} {a : Loc} (hk_ : k < ns.length) (hl_ : l.length = ns.length) {w0 w : World} {fr : Item} (h : Heap w0 [blk b8 (.cells (s.cells) 59 (0, 0)), blk b18 (.cells #[.pointer (some ⟨bl, 0 + k * 25, none⟩)] 147 (0, 0)), own 44 25 (some ⟨bl, 0, none⟩) n cc (flat (ns.set k m) (l.set k a)), fr] w) :
  Calls Try.prog 71 #[.pointer (some ⟨b8, 0, none⟩), .pointer (some ⟨b18, 0, none⟩)] w (RetM w0 (fun _ : Unit => True) (fun _ => .bool s.hm) (fun _ => [blk b8 (.cells (s.cells) 59 (0, 0)), blk b18 (.cells #[.pointer (some ⟨bl, 0 + k * 25, none⟩)] 147 (0, 0)), own 44 25 (some ⟨bl, 0, none⟩) n cc (flat (ns.set k (deed1 s m)) (l.set k a))]) fr) := by
 refine calls_ofQ (args := [_, _]) [blk b8 (.cells (s.cells) 59 (0, 0)), blk b18 (.cells #[.pointer (some ⟨bl, 0 + k * 25, none⟩)] 147 (0, 0)), own 44 25 (some ⟨bl, 0, none⟩) n cc (flat (ns.set k m) (l.set k a)), fr] Try.func71 (by kernel_rfl) (by kernel_rfl) h ?_
 intro Q hQ
 refine Ev.sr 1 ?_
 refine Rg.ac 2 (.bool false) ?_
 refine Rg.nx (fun _ _ h => h) [2,1,0] rfl ?_
 refine Ev.sq ?_
 refine Ev.ke [1,0] rfl ?_
 refine ev_csl (n := 9) (E := [(0, .pointer (some ⟨b8, 0, none⟩)), (1, .pointer (some ⟨b18, 0, none⟩))]) ⟨9, 5, [[0], [0, 1], [2], [2, 3], [2, 3, 4], [5], [5, 6], [0, 1, 2, 3, 4, 5, 6, 7], [0, 1, 2, 3, 4, 5, 6, 7, 8]], [[], [0], [], [2], [3], [], [5], [1, 4, 6], [7]], [none, none, none, none, some 7], [none, none, some 7, none, none], [[], [0], [1], [], [], [], [0], [], []]⟩ (fun ch j => ([.pointer (some ⟨b8, 0 + 0, none⟩), .bool s.hm, .pointer (some ⟨bl, 0 + k * 25, none⟩), .pointer (some ⟨bl, 0 + k * 25, none⟩), .pointer (some ⟨bl, 0 + k * 25 + 2, none⟩), .pointer (some ⟨b8, 0 + 1, none⟩), .int .u32 s.mode, .bool s.hm, .bool s.hm] : List Value).getD j undef) (fun ch t => ([blk b8 (.cells (s.cells) 59 (0, 0)), blk b18 (.cells #[.pointer (some ⟨bl, 0 + k * 25, none⟩)] 147 (0, 0)), own 44 25 (some ⟨bl, 0, none⟩) n cc (flat (ns.set k m) (l.set k a)), fr, own 44 25 (some ⟨bl, 0, none⟩) n cc (flat (ns.set k (cond s.hm ({ m with mode := s.mode } : Node) m)) (l.set k a))] : List Item).getD t noItem) (by kernel_rfl) (by kernel_rfl) (fun ch => by kernel_rfl) ?_ ?_
 ·
  refine all_lt_succ (all_lt_succ (all_lt_succ (all_lt_succ (all_lt_succ (all_lt_succ (all_lt_succ (all_lt_succ (all_lt_succ all_lt_zero ?_) ?_) ?_) ?_) ?_) ?_) ?_) ?_) ?_
  ·
   intro ch R F
   refine csl_go [] [] ?_
   refine Rg.fa 3 59 0 0 0 rfl ?_
   exact csl_end {}
  ·
   intro ch R F
   refine csl_go [(3, .pointer (some ⟨b8, 0 + 0, none⟩))] [blk b8 (.cells (s.cells) 59 (0, 0))] ?_
   refine Rg.ld 4 4 3 0 rfl rfl rfl ?_
   exact csl_end {}
  ·
   intro ch R F
   refine csl_go [] [blk b18 (.cells #[.pointer (some ⟨bl, 0 + k * 25, none⟩)] 147 (0, 0))] ?_
   refine Rg.ld 5 147 1 0 rfl rfl rfl ?_
   exact csl_end {}
  ·
   intro ch R F
   refine csl_go [(5, .pointer (some ⟨bl, 0 + k * 25, none⟩))] [] ?_
   refine Rg.p 6 (.nilCheck (.tmp 5)) (pv_nilCheck rfl) ?_
   exact csl_end {}
  ·
   intro ch R F
   refine csl_go [(6, .pointer (some ⟨bl, 0 + k * 25, none⟩))] [] ?_
   refine Rg.fa 7 44 6 2 2 rfl ?_
   exact csl_end {}
  ·
   intro ch R F
   refine csl_go [] [] ?_
   refine Rg.fa 8 59 0 1 1 rfl ?_
   exact csl_end {}
  ·
   intro ch R F
   refine csl_go [(8, .pointer (some ⟨b8, 0 + 1, none⟩))] [blk b8 (.cells (s.cells) 59 (0, 0))] ?_
   refine Rg.ld 9 23 8 0 rfl rfl rfl ?_
   exact csl_end {}
  ·
   intro ch R F
   refine csl_go [(4, .bool s.hm), (7, .pointer (some ⟨bl, 0 + k * 25 + 2, none⟩)), (9, .int .u32 s.mode)] [own 44 25 (some ⟨bl, 0, none⟩) n cc (flat (ns.set k m) (l.set k a))] ?_
   refine rg_callM (T := Unit) (d := some 10) (f := 72) (fo := .func 72) (fs := #[]) (caps := #[]) (xs := #[.tmp 4, .tmp 7, .tmp 9]) (ts := #[4, 149, 23]) (g := none) (v := fun _ => .bool s.hm) (L := fun _ => [own 44 25 (some ⟨bl, 0, none⟩) n cc (flat (ns.set k (cond s.hm ({ m with mode := s.mode } : Node) m)) (l.set k a))]) [own 44 25 (some ⟨bl, 0, none⟩) n cc (flat (ns.set k m) (l.set k a))] ([] ++ F) (by kernel_rfl) (by kernel_rfl) rfl (by kernel_rfl) rfl (fun w hw => hw) (fun w fr_ hw => setF_calls (told := s.hm) (n' := ({ m with mode := s.mode } : Node)) (m := m) hk_ hl_ (by decide) (by kernel_rfl) hw) ?_
   rintro _ _
   dsimp only [putE, List.append, HAppend.hAppend, Append.append]
   exact csl_end {}
  ·
   intro ch R F
   refine csl_go [(10, .bool s.hm)] [] ?_
   refine Rg.as 2 10 rfl ?_
   exact csl_end {}
 ·
  intro ch
  refine at_codeS [0, 1, 2, 3] [(2, .bool s.hm)] [blk b8 (.cells (s.cells) 59 (0, 0)), blk b18 (.cells #[.pointer (some ⟨bl, 0 + k * 25, none⟩)] 147 (0, 0)), fr, own 44 25 (some ⟨bl, 0, none⟩) n cc (flat (ns.set k (cond s.hm ({ m with mode := s.mode } : Node) m)) (l.set k a))] (.cons (by kernel_rfl) (.nil _)) (by kernel_rfl) (by decide) (fun _ _ h => h) ?_
  refine Ev.rt ?_
  refine At.via (Q := Q) hQ ?_
  refine At.ret1 rfl rfl rfl ?_
  exact fun w hw => ⟨(), trivial, rfl, hw.pick [0, 1, 3, 2] (by decide)⟩

set_option maxHeartbeats 8000000 in
theorem deed2_calls {s : SetD} {b8 b18 bl n cc k : Nat} {ns : List Node} {l : List Loc} {m : Node} {a : Loc} (hk_ : k < ns.length) (hl_ : l.length = ns.length) {w0 w : World} {fr : Item} (h : Heap w0 [blk b8 (.cells (s.cells) 59 (0, 0)), blk b18 (.cells #[.pointer (some ⟨bl, 0 + k * 25, none⟩)] 147 (0, 0)), own 44 25 (some ⟨bl, 0, none⟩) n cc (flat (ns.set k m) (l.set k a)), fr] w) :
  Calls Try.prog 73 #[.pointer (some ⟨b8, 0, none⟩), .pointer (some ⟨b18, 0, none⟩)] w (RetM w0 (fun _ : Unit => True) (fun _ => .bool s.hu) (fun _ => [blk b8 (.cells (s.cells) 59 (0, 0)), blk b18 (.cells #[.pointer (some ⟨bl, 0 + k * 25, none⟩)] 147 (0, 0)), own 44 25 (some ⟨bl, 0, none⟩) n cc (flat (ns.set k (deed2 s m)) (l.set k a))]) fr) := by
 refine calls_ofQ (args := [_, _]) [blk b8 (.cells (s.cells) 59 (0, 0)), blk b18 (.cells #[.pointer (some ⟨bl, 0 + k * 25, none⟩)] 147 (0, 0)), own 44 25 (some ⟨bl, 0, none⟩) n cc (flat (ns.set k m) (l.set k a)), fr] Try.func73 (by kernel_rfl) (by kernel_rfl) h ?_
 intro Q hQ
 refine Ev.sr 1 ?_
 refine Rg.ac 2 (.bool false) ?_
 refine Rg.nx (fun _ _ h => h) [2,1,0] rfl ?_
 refine Ev.sq ?_
 refine Ev.ke [1,0] rfl ?_
 refine ev_csl (n := 9) (E := [(0, .pointer (some ⟨b8, 0, none⟩)), (1, .pointer (some ⟨b18, 0, none⟩))]) ⟨9, 5, [[0], [0, 1], [2], [2, 3], [2, 3, 4], [5], [5, 6], [0, 1, 2, 3, 4, 5, 6, 7], [0, 1, 2, 3, 4, 5, 6, 7, 8]], [[], [0], [], [2], [3], [], [5], [1, 4, 6], [7]], [none, none, none, none, some 7], [none, none, some 7, none, none], [[], [0], [1], [], [], [], [0], [], []]⟩ (fun ch j => ([.pointer (some ⟨b8, 0 + 2, none⟩), .bool s.hu, .pointer (some ⟨bl, 0 + k * 25, none⟩), .pointer (some ⟨bl, 0 + k * 25, none⟩), .pointer (some ⟨bl, 0 + k * 25 + 3, none⟩), .pointer (some ⟨b8, 0 + 3, none⟩), .int .u32 s.user, .bool s.hu, .bool s.hu] : List Value).getD j undef) (fun ch t => ([blk b8 (.cells (s.cells) 59 (0, 0)), blk b18 (.cells #[.pointer (some ⟨bl, 0 + k * 25, none⟩)] 147 (0, 0)), own 44 25 (some ⟨bl, 0, none⟩) n cc (flat (ns.set k m) (l.set k a)), fr, own 44 25 (some ⟨bl, 0, none⟩) n cc (flat (ns.set k (cond s.hu ({ m with user := s.user } : Node) m)) (l.set k a))] : List Item).getD t noItem) (by kernel_rfl) (by kernel_rfl) (fun ch => by kernel_rfl) ?_ ?_
 ·
  refine all_lt_succ (all_lt_succ (all_lt_succ (all_lt_succ (all_lt_succ (all_lt_succ (all_lt_succ (all_lt_succ (all_lt_succ all_lt_zero ?_) ?_) ?_) ?_) ?_) ?_) ?_) ?_) ?_
  ·
   intro ch R F
   refine csl_go [] [] ?_
   refine Rg.fa 3 59 0 2 2 rfl ?_
   exact csl_end {}
  ·
   intro ch R F
   refine csl_go [(3, .pointer (some ⟨b8, 0 + 2, none⟩))] [blk b8 (.cells (s.cells) 59 (0, 0))] ?_
   refine Rg.ld 4 4 3 0 rfl rfl rfl ?_
   exact csl_end {}
  ·
   intro ch R F
   refine csl_go [] [blk b18 (.cells #[.pointer (some ⟨bl, 0 + k * 25, none⟩)] 147 (0, 0))] ?_
   refine Rg.ld 5 147 1 0 rfl rfl rfl ?_
   exact csl_end {}
  ·
   intro ch R F
   refine csl_go [(5, .pointer (some ⟨bl, 0 + k * 25, none⟩))] [] ?_
   refine Rg.p 6 (.nilCheck (.tmp 5)) (pv_nilCheck rfl) ?_
   exact csl_end {}
  ·
   intro ch R F
   refine csl_go [(6, .pointer (some ⟨bl, 0 + k * 25, none⟩))] [] ?_
   refine Rg.fa 7 44 6 3 3 rfl ?_
   exact csl_end {}
  ·
   intro ch R F
   refine csl_go [] [] ?_
   refine Rg.fa 8 59 0 3 3 rfl ?_
   exact csl_end {}
  ·
   intro ch R F
   refine csl_go [(8, .pointer (some ⟨b8, 0 + 3, none⟩))] [blk b8 (.cells (s.cells) 59 (0, 0))] ?_
   refine Rg.ld 9 23 8 0 rfl rfl rfl ?_
   exact csl_end {}
  ·
   intro ch R F
   refine csl_go [(4, .bool s.hu), (7, .pointer (some ⟨bl, 0 + k * 25 + 3, none⟩)), (9, .int .u32 s.user)] [own 44 25 (some ⟨bl, 0, none⟩) n cc (flat (ns.set k m) (l.set k a))] ?_
   refine rg_callM (T := Unit) (d := some 10) (f := 72) (fo := .func 72) (fs := #[]) (caps := #[]) (xs := #[.tmp 4, .tmp 7, .tmp 9]) (ts := #[4, 149, 23]) (g := none) (v := fun _ => .bool s.hu) (L := fun _ => [own 44 25 (some ⟨bl, 0, none⟩) n cc (flat (ns.set k (cond s.hu ({ m with user := s.user } : Node) m)) (l.set k a))]) [own 44 25 (some ⟨bl, 0, none⟩) n cc (flat (ns.set k m) (l.set k a))] ([] ++ F) (by kernel_rfl) (by kernel_rfl) rfl (by kernel_rfl) rfl (fun w hw => hw) (fun w fr_ hw => setF_calls (told := s.hu) (n' := ({ m with user := s.user } : Node)) (m := m) hk_ hl_ (by decide) (by kernel_rfl) hw) ?_
   rintro _ _
   dsimp only [putE, List.append, HAppend.hAppend, Append.append]
   exact csl_end {}
  ·
   intro ch R F
   refine csl_go [(10, .bool s.hu)] [] ?_
   refine Rg.as 2 10 rfl ?_
   exact csl_end {}
 ·
  intro ch
  refine at_codeS [0, 1, 2, 3] [(2, .bool s.hu)] [blk b8 (.cells (s.cells) 59 (0, 0)), blk b18 (.cells #[.pointer (some ⟨bl, 0 + k * 25, none⟩)] 147 (0, 0)), fr, own 44 25 (some ⟨bl, 0, none⟩) n cc (flat (ns.set k (cond s.hu ({ m with user := s.user } : Node) m)) (l.set k a))] (.cons (by kernel_rfl) (.nil _)) (by kernel_rfl) (by decide) (fun _ _ h => h) ?_
  refine Ev.rt ?_
  refine At.via (Q := Q) hQ ?_
  refine At.ret1 rfl rfl rfl ?_
  exact fun w hw => ⟨(), trivial, rfl, hw.pick [0, 1, 3, 2] (by decide)⟩

set_option maxHeartbeats 8000000 in
theorem deed3_calls {s : SetD} {b8 b18 bl n cc k : Nat} {ns : List Node} {l : List Loc} {m : Node} {a : Loc} (hk_ : k < ns.length) (hl_ : l.length = ns.length) {w0 w : World} {fr : Item} (h : Heap w0 [blk b8 (.cells (s.cells) 59 (0, 0)), blk b18 (.cells #[.pointer (some ⟨bl, 0 + k * 25, none⟩)] 147 (0, 0)), own 44 25 (some ⟨bl, 0, none⟩) n cc (flat (ns.set k m) (l.set k a)), fr] w) :
  Calls Try.prog 74 #[.pointer (some ⟨b8, 0, none⟩), .pointer (some ⟨b18, 0, none⟩)] w (RetM w0 (fun _ : Unit => True) (fun _ => .bool s.hg) (fun _ => [blk b8 (.cells (s.cells) 59 (0, 0)), blk b18 (.cells #[.pointer (some ⟨bl, 0 + k * 25, none⟩)] 147 (0, 0)), own 44 25 (some ⟨bl, 0, none⟩) n cc (flat (ns.set k (deed3 s m)) (l.set k a))]) fr) := by
 refine calls_ofQ (args := [_, _]) [blk b8 (.cells (s.cells) 59 (0, 0)), blk b18 (.cells #[.pointer (some ⟨bl, 0 + k * 25, none⟩)] 147 (0, 0)), own 44 25 (some ⟨bl, 0, none⟩) n cc (flat (ns.set k m) (l.set k a)), fr] Try.func74 (by kernel_rfl) (by kernel_rfl) h ?_
 intro Q hQ
 refine Ev.sr 1 ?_
 refine Rg.ac 2 (.bool false) ?_
 refine Rg.nx (fun _ _ h => h) [2,1,0] rfl ?_
 refine Ev.sq ?_
 refine Ev.ke [1,0] rfl ?_
 refine ev_csl (n := 9) (E := [(0, .pointer (some ⟨b8, 0, none⟩)), (1, .pointer (some ⟨b18, 0, none⟩))]) ⟨9, 5, [[0], [0, 1], [2], [2, 3], [2, 3, 4], [5], [5, 6], [0, 1, 2, 3, 4, 5, 6, 7], [0, 1, 2, 3, 4, 5, 6, 7, 8]], [[], [0], [], [2], [3], [], [5], [1, 4, 6], [7]], [none, none, none, none, some 7], [none, none, some 7, none, none], [[], [0], [1], [], [], [], [0], [], []]⟩ (fun ch j => ([.pointer (some ⟨b8, 0 + 4, none⟩), .bool s.hg, .pointer (some ⟨bl, 0 + k * 25, none⟩), .pointer (some ⟨bl, 0 + k * 25, none⟩), .pointer (some ⟨bl, 0 + k * 25 + 4, none⟩), .pointer (some ⟨b8, 0 + 5, none⟩), .int .u32 s.group, .bool s.hg, .bool s.hg] : List Value).getD j undef) (fun ch t => ([blk b8 (.cells (s.cells) 59 (0, 0)), blk b18 (.cells #[.pointer (some ⟨bl, 0 + k * 25, none⟩)] 147 (0, 0)), own 44 25 (some ⟨bl, 0, none⟩) n cc (flat (ns.set k m) (l.set k a)), fr, own 44 25 (some ⟨bl, 0, none⟩) n cc (flat (ns.set k (cond s.hg ({ m with group := s.group } : Node) m)) (l.set k a))] : List Item).getD t noItem) (by kernel_rfl) (by kernel_rfl) (fun ch => by kernel_rfl) ?_ ?_
 ·
  refine all_lt_succ (all_lt_succ (all_lt_succ (all_lt_succ (all_lt_succ (all_lt_succ (all_lt_succ (all_lt_succ (all_lt_succ all_lt_zero ?_) ?_) ?_) ?_) ?_) ?_) ?_) ?_) ?_
  ·
   intro ch R F
   refine csl_go [] [] ?_
   refine Rg.fa 3 59 0 4 4 rfl ?_
   exact csl_end {}
  ·
   intro ch R F
   refine csl_go [(3, .pointer (some ⟨b8, 0 + 4, none⟩))] [blk b8 (.cells (s.cells) 59 (0, 0))] ?_
   refine Rg.ld 4 4 3 0 rfl rfl rfl ?_
   exact csl_end {}
  ·
   intro ch R F
   refine csl_go [] [blk b18 (.cells #[.pointer (some ⟨bl, 0 + k * 25, none⟩)] 147 (0, 0))] ?_
   refine Rg.ld 5 147 1 0 rfl rfl rfl ?_
   exact csl_end {}
  ·
   intro ch R F
   refine csl_go [(5, .pointer (some ⟨bl, 0 + k * 25, none⟩))] [] ?_
   refine Rg.p 6 (.nilCheck (.tmp 5)) (pv_nilCheck rfl) ?_
   exact csl_end {}
  ·
   intro ch R F
   refine csl_go [(6, .pointer (some ⟨bl, 0 + k * 25, none⟩))] [] ?_
   refine Rg.fa 7 44 6 4 4 rfl ?_
   exact csl_end {}
  ·
   intro ch R F
   refine csl_go [] [] ?_
   refine Rg.fa 8 59 0 5 5 rfl ?_
   exact csl_end {}
  ·
   intro ch R F
   refine csl_go [(8, .pointer (some ⟨b8, 0 + 5, none⟩))] [blk b8 (.cells (s.cells) 59 (0, 0))] ?_
   refine Rg.ld 9 23 8 0 rfl rfl rfl ?_
   exact csl_end {}
  ·
   intro ch R F
   refine csl_go [(4, .bool s.hg), (7, .pointer (some ⟨bl, 0 + k * 25 + 4, none⟩)), (9, .int .u32 s.group)] [own 44 25 (some ⟨bl, 0, none⟩) n cc (flat (ns.set k m) (l.set k a))] ?_
   refine rg_callM (T := Unit) (d := some 10) (f := 72) (fo := .func 72) (fs := #[]) (caps := #[]) (xs := #[.tmp 4, .tmp 7, .tmp 9]) (ts := #[4, 149, 23]) (g := none) (v := fun _ => .bool s.hg) (L := fun _ => [own 44 25 (some ⟨bl, 0, none⟩) n cc (flat (ns.set k (cond s.hg ({ m with group := s.group } : Node) m)) (l.set k a))]) [own 44 25 (some ⟨bl, 0, none⟩) n cc (flat (ns.set k m) (l.set k a))] ([] ++ F) (by kernel_rfl) (by kernel_rfl) rfl (by kernel_rfl) rfl (fun w hw => hw) (fun w fr_ hw => setF_calls (told := s.hg) (n' := ({ m with group := s.group } : Node)) (m := m) hk_ hl_ (by decide) (by kernel_rfl) hw) ?_
   rintro _ _
   dsimp only [putE, List.append, HAppend.hAppend, Append.append]
   exact csl_end {}
  ·
   intro ch R F
   refine csl_go [(10, .bool s.hg)] [] ?_
   refine Rg.as 2 10 rfl ?_
   exact csl_end {}
 ·
  intro ch
  refine at_codeS [0, 1, 2, 3] [(2, .bool s.hg)] [blk b8 (.cells (s.cells) 59 (0, 0)), blk b18 (.cells #[.pointer (some ⟨bl, 0 + k * 25, none⟩)] 147 (0, 0)), fr, own 44 25 (some ⟨bl, 0, none⟩) n cc (flat (ns.set k (cond s.hg ({ m with group := s.group } : Node) m)) (l.set k a))] (.cons (by kernel_rfl) (.nil _)) (by kernel_rfl) (by decide) (fun _ _ h => h) ?_
  refine Ev.rt ?_
  refine At.via (Q := Q) hQ ?_
  refine At.ret1 rfl rfl rfl ?_
  exact fun w hw => ⟨(), trivial, rfl, hw.pick [0, 1, 3, 2] (by decide)⟩

end Go.Proofs.Ytfhhggcdmgjbcaa.Sx
