/-
  What GuardKeeps's walk gives, for every argument of a bulk of at most 1048576: it answers true, and its argument reads as it did.
-/
import Derived.Test.YtfhhggcdmgjbcaaOp2
import Derived.WalkKit
import Derived.ProofKit
import Derived.OpenShut
import Derived.JoinedCond
namespace Go.Proofs.Ytfhhggcdmgjbcaa.guardKeeps
open Go.ChangeShapes Go.WideShapes Go.RowKit


set_option maxRecDepth 100000 in
theorem contract (H : Type) (enc : TypeId × Value → H) (W : World) (base : Nat) (args : Array Value) (ds gs : List (DataW H)) (before : List MemPlace)
    (hval : ∀ (j : Nat) t v, Try.f5.params[j]? = some t → args[j]? = some v → Value.okWide Try.prog W .any base t v)
    (hW : DataW.Whole enc Try.prog Try.f5.params.toList Rows.guardKeepsSpec.vars false W args.toList ds gs before) (hk : Rows.uptoSmall H (ds ++ gs) = true) :
    Calls Try.prog 5 args W fun e W' => ∃ v, e = .returned v ∧ Rows.guardKeepsSpec.post enc Try.prog Try.f5 false true false false W args v W' := by
  have hW' := hW
  obtain ⟨p, q, hA0, hV, rfl, hfz, hnd⟩ := hW
  have hA : DataW.TrodAll enc Try.prog W 0 (fun _ => true) true [63] args.toList ds p := hA0
  obtain ⟨v0, vs0, d0, ds0, p0, q0, hargs, rfl, rfl, h0, r0⟩ := trodAll_cons hA
  obtain ⟨rfl, rfl, rfl⟩ := trodAll_nil r0
  obtain rfl : args = #[v0] := by cases args; simp_all
  obtain ⟨rfl, rfl⟩ := trodVars_none hV
  have hball : Sx.bulk d0 ≤ 1048576 := by
    have : Rows.uptoBulkAll ([d0] ++ []) ≤ 1048576 := by simpa [Rows.uptoSmall] using hk
    simp only [List.append_nil, Rows.uptoBulkAll] at this
    show Rows.uptoBulk d0 ≤ 1048576
    omega
  obtain ⟨cs0, hcs0, hsz0⟩ := okWide_struct (fs := Try.prog.fieldsOf 63) (by kernel_rfl) (hval 0 63 v0 (by kernel_rfl) rfl)
  subst hcs0
  obtain ⟨n0, hn0⟩ := h0
  have hsz : (Value.agg cs0).cells.toList.length = 30 := by
    obtain ⟨_, _, _, _, hl_, _⟩ := DataW.trod_struct (fs := Try.prog.fieldsOf 63) (by kernel_rfl) hn0
    exact hl_.trans (show Try.prog.cellsOf 63 = 30 by kernel_rfl)
  obtain ⟨a, ns, al, cap, gen, n, c, pg, cg, s, nows, nown, bt, hc, hT, hN, hG, hgl, hS, ha, hb⟩ := Sx.setting_open hsz hn0 (show Sx.bulk d0 ≤ 1048576 by omega)
  obtain rfl : cs0 = #[.slice a ns.length cap, .int .u32 gen, .int .i64 n, .int .u32 c.user, .int .u32 c.group, .slice pg c.groups.length cg, .bool s.hm, .int .u32 s.mode, .bool s.hu, .int .u32 s.user, .bool s.hg, .int .u32 s.group, .bool s.hs, .int .u64 s.size, .int .u32 s.rh, .int .u32 s.rs, .int .u32 s.rn, .int .u32 s.wh, .int .u32 s.ws, .int .u32 s.wn, .int .u32 nows, .int .u32 nown, .int .u8 bt.a0, .int .u8 bt.a1, .int .u8 bt.a2, .int .u8 bt.a3, .int .u8 bt.a4, .int .u8 bt.a5, .int .u8 bt.a6, .int .u8 bt.a7] := by
    apply Array.toList_inj.1; exact hc
  refine (Sx.GuardKeeps_walk hT hN hG hgl hS.size (fun h he => Sx.gkeep_of hN hS ha hb h he)).mono fun e W' ⟨he, hB⟩ => ?_
  subst he
  refine ⟨_, rfl, Sx.post_true (tb := 4) hW' rfl (kids_rows (by kernel_rfl) (by kernel_rfl)) (slices_full_of _ (by kernel_rfl)) ?_ rfl rfl rfl (by kernel_rfl) (by kernel_rfl) hB⟩
  intro t ht
  have ht' : t ∈ [63] := ht
  simp only [List.mem_cons, List.not_mem_nil, or_false] at ht'
  subst ht'
  rw [← Nat.blt_eq]; kernel_rfl

end Go.Proofs.Ytfhhggcdmgjbcaa.guardKeeps
