/-
  What NodesFound's walk gives, for every argument of a bulk of at most 1048576: it answers true, and its argument reads as it did.
-/
import Derived.Test.YtfhhggcdmgjbcaaT20
import Derived.Test.YtfhhggcdmgjbcaaL2
import Derived.Test.YtfhhggcdmgjbcaaOp
import Derived.WalkKit
import Derived.ProofKit
import Derived.OpenShut
import Derived.JoinedCond
namespace Go.Proofs.Ytfhhggcdmgjbcaa.nodesFound
open Go.ChangeShapes Go.WideShapes Go.RowKit

set_option maxRecDepth 100000 in
theorem contract (H : Type) (enc : TypeId × Value → H) (W : World) (base : Nat) (args : Array Value) (ds gs : List (DataW H)) (before : List MemPlace)
    (hval : ∀ (j : Nat) t v, Try.f3.params[j]? = some t → args[j]? = some v → Value.okWide Try.prog W .any base t v)
    (hW : DataW.Whole enc Try.prog Try.f3.params.toList Rows.nodesFoundSpec.vars false W args.toList ds gs before) (hk : Rows.uptoSmall H (ds ++ gs) = true) :
    Calls Try.prog 3 args W fun e W' => ∃ v, e = .returned v ∧ Rows.nodesFoundSpec.post enc Try.prog Try.f3 false true false false W args v W' := by
  have hW' := hW
  obtain ⟨p, q, hA0, hV, rfl, hfz, hnd⟩ := hW
  have hA : DataW.TrodAll enc Try.prog W 0 (fun _ => true) true [25] args.toList ds p := hA0
  obtain ⟨v0, vs0, d0, ds0, p0, q0, hargs, rfl, rfl, h0, r0⟩ := trodAll_cons hA
  obtain ⟨rfl, rfl, rfl⟩ := trodAll_nil r0
  obtain rfl : args = #[v0] := by cases args; simp_all
  obtain ⟨rfl, rfl⟩ := trodVars_none hV
  have hb : Sx.bulk d0 ≤ 1048576 := by
    have : Rows.uptoBulkAll ([d0] ++ []) ≤ 1048576 := by simpa [Rows.uptoSmall] using hk
    simpa [Rows.uptoBulkAll] using this
  obtain ⟨cs, hcs, hsz⟩ := okWide_struct (fs := Try.prog.fieldsOf 25) (by kernel_rfl) (hval 0 25 v0 (by kernel_rfl) rfl)
  subst hcs
  obtain ⟨n, hn⟩ := h0
  obtain ⟨a, ns, cap, gen, hc, hT, hN⟩ := Sx.tree_open hn hb
  obtain rfl : cs = #[.slice a ns.length cap, .int .u32 gen] := by
    cases cs; simp only [Value.cells] at hc; simpa using hc
  refine (Sx.NodesFound_walk hT hN (fun h => Sx.found_of hN h)).mono fun e W' ⟨he, hB⟩ => ?_
  subst he
  refine ⟨_, rfl, Sx.post_true (tb := 4) hW' rfl (kids_rows (by kernel_rfl) (by kernel_rfl)) (slices_full_of _ (by kernel_rfl)) ?_ rfl rfl rfl (by kernel_rfl) (by kernel_rfl) hB⟩
  intro t ht
  have : t = 25 := by simpa using (show t ∈ [25] from ht)
  subst this
  rw [← Nat.blt_eq]; kernel_rfl

end Go.Proofs.Ytfhhggcdmgjbcaa.nodesFound
