/-
  What NodesSpoil's walk gives, for every argument of a bulk of at most 1048576: it answers true, and its argument reads as it did.
-/
import Derived.Test.YtfhhggcdmgjbcaaL3
import Derived.Test.YtfhhggcdmgjbcaaOp
import Derived.WalkKit
import Derived.ProofKit
import Derived.OpenShut
import Derived.JoinedCond
namespace Go.Proofs.Ytfhhggcdmgjbcaa.nodesSpoil
open Go.ChangeShapes Go.WideShapes Go.RowKit


set_option maxRecDepth 100000 in
theorem contract (H : Type) (enc : TypeId × Value → H) (W : World) (base : Nat) (args : Array Value) (ds gs : List (DataW H)) (before : List MemPlace)
    (hval : ∀ (j : Nat) t v, Try.f4.params[j]? = some t → args[j]? = some v → Value.okWide Try.prog W .any base t v)
    (hW : DataW.Whole enc Try.prog Try.f4.params.toList Rows.nodesSpoilSpec.vars false W args.toList ds gs before) (hk : Rows.uptoSmall H (ds ++ gs) = true) :
    Calls Try.prog 4 args W fun e W' => ∃ v, e = .returned v ∧ Rows.nodesSpoilSpec.post enc Try.prog Try.f4 false true false false W args v W' := by
  have hW' := hW
  obtain ⟨p, q, hA0, hV, rfl, hfz, hnd⟩ := hW
  have hA : DataW.TrodAll enc Try.prog W 0 (fun _ => true) true [25, 52, 5] args.toList ds p := hA0
  obtain ⟨v0, vs0, d0, ds0, p0, q0, hargs, rfl, rfl, h0, r0⟩ := trodAll_cons hA
  obtain ⟨v1, vs1, d1, ds1, p1, q1, rfl, rfl, rfl, h1, r1⟩ := trodAll_cons r0
  obtain ⟨v2, vs2, d2, ds2, p2, q2, rfl, rfl, rfl, h2, r2⟩ := trodAll_cons r1
  obtain ⟨rfl, rfl, rfl⟩ := trodAll_nil r2
  obtain rfl : args = #[v0, v1, v2] := by cases args; simp_all
  obtain ⟨rfl, rfl⟩ := trodVars_none hV
  have hball : Sx.bulk d0 + Sx.bulk d1 + Sx.bulk d2 ≤ 1048576 := by
    have : Rows.uptoBulkAll ([d0, d1, d2] ++ []) ≤ 1048576 := by simpa [Rows.uptoSmall] using hk
    simp only [List.append_nil, Rows.uptoBulkAll] at this
    show Rows.uptoBulk d0 + Rows.uptoBulk d1 + Rows.uptoBulk d2 ≤ 1048576
    omega
  obtain ⟨cs0, hcs0, hsz0⟩ := okWide_struct (fs := Try.prog.fieldsOf 25) (by kernel_rfl) (hval 0 25 v0 (by kernel_rfl) rfl)
  subst hcs0
  obtain ⟨n0, hn0⟩ := h0
  obtain ⟨a, ns, al, cap, gen, hc, hT, hN, hG, hcap⟩ := Sx.tree_open hn0 (show Sx.bulk d0 ≤ 1048576 by omega)
  obtain rfl : cs0 = #[.slice a ns.length cap, .int .u32 gen] := by cases cs0; simp only [Value.cells] at hc; simpa using hc
  obtain ⟨at_, rfl⟩ := okWide_int (k := .u16) (by kernel_rfl) (hval 1 52 v1 (by kernel_rfl) rfl)
  obtain ⟨n1, hn1⟩ := h1
  obtain ⟨z1, hz1, _, wz1⟩ := DataW.trod_int (k := .u16) (by kernel_rfl) hn1
  obtain rfl : at_ = z1 := by simpa [Value.cells] using hz1
  have wz1 : 0 ≤ at_ ∧ at_ ≤ 65535 := by simpa [Lit.wf, IntKind.min, IntKind.max, IntKind.signed, IntKind.bits] using wz1
  obtain ⟨how, rfl⟩ := okWide_int (k := .u8) (by kernel_rfl) (hval 2 5 v2 (by kernel_rfl) rfl)
  obtain ⟨n2, hn2⟩ := h2
  obtain ⟨z2, hz2, _, wz2⟩ := DataW.trod_int (k := .u8) (by kernel_rfl) hn2
  obtain rfl : how = z2 := by simpa [Value.cells] using hz2
  have wz2 : 0 ≤ how ∧ how ≤ 255 := by simpa [Lit.wf, IntKind.min, IntKind.max, IntKind.signed, IntKind.bits] using wz2
  refine (Sx.NodesSpoil_walk hT hN wz1.1 wz1.2 wz2.1 (fun h => Sx.spoil_of h)).mono fun e W' ⟨he, hB⟩ => ?_
  subst he
  refine ⟨_, rfl, Sx.post_true (tb := 4) hW' rfl (kids_rows (by kernel_rfl) (by kernel_rfl)) (slices_full_of _ (by kernel_rfl)) ?_ rfl rfl rfl (by kernel_rfl) (by kernel_rfl) hB⟩
  intro t ht
  have ht' : t ∈ [25, 52, 5] := ht
  simp only [List.mem_cons, List.not_mem_nil, or_false] at ht'
  rcases ht' with rfl | rfl | rfl
  · rw [← Nat.blt_eq]; kernel_rfl
  · rw [← Nat.blt_eq]; kernel_rfl
  · rw [← Nat.blt_eq]; kernel_rfl

end Go.Proofs.Ytfhhggcdmgjbcaa.nodesSpoil
