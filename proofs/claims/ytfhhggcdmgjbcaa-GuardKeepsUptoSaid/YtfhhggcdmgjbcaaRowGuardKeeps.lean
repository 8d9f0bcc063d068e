/-
  The statement GuardKeepsUptoSaid is proved: at every argument of a bulk of at most 1048576 GuardKeeps answers true. Conditions: the statement's own.
-/
import Derived.Test.YtfhhggcdmgjbcaaRowGuardKeepsa
import Derived.WalkKit
import Derived.ProofKit
import Derived.JoinedCond
import Derived.Test.YtfhhggcdmgjbcaaChecked
namespace Go.Proofs.Ytfhhggcdmgjbcaa.guardKeeps
open Go.ChangeShapes Go.WideShapes Go.RowKit

theorem own : ownKnob Try.prog.godebug = none := by kernel_rfl

set_option maxRecDepth 100000 in
theorem lifted (os : Os) (started : os.Started) (H : Type) (enc : TypeId × Value → H) (F : Stop.Interp) :
    ReturnsInHanded {} Try.checked os 5 .any ((Rows.OpenSpec.upto Rows.guardKeepsSpec).pre6 enc Try.prog Try.f5 Rows.guardKeepsUptoRow.domain false) (((Rows.OpenSpec.upto Rows.guardKeepsSpec).at F).post enc Try.prog Try.f5 false true false false) := by
  refine returnsInHanded_of_cond (C := Try.checked) (s := Rows.OpenSpec.upto Rows.guardKeepsSpec) (k := Rows.uptoSmall) rfl own started (by kernel_rfl) Try.func5
    (OpenSpec.witness (enc := enc) (C := Try.checked) (s := Rows.OpenSpec.upto Rows.guardKeepsSpec) (k := Rows.uptoSmall) rfl false ⟨#[], #[.agg #[.slice none 0 0, .int .u32 0, .int .i64 0, .int .u32 0, .int .u32 0, .slice none 0 0, .bool false, .int .u32 0, .bool false, .int .u32 0, .bool false, .int .u32 0, .bool false, .int .u64 0, .int .u32 0, .int .u32 0, .int .u32 0, .int .u32 0, .int .u32 0, .int .u32 0, .int .u32 0, .int .u32 0, .int .u8 0, .int .u8 0, .int .u8 0, .int .u8 0, .int .u8 0, .int .u8 0, .int .u8 0, .int .u8 0]], []⟩ 8 (by kernel_rfl) (by kernel_rfl) (by kernel_rfl)
      (x := ([.agg [.agg [.nil, .lit (.int .u32 0)], .lit (.int .i64 0), .agg [.lit (.int .u32 0), .lit (.int .u32 0), .nil], .agg [.lit (.bool false), .lit (.int .u32 0), .lit (.bool false), .lit (.int .u32 0), .lit (.bool false), .lit (.int .u32 0), .lit (.bool false), .lit (.int .u64 0), .lit (.int .u32 0), .agg [.lit (.int .u32 0), .lit (.int .u32 0)], .lit (.int .u32 0), .agg [.lit (.int .u32 0), .lit (.int .u32 0)]], .agg [.agg [.lit (.int .u32 0), .lit (.int .u32 0)], .agg [.lit (.int .u8 0), .lit (.int .u8 0), .lit (.int .u8 0), .lit (.int .u8 0), .lit (.int .u8 0), .lit (.int .u8 0), .lit (.int .u8 0), .lit (.int .u8 0)]]]], [], [])) (by kernel_rfl) rfl (by kernel_rfl)) ?_
  intro W base args ds gs before hval hW _ hk _
  exact contract H enc W base args ds gs before hval hW hk

theorem over : Rows.guardKeepsUptoRow.holds Try.pinned (Rows.OpenSpec.upto Rows.guardKeepsSpec) :=
  OpenClaim.holds_of_cond 5 Try.f5 rfl rfl rfl rfl rfl rfl rfl ⟨rfl, rfl, rfl, rfl, rfl⟩ rfl rfl rfl rfl rfl (by kernel_rfl) Try.func5 (by kernel_rfl)
    (of_decide_eq_true (by kernel_rfl)) (by unfold Func.isWrapper; first | (rw [if_pos (by decide +kernel)]; kernel_rfl) | (rw [if_neg (by decide +kernel)]; exact ⟨rfl, rfl⟩))
    (fun os started H enc _ F => lifted os started H enc F)

theorem proved : Rows.GuardKeepsUptoSaid :=
  over
end Go.Proofs.Ytfhhggcdmgjbcaa.guardKeeps
#print axioms Go.Proofs.Ytfhhggcdmgjbcaa.guardKeeps.proved
