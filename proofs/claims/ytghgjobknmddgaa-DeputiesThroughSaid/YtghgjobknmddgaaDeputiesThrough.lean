/- Who can act for somebody who can act for a third person can act for this one, if both chains together are short enough; and a chain for a greater value is not shorter. -/
import Derived.Test.YtghgjobknmddgaaChp1
set_option linter.unusedSimpArgs false
set_option linter.unusedVariables false
set_option linter.unnecessarySimpa false
namespace Go.Proofs.Ytghgjobknmddgaa
open Go Go.Sg
set_option maxRecDepth 100000
theorem deputiesThrough_lifted (os : Os) (started : os.Started) (H : Type) (enc : TypeId × Value → H) :
    ReturnsInHanded {} Try.checked os 7 .any (Rows.deputiesThroughSpec.pre6 enc Try.prog Try.f7 [] false) (Rows.deputiesThroughSpec.post enc Try.prog Try.f7 false true false false) :=
  law_lifted (C := Try.checked) (tb := 4) own started (by kernel_rfl) Try.func7
    (ChangeSpec.witness6 (enc := enc) (C := Try.checked) false ⟨#[], #[.slice none 0 0, .agg #[.int .i64 0, .int .i64 0, .int .i64 0, .int .i64 0, .int .i64 0, .int .i64 0, .int .i64 0], .int .i64 0, .int .u32 0], []⟩ 8 (by kernel_rfl) (by kernel_rfl) (by kernel_rfl) (by kernel_rfl))
    (by kernel_rfl) (by kernel_rfl) (by kernel_rfl) (by kernel_rfl) rfl (by kernel_rfl) (by kernel_rfl)
    (fun ds hds => by match ds, hds with | [_, _, _, _], _ => rfl)
    ((ArgR.cons aL (ArgR.cons aAk (ArgR.cons aI (ArgR.cons aU32 ArgR.nil))))) (fun a ha => through_calls a.1 a.2.1 a.2.2.1 a.2.2.2.1 (wf_u32 ha.2.2.2.1))
theorem deputiesThrough_holds : Rows.DeputiesThroughSaid :=
  OpenClaim.holds_of_wide 7 Try.f7 rfl rfl rfl rfl rfl rfl rfl ⟨rfl, rfl, rfl, rfl, rfl⟩ rfl rfl rfl rfl rfl (by kernel_rfl) Try.func7 (by kernel_rfl)
    (of_decide_eq_true (by kernel_rfl)) (by unfold Func.isWrapper; first | (rw [if_pos (by decide +kernel)]; kernel_rfl) | (rw [if_neg (by decide +kernel)]; exact ⟨rfl, rfl⟩))
    (fun os started H enc _ => deputiesThrough_lifted os started H enc)
end Go.Proofs.Ytghgjobknmddgaa
#print axioms Go.Proofs.Ytghgjobknmddgaa.deputiesThrough_holds
