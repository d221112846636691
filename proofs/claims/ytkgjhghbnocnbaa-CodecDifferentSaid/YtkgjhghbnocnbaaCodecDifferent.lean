/- For all two values, different values have encodings of which neither begins with the other. -/
import Derived.Test.YtkgjhghbnocnbaaChp2
set_option linter.unusedSimpArgs false
set_option linter.unusedVariables false
set_option linter.unnecessarySimpa false
namespace Go.Proofs.Ytkgjhghbnocnbaa
open Go Go.Sg
set_option maxRecDepth 100000
theorem codecDifferent_lifted (os : Os) (started : os.Started) (H : Type) (enc : TypeId × Value → H) :
    ReturnsInHanded {} Try.checked os 7 .any (Rows.codecDifferentSpec.pre6 enc Try.prog Try.f7 [] false) (Rows.codecDifferentSpec.post enc Try.prog Try.f7 false true false false) :=
  law_lifted (C := Try.checked) (tb := 4) own started (by kernel_rfl) Try.func7
    (ChangeSpec.witness6 (enc := enc) (C := Try.checked) false ⟨#[], #[.agg #[.int .i64 0, .int .i64 0, .string ⟨#[]⟩, .slice none 0 0], .agg #[.int .i64 0, .int .i64 0, .string ⟨#[]⟩, .slice none 0 0]], []⟩ 8 (by kernel_rfl) (by kernel_rfl) (by kernel_rfl) (by kernel_rfl))
    (by kernel_rfl) (by kernel_rfl) (by kernel_rfl) (by kernel_rfl) rfl (by kernel_rfl) (by kernel_rfl)
    (fun ds hds => by match ds, hds with | [_, _], _ => rfl)
    ((ArgR.cons aV (ArgR.cons aV ArgR.nil))) (fun a ha => different_calls a.1 a.2.1 ha.1 ha.2.1)
theorem codecDifferent_holds : Rows.CodecDifferentSaid :=
  OpenClaim.holds_of_wide 7 Try.f7 rfl rfl rfl rfl rfl rfl rfl ⟨rfl, rfl, rfl, rfl, rfl⟩ rfl rfl rfl rfl rfl (by kernel_rfl) Try.func7 (by kernel_rfl)
    (of_decide_eq_true (by kernel_rfl)) (by unfold Func.isWrapper; first | (rw [if_pos (by decide +kernel)]; kernel_rfl) | (rw [if_neg (by decide +kernel)]; exact ⟨rfl, rfl⟩))
    (fun os started H enc _ => codecDifferent_lifted os started H enc)
end Go.Proofs.Ytkgjhghbnocnbaa
#print axioms Go.Proofs.Ytkgjhghbnocnbaa.codecDifferent_holds
