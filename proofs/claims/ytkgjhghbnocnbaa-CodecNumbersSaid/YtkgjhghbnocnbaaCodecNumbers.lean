/- For all two numbers, sizes lie between two and eleven, grow with the number, and numbers come back. -/
import Derived.Test.YtkgjhghbnocnbaaChp2
set_option linter.unusedSimpArgs false
set_option linter.unusedVariables false
set_option linter.unnecessarySimpa false
namespace Go.Proofs.Ytkgjhghbnocnbaa
open Go Go.Sg
set_option maxRecDepth 100000
theorem codecNumbers_lifted (os : Os) (started : os.Started) (H : Type) (enc : TypeId × Value → H) :
    ReturnsInHanded {} Try.checked os 9 .any (Rows.codecNumbersSpec.pre6 enc Try.prog Try.f9 [] false) (Rows.codecNumbersSpec.post enc Try.prog Try.f9 false true false false) :=
  law_lifted (C := Try.checked) (tb := 4) own started (by kernel_rfl) Try.func9
    (ChangeSpec.witness6 (enc := enc) (C := Try.checked) false ⟨#[], #[.int .i64 0, .int .i64 0], []⟩ 8 (by kernel_rfl) (by kernel_rfl) (by kernel_rfl) (by kernel_rfl))
    (by kernel_rfl) (by kernel_rfl) (by kernel_rfl) (by kernel_rfl) rfl (by kernel_rfl) (by kernel_rfl)
    (fun ds hds => by match ds, hds with | [_, _], _ => rfl)
    ((ArgR.cons aI (ArgR.cons aI ArgR.nil))) (fun a ha => numbers_calls a.1 a.2.1 (wf_i64 ha.1) (wf_i64 ha.2.1))
theorem codecNumbers_holds : Rows.CodecNumbersSaid :=
  OpenClaim.holds_of_wide 9 Try.f9 rfl rfl rfl rfl rfl rfl rfl ⟨rfl, rfl, rfl, rfl, rfl⟩ rfl rfl rfl rfl rfl (by kernel_rfl) Try.func9 (by kernel_rfl)
    (of_decide_eq_true (by kernel_rfl)) (by unfold Func.isWrapper; first | (rw [if_pos (by decide +kernel)]; kernel_rfl) | (rw [if_neg (by decide +kernel)]; exact ⟨rfl, rfl⟩))
    (fun os started H enc _ => codecNumbers_lifted os started H enc)
end Go.Proofs.Ytkgjhghbnocnbaa
#print axioms Go.Proofs.Ytkgjhghbnocnbaa.codecNumbers_holds
