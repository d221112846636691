/- what a stop and a restart leave -/
import Derived.Test.YtcfkbohjnghelaaChp0
set_option linter.unusedSimpArgs false
set_option linter.unusedVariables false
set_option linter.unnecessarySimpa false
namespace Go.Proofs.Ytcfkbohjnghelaa
open Go Go.Sg
set_option maxRecDepth 100000
theorem diskStopped_lifted (os : Os) (started : os.Started) (H : Type) (enc : TypeId × Value → H) :
    ReturnsInHanded {} Try.checked os 9 .any (Rows.diskStoppedSpec.pre6 enc Try.prog Try.f9 [] false) (Rows.diskStoppedSpec.post enc Try.prog Try.f9 false true false false) :=
  law_lifted (C := Try.checked) (tb := 4) own started (by kernel_rfl) Try.func9
    (ChangeSpec.witness6 (enc := enc) (C := Try.checked) false ⟨#[], #[.agg #[.slice none 0 0, .slice none 0 0, .int .i64 0, .bool false], .int .i64 0, .int .i64 0, .slice none 0 0], []⟩ 8 (by kernel_rfl) (by kernel_rfl) (by kernel_rfl) (by kernel_rfl))
    (by kernel_rfl) (by kernel_rfl) (by kernel_rfl) (by kernel_rfl) rfl (by kernel_rfl) (by kernel_rfl)
    (fun ds hds => by match ds, hds with | [_, _, _, _], _ => rfl)
    ((ArgR.cons aD (ArgR.cons aI (ArgR.cons aI (ArgR.cons aB ArgR.nil))))) (fun a ha => stopped_calls a.1 a.2.1 a.2.2.1 a.2.2.2.1 ha.1.rd)
theorem diskStopped_holds : Rows.DiskStoppedSaid :=
  OpenClaim.holds_of_wide 9 Try.f9 rfl rfl rfl rfl rfl rfl rfl ⟨rfl, rfl, rfl, rfl, rfl⟩ rfl rfl rfl rfl rfl (by kernel_rfl) Try.func9 (by kernel_rfl)
    (of_decide_eq_true (by kernel_rfl)) (by unfold Func.isWrapper; first | (rw [if_pos (by decide +kernel)]; kernel_rfl) | (rw [if_neg (by decide +kernel)]; exact ⟨rfl, rfl⟩))
    (fun os started H enc _ => diskStopped_lifted os started H enc)
end Go.Proofs.Ytcfkbohjnghelaa
#print axioms Go.Proofs.Ytcfkbohjnghelaa.diskStopped_holds
