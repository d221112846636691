/- what was written last is read -/
import Derived.Test.YtcfkbohjnghelaaChp1
set_option linter.unusedSimpArgs false
set_option linter.unusedVariables false
set_option linter.unnecessarySimpa false
namespace Go.Proofs.Ytcfkbohjnghelaa
open Go Go.Sg
set_option maxRecDepth 100000
theorem diskReads_lifted (os : Os) (started : os.Started) (H : Type) (enc : TypeId × Value → H) :
    ReturnsInHanded {} Try.checked os 7 .any (Rows.diskReadsSpec.pre6 enc Try.prog Try.f7 [] false) (Rows.diskReadsSpec.post enc Try.prog Try.f7 false true false false) :=
  law_lifted (C := Try.checked) (tb := 4) own started (by kernel_rfl) Try.func7
    (ChangeSpec.witness6 (enc := enc) (C := Try.checked) false ⟨#[], #[.agg #[.slice none 0 0, .slice none 0 0, .int .i64 0, .bool false], .int .i64 0, .int .i64 0, .slice none 0 0, .slice none 0 0], []⟩ 8 (by kernel_rfl) (by kernel_rfl) (by kernel_rfl) (by kernel_rfl))
    (by kernel_rfl) (by kernel_rfl) (by kernel_rfl) (by kernel_rfl) rfl (by kernel_rfl) (by kernel_rfl)
    (fun ds hds => by match ds, hds with | [_, _, _, _, _], _ => rfl)
    ((ArgR.cons aD (ArgR.cons aI (ArgR.cons aI (ArgR.cons aB (ArgR.cons aB ArgR.nil)))))) (fun a ha => reads_calls a.1 a.2.1 a.2.2.1 a.2.2.2.1 a.2.2.2.2.1 ha.1.rd)
theorem diskReads_holds : Rows.DiskReadsSaid :=
  OpenClaim.holds_of_wide 7 Try.f7 rfl rfl rfl rfl rfl rfl rfl ⟨rfl, rfl, rfl, rfl, rfl⟩ rfl rfl rfl rfl rfl (by kernel_rfl) Try.func7 (by kernel_rfl)
    (of_decide_eq_true (by kernel_rfl)) (by unfold Func.isWrapper; first | (rw [if_pos (by decide +kernel)]; kernel_rfl) | (rw [if_neg (by decide +kernel)]; exact ⟨rfl, rfl⟩))
    (fun os started H enc _ => diskReads_lifted os started H enc)
end Go.Proofs.Ytcfkbohjnghelaa
#print axioms Go.Proofs.Ytcfkbohjnghelaa.diskReads_holds
