/- If documents are signed one after the other, each only if there is room, then in each period of each budget at most its count of them are signed, with at most its value together. -/
import Derived.Test.YtjpmjhgephlcpaaChp2
set_option linter.unusedSimpArgs false
set_option linter.unusedVariables false
set_option linter.unnecessarySimpa false
namespace Go.Proofs.Ytjpmjhgephlcpaa
open Go Go.Sg
set_option maxRecDepth 100000
theorem budgetsNever_lifted (os : Os) (started : os.Started) (H : Type) (enc : TypeId × Value → H) :
    ReturnsInHanded {} Try.checked os 6 .any (Rows.budgetsNeverSpec.pre6 enc Try.prog Try.f6 [] false) (Rows.budgetsNeverSpec.post enc Try.prog Try.f6 false true false false) :=
  law_lifted (C := Try.checked) (tb := 4) own started (by kernel_rfl) Try.func6
    (ChangeSpec.witness6 (enc := enc) (C := Try.checked) false ⟨#[], #[.slice none 0 0, .slice none 0 0], []⟩ 8 (by kernel_rfl) (by kernel_rfl) (by kernel_rfl) (by kernel_rfl))
    (by kernel_rfl) (by kernel_rfl) (by kernel_rfl) (by kernel_rfl) rfl (by kernel_rfl) (by kernel_rfl)
    (fun ds hds => by match ds, hds with | [_, _], _ => rfl)
    ((ArgR.cons aL (ArgR.cons aAk ArgR.nil))) (fun a ha => never_calls a.1 a.2.1 ha.2.1.ok)
theorem budgetsNever_holds : Rows.BudgetsNeverSaid :=
  OpenClaim.holds_of_wide 6 Try.f6 rfl rfl rfl rfl rfl rfl rfl ⟨rfl, rfl, rfl, rfl, rfl⟩ rfl rfl rfl rfl rfl (by kernel_rfl) Try.func6 (by kernel_rfl)
    (of_decide_eq_true (by kernel_rfl)) (by unfold Func.isWrapper; first | (rw [if_pos (by decide +kernel)]; kernel_rfl) | (rw [if_neg (by decide +kernel)]; exact ⟨rfl, rfl⟩))
    (fun os started H enc _ => budgetsNever_lifted os started H enc)
end Go.Proofs.Ytjpmjhgephlcpaa
#print axioms Go.Proofs.Ytjpmjhgephlcpaa.budgetsNever_holds
