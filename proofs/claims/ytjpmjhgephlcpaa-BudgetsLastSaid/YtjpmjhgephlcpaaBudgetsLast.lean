/- Of each kind and period at most one budget stands: it counts, is not gone, and no other one that counts is later; and one stands for a kind if the last one is not gone. -/
import Derived.Test.YtjpmjhgephlcpaaChp1
set_option linter.unusedSimpArgs false
set_option linter.unusedVariables false
set_option linter.unnecessarySimpa false
namespace Go.Proofs.Ytjpmjhgephlcpaa
open Go Go.Sg
set_option maxRecDepth 100000
theorem budgetsLast_lifted (os : Os) (started : os.Started) (H : Type) (enc : TypeId × Value → H) :
    ReturnsInHanded {} Try.checked os 5 .any (Rows.budgetsLastSpec.pre6 enc Try.prog Try.f5 [] false) (Rows.budgetsLastSpec.post enc Try.prog Try.f5 false true false false) :=
  law_lifted (C := Try.checked) (tb := 4) own started (by kernel_rfl) Try.func5
    (ChangeSpec.witness6 (enc := enc) (C := Try.checked) false ⟨#[], #[.slice none 0 0, .int .i64 0, .int .i64 0, .int .i64 0], []⟩ 8 (by kernel_rfl) (by kernel_rfl) (by kernel_rfl) (by kernel_rfl))
    (by kernel_rfl) (by kernel_rfl) (by kernel_rfl) (by kernel_rfl) rfl (by kernel_rfl) (by kernel_rfl)
    (fun ds hds => by match ds, hds with | [_, _, _, _], _ => rfl)
    ((ArgR.cons aL (ArgR.cons aI (ArgR.cons aI (ArgR.cons aI ArgR.nil))))) (fun a ha => last_calls a.1 a.2.1 a.2.2.1 a.2.2.2.1)
theorem budgetsLast_holds : Rows.BudgetsLastSaid :=
  OpenClaim.holds_of_wide 5 Try.f5 rfl rfl rfl rfl rfl rfl rfl ⟨rfl, rfl, rfl, rfl, rfl⟩ rfl rfl rfl rfl rfl (by kernel_rfl) Try.func5 (by kernel_rfl)
    (of_decide_eq_true (by kernel_rfl)) (by unfold Func.isWrapper; first | (rw [if_pos (by decide +kernel)]; kernel_rfl) | (rw [if_neg (by decide +kernel)]; exact ⟨rfl, rfl⟩))
    (fun os started H enc _ => budgetsLast_lifted os started H enc)
end Go.Proofs.Ytjpmjhgephlcpaa
#print axioms Go.Proofs.Ytjpmjhgephlcpaa.budgetsLast_holds
