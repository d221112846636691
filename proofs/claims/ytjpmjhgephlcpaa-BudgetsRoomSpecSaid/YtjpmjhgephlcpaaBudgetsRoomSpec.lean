/- Standing and Room of the budgets match the specification, for all arguments. -/
import Derived.Test.YtjpmjhgephlcpaaChp1
set_option linter.unusedSimpArgs false
set_option linter.unusedVariables false
set_option linter.unnecessarySimpa false
namespace Go.Proofs.Ytjpmjhgephlcpaa
open Go Go.Sg
set_option maxRecDepth 100000
theorem budgetsRoomSpec_lifted (os : Os) (started : os.Started) (H : Type) (enc : TypeId × Value → H) :
    ReturnsInHanded {} Try.checked os 4 .any (Rows.budgetsRoomSpecSpec.pre6 enc Try.prog Try.f4 [] false) (Rows.budgetsRoomSpecSpec.post enc Try.prog Try.f4 false true false false) :=
  law_lifted (C := Try.checked) (tb := 4) own started (by kernel_rfl) Try.func4
    (ChangeSpec.witness6 (enc := enc) (C := Try.checked) false ⟨#[], #[.slice none 0 0, .slice none 0 0, .int .i64 0, .int .i64 0, .int .i64 0, .int .i64 0], []⟩ 8 (by kernel_rfl) (by kernel_rfl) (by kernel_rfl) (by kernel_rfl))
    (by kernel_rfl) (by kernel_rfl) (by kernel_rfl) (by kernel_rfl) rfl (by kernel_rfl) (by kernel_rfl)
    (fun ds hds => by match ds, hds with | [_, _, _, _, _, _], _ => rfl)
    ((ArgR.cons aL (ArgR.cons aUL (ArgR.cons aI (ArgR.cons aI (ArgR.cons aI (ArgR.cons aI ArgR.nil))))))) (fun a ha => rspec_calls a.1 a.2.1 a.2.2.1 a.2.2.2.1 a.2.2.2.2.1 a.2.2.2.2.2.1)
theorem budgetsRoomSpec_holds : Rows.BudgetsRoomSpecSaid :=
  OpenClaim.holds_of_wide 4 Try.f4 rfl rfl rfl rfl rfl rfl rfl ⟨rfl, rfl, rfl, rfl, rfl⟩ rfl rfl rfl rfl rfl (by kernel_rfl) Try.func4 (by kernel_rfl)
    (of_decide_eq_true (by kernel_rfl)) (by unfold Func.isWrapper; first | (rw [if_pos (by decide +kernel)]; kernel_rfl) | (rw [if_neg (by decide +kernel)]; exact ⟨rfl, rfl⟩))
    (fun os started H enc _ => budgetsRoomSpec_lifted os started H enc)
end Go.Proofs.Ytjpmjhgephlcpaa
#print axioms Go.Proofs.Ytjpmjhgephlcpaa.budgetsRoomSpec_holds
