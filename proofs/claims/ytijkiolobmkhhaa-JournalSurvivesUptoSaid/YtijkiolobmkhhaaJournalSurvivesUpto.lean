/- For every script of writes, of bulk at most 1048576, during which the disk may stop, what was synced survives: the journal that is opened after each stop holds what was synced before and a beginning of what was to be written. -/
import Derived.Test.YtijkiolobmkhhaaChp2
set_option linter.unusedSimpArgs false
set_option linter.unusedVariables false
set_option linter.unnecessarySimpa false
namespace Go.Proofs.Ytijkiolobmkhhaa
open Go Go.Sg
set_option maxRecDepth 100000
theorem journalSurvives_lifted (os : Os) (started : os.Started) (H : Type) (enc : TypeId × Value → H) (F : Stop.Interp) :
    ReturnsInHanded {} Try.checked os 9 .any ((Rows.OpenSpec.upto Rows.journalSurvivesSpec).pre6 enc Try.prog Try.f9 [] false) (((Rows.OpenSpec.upto Rows.journalSurvivesSpec).at F).post enc Try.prog Try.f9 false true false false) :=
  law_upto (B := UB) (C := Try.checked) (tb := 4) (N := 1048576) (k := Rows.uptoSmall) own started (by kernel_rfl) Try.func9
    (fun ds hk => (of_decide_eq_true hk : Rows.uptoBulkAll ds ≤ 1048576))
    (OpenSpec.witness (enc := enc) (C := Try.checked) (s := (Rows.OpenSpec.upto Rows.journalSurvivesSpec)) (k := Rows.uptoSmall) (conds := []) (apart := false) rfl false ⟨#[], #[.int .u8 0, .slice none 0 0], []⟩ 8 (by kernel_rfl) (by kernel_rfl) (by kernel_rfl)
      (x := ([.lit (.int .u8 0), .nil], [], [])) (by kernel_rfl) (by kernel_rfl) (by kernel_rfl))
    (by kernel_rfl) (by kernel_rfl) (by kernel_rfl) (by kernel_rfl) rfl (by kernel_rfl) (by kernel_rfl)
    (fun ds hds => by match ds, hds with | [_, _], _ => rfl)
    ((ArgRB.cons kU8 (ArgRB.cons kCs ArgRB.nil))) (fun a ha hb => survives_law a.1 a.2.1 ha.1 ha.2.1 hb)
theorem journalSurvivesUpto_holds : Rows.JournalSurvivesUptoSaid :=
  OpenClaim.holds_of_cond 9 Try.f9 rfl rfl rfl rfl rfl rfl rfl ⟨rfl, rfl, rfl, rfl, rfl⟩ rfl rfl rfl rfl rfl (by kernel_rfl) Try.func9 (by kernel_rfl)
    (of_decide_eq_true (by kernel_rfl)) (by unfold Func.isWrapper; first | (rw [if_pos (by decide +kernel)]; kernel_rfl) | (rw [if_neg (by decide +kernel)]; exact ⟨rfl, rfl⟩))
    (fun os started H enc _ F => journalSurvives_lifted os started H enc F)
end Go.Proofs.Ytijkiolobmkhhaa
#print axioms Go.Proofs.Ytijkiolobmkhhaa.journalSurvivesUpto_holds
