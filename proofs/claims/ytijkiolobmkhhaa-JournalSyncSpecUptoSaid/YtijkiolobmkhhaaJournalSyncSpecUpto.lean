/- For every journal and disk, of bulk at most 1048576, Sync answers as the reference does. -/
import Derived.Test.YtijkiolobmkhhaaChp2
set_option linter.unusedSimpArgs false
set_option linter.unusedVariables false
set_option linter.unnecessarySimpa false
namespace Go.Proofs.Ytijkiolobmkhhaa
open Go Go.Sg
set_option maxRecDepth 100000
theorem journalSyncSpec_lifted (os : Os) (started : os.Started) (H : Type) (enc : TypeId × Value → H) (F : Stop.Interp) :
    ReturnsInHanded {} Try.checked os 5 .any ((Rows.OpenSpec.upto Rows.journalSyncSpecSpec).pre6 enc Try.prog Try.f5 [] false) (((Rows.OpenSpec.upto Rows.journalSyncSpecSpec).at F).post enc Try.prog Try.f5 false true false false) :=
  law_upto (B := UB) (C := Try.checked) (tb := 4) (N := 1048576) (k := Rows.uptoSmall) own started (by kernel_rfl) Try.func5
    (fun ds hk => (of_decide_eq_true hk : Rows.uptoBulkAll ds ≤ 1048576))
    (OpenSpec.witness (enc := enc) (C := Try.checked) (s := (Rows.OpenSpec.upto Rows.journalSyncSpecSpec)) (k := Rows.uptoSmall) (conds := []) (apart := false) rfl false ⟨#[], #[.agg #[.slice none 0 0, .int .i64 0, .int .i64 0], .agg #[.slice none 0 0, .slice none 0 0, .int .i64 0, .bool false]], []⟩ 8 (by kernel_rfl) (by kernel_rfl) (by kernel_rfl)
      (x := ([.agg [.nil, .lit (.int .i64 0), .lit (.int .i64 0)], .agg [.nil, .nil, .lit (.int .i64 0), .lit (.bool false)]], [], [])) (by kernel_rfl) (by kernel_rfl) (by kernel_rfl))
    (by kernel_rfl) (by kernel_rfl) (by kernel_rfl) (by kernel_rfl) rfl (by kernel_rfl) (by kernel_rfl)
    (fun ds hds => by match ds, hds with | [_, _], _ => rfl)
    ((ArgRB.cons kJ (ArgRB.cons kD ArgRB.nil))) (fun a ha hb => syncSpec_calls a.1 a.2.1 ha.1 ha.2.1 (Nat.le_trans (Nat.le_add_right _ _) hb))
theorem journalSyncSpecUpto_holds : Rows.JournalSyncSpecUptoSaid :=
  OpenClaim.holds_of_cond 5 Try.f5 rfl rfl rfl rfl rfl rfl rfl ⟨rfl, rfl, rfl, rfl, rfl⟩ rfl rfl rfl rfl rfl (by kernel_rfl) Try.func5 (by kernel_rfl)
    (of_decide_eq_true (by kernel_rfl)) (by unfold Func.isWrapper; first | (rw [if_pos (by decide +kernel)]; kernel_rfl) | (rw [if_neg (by decide +kernel)]; exact ⟨rfl, rfl⟩))
    (fun os started H enc _ F => journalSyncSpec_lifted os started H enc F)
end Go.Proofs.Ytijkiolobmkhhaa
#print axioms Go.Proofs.Ytijkiolobmkhhaa.journalSyncSpecUpto_holds
