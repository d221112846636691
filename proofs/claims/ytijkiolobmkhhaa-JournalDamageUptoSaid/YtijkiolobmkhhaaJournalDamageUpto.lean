/- The statement JournalDamage, in its second form: for records whose bytes together are at most 1048576, damage of one byte of a sector is noticed, and just the records in the sectors before remain. -/
import Derived.Test.YtijkiolobmkhhaaChp2
set_option linter.unusedSimpArgs false
set_option linter.unusedVariables false
set_option linter.unnecessarySimpa false
namespace Go.Proofs.Ytijkiolobmkhhaa
open Go Go.Sg
set_option maxRecDepth 100000
theorem journalDamage_lifted (os : Os) (started : os.Started) (H : Type) (enc : TypeId × Value → H) (F : Stop.Interp) :
    ReturnsInHanded {} Try.checked os 7 .any ((Rows.OpenSpec.upto Rows.journalDamageSpec).pre6 enc Try.prog Try.f7 [] false) (((Rows.OpenSpec.upto Rows.journalDamageSpec).at F).post enc Try.prog Try.f7 false true false false) :=
  law_upto (B := UB) (C := Try.checked) (tb := 4) (N := 1048576) (k := Rows.uptoSmall) own started (by kernel_rfl) Try.func7
    (fun ds hk => (of_decide_eq_true hk : Rows.uptoBulkAll ds ≤ 1048576))
    (OpenSpec.witness (enc := enc) (C := Try.checked) (s := (Rows.OpenSpec.upto Rows.journalDamageSpec)) (k := Rows.uptoSmall) (conds := []) (apart := false) rfl false ⟨#[], #[.slice none 0 0, .int .i64 0, .int .i64 0, .int .u8 0], []⟩ 8 (by kernel_rfl) (by kernel_rfl) (by kernel_rfl)
      (x := ([.nil, .lit (.int .i64 0), .lit (.int .i64 0), .lit (.int .u8 0)], [], [])) (by kernel_rfl) (by kernel_rfl) (by kernel_rfl))
    (by kernel_rfl) (by kernel_rfl) (by kernel_rfl) (by kernel_rfl) rfl (by kernel_rfl) (by kernel_rfl)
    (fun ds hds => by match ds, hds with | [_, _, _, _], _ => rfl)
    ((ArgRB.cons kS (ArgRB.cons kI (ArgRB.cons kI (ArgRB.cons kU8 ArgRB.nil))))) (fun a ha hb => damage_law a.1 a.2.1 a.2.2.1 a.2.2.2.1 ha.1 ha.2.2.2.1 hb)
theorem journalDamageUpto_holds : Rows.JournalDamageUptoSaid :=
  OpenClaim.holds_of_cond 7 Try.f7 rfl rfl rfl rfl rfl rfl rfl ⟨rfl, rfl, rfl, rfl, rfl⟩ rfl rfl rfl rfl rfl (by kernel_rfl) Try.func7 (by kernel_rfl)
    (of_decide_eq_true (by kernel_rfl)) (by unfold Func.isWrapper; first | (rw [if_pos (by decide +kernel)]; kernel_rfl) | (rw [if_neg (by decide +kernel)]; exact ⟨rfl, rfl⟩))
    (fun os started H enc _ F => journalDamage_lifted os started H enc F)
end Go.Proofs.Ytijkiolobmkhhaa
#print axioms Go.Proofs.Ytijkiolobmkhhaa.journalDamageUpto_holds
