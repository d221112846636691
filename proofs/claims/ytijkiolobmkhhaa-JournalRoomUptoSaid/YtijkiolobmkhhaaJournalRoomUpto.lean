/- For every journal and record, of bulk at most 1048576, Room says what Append accepts. -/
import Derived.Test.YtijkiolobmkhhaaChp2
set_option linter.unusedSimpArgs false
set_option linter.unusedVariables false
set_option linter.unnecessarySimpa false
namespace Go.Proofs.Ytijkiolobmkhhaa
open Go Go.Sg
set_option maxRecDepth 100000
theorem journalRoom_lifted (os : Os) (started : os.Started) (H : Type) (enc : TypeId × Value → H) (F : Stop.Interp) :
    ReturnsInHanded {} Try.checked os 6 .any ((Rows.OpenSpec.upto Rows.journalRoomSpec).pre6 enc Try.prog Try.f6 [] false) (((Rows.OpenSpec.upto Rows.journalRoomSpec).at F).post enc Try.prog Try.f6 false true false false) :=
  law_upto (B := UB) (C := Try.checked) (tb := 4) (N := 1048576) (k := Rows.uptoSmall) own started (by kernel_rfl) Try.func6
    (fun ds hk => (of_decide_eq_true hk : Rows.uptoBulkAll ds ≤ 1048576))
    (OpenSpec.witness (enc := enc) (C := Try.checked) (s := (Rows.OpenSpec.upto Rows.journalRoomSpec)) (k := Rows.uptoSmall) (conds := []) (apart := false) rfl false ⟨#[], #[.agg #[.slice none 0 0, .int .i64 0, .int .i64 0], .slice none 0 0], []⟩ 8 (by kernel_rfl) (by kernel_rfl) (by kernel_rfl)
      (x := ([.agg [.nil, .lit (.int .i64 0), .lit (.int .i64 0)], .nil], [], [])) (by kernel_rfl) (by kernel_rfl) (by kernel_rfl))
    (by kernel_rfl) (by kernel_rfl) (by kernel_rfl) (by kernel_rfl) rfl (by kernel_rfl) (by kernel_rfl)
    (fun ds hds => by match ds, hds with | [_, _], _ => rfl)
    ((ArgRB.cons kJ (ArgRB.cons kB ArgRB.nil))) (fun a ha hb => room_law_calls a.1 a.2.1 ha.1 ha.2.1 (Nat.le_trans (Nat.le_add_right _ _) hb))
theorem journalRoomUpto_holds : Rows.JournalRoomUptoSaid :=
  OpenClaim.holds_of_cond 6 Try.f6 rfl rfl rfl rfl rfl rfl rfl ⟨rfl, rfl, rfl, rfl, rfl⟩ rfl rfl rfl rfl rfl (by kernel_rfl) Try.func6 (by kernel_rfl)
    (of_decide_eq_true (by kernel_rfl)) (by unfold Func.isWrapper; first | (rw [if_pos (by decide +kernel)]; kernel_rfl) | (rw [if_neg (by decide +kernel)]; exact ⟨rfl, rfl⟩))
    (fun os started H enc _ F => journalRoom_lifted os started H enc F)
end Go.Proofs.Ytijkiolobmkhhaa
#print axioms Go.Proofs.Ytijkiolobmkhhaa.journalRoomUpto_holds
