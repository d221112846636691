/- InForce and Why match the specification: DocumentsWhySpec answers true at every input. -/
import Derived.Test.YtgclicahmbgfiaaChp2
set_option linter.unusedSimpArgs false
set_option linter.unusedVariables false
set_option linter.unnecessarySimpa false
set_option maxRecDepth 100000
set_option maxHeartbeats 40000000
open Go.Sg.XAlt renaming l → kX
open Go.Sg.Sq renaming pr → kP
open Go.Sg.Br renaming tt → kT, ff → kF, not → kN, dec → kBd, mk → kBm
open Go.Sg.Opt renaming nn → kO, ss → kS
open Go.Sg.AltA renaming l → kA
open Go.Sg.PV renaming leL_cons → kC
open Go.Sg renaming fits_i64 → kG
open Go.Sg.VLe renaming pe → kVp, agg → kVa, tup → kVt, fn → kVf
open Go.Sg.VLeL renaming cons → kVc
open Go.Sg.OLe renaming rowe2 → kQw, mape → kQm, itere → kQj, chane → kQc, mapSe → kQs
open Go.Sg.HpLe renaming dd → kHd, mk → kHm
namespace Go.Proofs.Ytgclicahmbgfiaa
open Go Go.Sg
theorem documentsWhySpec_lifted (os : Os) (started : os.Started) (H : Type) (enc : TypeId × Value → H) :
    ReturnsInHanded {} Try.checked os 4 .any (Rows.documentsWhySpecSpec.pre6 enc Try.prog Try.f4 [] false) (Rows.documentsWhySpecSpec.post enc Try.prog Try.f4 false true false false) :=
  law_lifted (C := Try.checked) (tb := 4) own started (by kernel_rfl) Try.func4
    (ChangeSpec.witness6 (enc := enc) (C := Try.checked) false ⟨#[], #[.slice none 0 0, .slice none 0 0, .int .i64 0, .int .i64 0], []⟩ 8 (by kernel_rfl) (by kernel_rfl) (by kernel_rfl) (by kernel_rfl))
    (by kernel_rfl) (by kernel_rfl) (by kernel_rfl) (by kernel_rfl) rfl (by kernel_rfl) (by kernel_rfl)
    (fun ds hds => by match ds, hds with | [_, _, _, _], _ => rfl)
    ((ArgR.cons aL (ArgR.cons aIs (ArgR.cons aI (ArgR.cons aI ArgR.nil))))) (fun a ha => whySpec_calls a.1 a.2.1 a.2.2.1 a.2.2.2.1 ha.1.len)
theorem documentsWhySpec_holds : Rows.DocumentsWhySpecSaid :=
  OpenClaim.holds_of_wide 4 Try.f4 rfl rfl rfl rfl rfl rfl rfl ⟨rfl, rfl, rfl, rfl, rfl⟩ rfl rfl rfl rfl rfl (by kernel_rfl) Try.func4 (by kernel_rfl)
    (of_decide_eq_true (by kernel_rfl)) (by unfold Func.isWrapper; first | (rw [if_pos (by decide +kernel)]; kernel_rfl) | (rw [if_neg (by decide +kernel)]; exact ⟨rfl, rfl⟩))
    (fun os started H enc _ => documentsWhySpec_lifted os started H enc)
end Go.Proofs.Ytgclicahmbgfiaa
#print axioms Go.Proofs.Ytgclicahmbgfiaa.documentsWhySpec_holds
