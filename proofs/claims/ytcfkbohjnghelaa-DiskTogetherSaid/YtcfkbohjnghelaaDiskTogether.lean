/- syncing one by one or together -/
import Derived.Test.YtcfkbohjnghelaaChp1
set_option linter.unusedSimpArgs false
set_option linter.unusedVariables false
set_option linter.unnecessarySimpa false
namespace Go.Proofs.Ytcfkbohjnghelaa
open Go Go.Sg
set_option maxRecDepth 100000
def okAc (a : Ac) : Prop := (Lit.int .u8 a.pos).wf = true ∧ (Lit.int .u8 a.byte).wf = true
theorem okAc_pos {a : Ac} (h : okAc a) : 0 ≤ a.pos ∧ a.pos < 256 := by
  have := h.1
  simp [Lit.wf] at this
  have e1 : IntKind.u8.min = 0 := by decide
  have e2 : IntKind.u8.max = 255 := by decide
  omega
theorem rA : Rdc Try.prog 46 Ac (fun a => [.bool a.sync, .int .u8 a.pos, .int .u8 a.byte]) okAc := by
  have h := Rdc.struct (P := Try.prog) (t := 46) Try.underlying46 (Rdf.cons rBool (Rdf.cons rU8 (Rdf.cons rU8 Rdf.nil (by kernel_rfl) rfl) (by kernel_rfl) rfl) (by kernel_rfl) rfl) (by kernel_rfl)
  exact h.map (fun x => (⟨x.1, x.2.1, x.2.2.1⟩ : Ac)) (fun w => (w.sync, w.pos, w.byte, ())) (fun _ => rfl) (fun _ _ => rfl) (fun x h => ⟨h.2.1, h.2.2.1⟩) (fun y h => ⟨trivial, h.1, h.2, trivial⟩)
def okAcs (l : List Ac) : Prop := l.length ≤ reachBytes ∧ ∀ b ∈ l, okAc b
theorem rAs : Rdc Try.prog 43 (List Ac) (fun b => [eAs b]) okAcs :=
  Rdc.slice (e := 46) (sz := 3) (by kernel_rfl) (by kernel_rfl) rA (by kernel_rfl) (by decide) (of_decide_eq_true (by kernel_rfl)) (fun _ _ => rfl)
theorem aAs : Rda Try.prog 43 (List Ac) eAs okAcs := Rda.one rAs (by kernel_rfl)
theorem diskTogether_lifted (os : Os) (started : os.Started) (H : Type) (enc : TypeId × Value → H) :
    ReturnsInHanded {} Try.checked os 8 .any (Rows.diskTogetherSpec.pre6 enc Try.prog Try.f8 [] false) (Rows.diskTogetherSpec.post enc Try.prog Try.f8 false true false false) :=
  law_lifted (C := Try.checked) (tb := 4) own started (by kernel_rfl) Try.func8
    (ChangeSpec.witness6 (enc := enc) (C := Try.checked) false ⟨#[], #[.agg #[.slice none 0 0, .slice none 0 0, .int .i64 0, .bool false], .slice none 0 0], []⟩ 8 (by kernel_rfl) (by kernel_rfl) (by kernel_rfl) (by kernel_rfl))
    (by kernel_rfl) (by kernel_rfl) (by kernel_rfl) (by kernel_rfl) rfl (by kernel_rfl) (by kernel_rfl)
    (fun ds hds => by match ds, hds with | [_, _], _ => rfl)
    ((ArgR.cons aD (ArgR.cons aAs ArgR.nil))) (fun a ha => together_calls a.1 a.2.1 ha.1.rd (fun x h => okAc_pos (ha.2.1.2 x h)))
theorem diskTogether_holds : Rows.DiskTogetherSaid :=
  OpenClaim.holds_of_wide 8 Try.f8 rfl rfl rfl rfl rfl rfl rfl ⟨rfl, rfl, rfl, rfl, rfl⟩ rfl rfl rfl rfl rfl (by kernel_rfl) Try.func8 (by kernel_rfl)
    (of_decide_eq_true (by kernel_rfl)) (by unfold Func.isWrapper; first | (rw [if_pos (by decide +kernel)]; kernel_rfl) | (rw [if_neg (by decide +kernel)]; exact ⟨rfl, rfl⟩))
    (fun os started H enc _ => diskTogether_lifted os started H enc)
end Go.Proofs.Ytcfkbohjnghelaa
#print axioms Go.Proofs.Ytcfkbohjnghelaa.diskTogether_holds
