/- For every number and disk, the law DiskNewSpec of chapter 04 returns true, and its arguments read afterwards as before. -/
import Derived.Test.YtcfkbohjnghelaaChp0
import Derived.Test.YtcfkbohjnghelaaRows
set_option linter.unusedSimpArgs false
set_option linter.unusedVariables false
set_option linter.unnecessarySimpa false
namespace Go.Proofs.Ytcfkbohjnghelaa
open Go Go.Sg
set_option maxRecDepth 100000
theorem rI : Rdc Try.prog 3 Int (fun n => [eI n]) (fun n => (Lit.int .i64 n).wf = true) := Rdc.int (by kernel_rfl) (by kernel_rfl)
theorem rU8 : Rdc Try.prog 5 Int (fun n => [.int .u8 n]) (fun n => (Lit.int .u8 n).wf = true) := Rdc.int (by kernel_rfl) (by kernel_rfl)
theorem rBool : Rdc Try.prog 4 Bool (fun n => [.bool n]) (fun _ => True) := Rdc.bool (by kernel_rfl) (by kernel_rfl)
def okBs (b : Bs) : Prop := b.length ≤ reachBytes ∧ ∀ n ∈ b, (Lit.int .u8 n).wf = true
theorem rB : Rdc Try.prog 35 Bs (fun b => [eB b]) okBs :=
  Rdc.slice (e := 5) (sz := 1) (by kernel_rfl) (by kernel_rfl) rU8 (by kernel_rfl) (by decide) (of_decide_eq_true (by kernel_rfl)) (fun _ _ => rfl)
def okSs (l : List Bs) : Prop := l.length ≤ reachBytes ∧ ∀ b ∈ l, okBs b
theorem rS : Rdc Try.prog 22 (List Bs) (fun b => [eS b]) okSs :=
  Rdc.slice (e := 35) (sz := 1) (by kernel_rfl) (by kernel_rfl) rB (by kernel_rfl) (by decide) (of_decide_eq_true (by kernel_rfl)) (fun _ _ => rfl)
def okWr (w : Wr) : Prop := (Lit.int .i64 w.pos).wf = true ∧ okBs w.data
theorem rW : Rdc Try.prog 54 Wr (fun w => [eI w.pos, eB w.data]) okWr := by
  have h := Rdc.struct (P := Try.prog) (t := 54) Try.underlying54 (Rdf.cons rI (Rdf.cons rB Rdf.nil (by kernel_rfl) rfl) (by kernel_rfl) rfl) (by kernel_rfl)
  exact h.map (fun x => (⟨x.1, x.2.1⟩ : Wr)) (fun w => (w.pos, w.data, ())) (fun _ => rfl) (fun _ _ => rfl) (fun x h => ⟨h.1, h.2.1⟩) (fun y h => ⟨h.1, h.2, trivial⟩)
def okPs (l : List Wr) : Prop := l.length ≤ reachBytes ∧ ∀ b ∈ l, okWr b
theorem rP : Rdc Try.prog 23 (List Wr) (fun b => [eP b]) okPs :=
  Rdc.slice (e := 54) (sz := 2) (by kernel_rfl) (by kernel_rfl) rW (by kernel_rfl) (by decide) (of_decide_eq_true (by kernel_rfl)) (fun _ _ => rfl)
def okDk (d : Dk) : Prop := okSs d.secs ∧ okPs d.pend ∧ (Lit.int .i64 d.left).wf = true
theorem rDc : Rdc Try.prog 25 Dk (fun d => [eS d.secs, eP d.pend, eI d.left, .bool d.stop]) okDk := by
  have h := Rdc.struct (P := Try.prog) (t := 25) Try.underlying25 (Rdf.cons rS (Rdf.cons rP (Rdf.cons rI (Rdf.cons rBool Rdf.nil (by kernel_rfl) rfl) (by kernel_rfl) rfl) (by kernel_rfl) rfl) (by kernel_rfl) rfl) (by kernel_rfl)
  exact h.map (fun x => (⟨x.1, x.2.1, x.2.2.1, x.2.2.2.1⟩ : Dk)) (fun w => (w.secs, w.pend, w.left, w.stop, ())) (fun _ => rfl) (fun _ _ => rfl) (fun x h => ⟨h.1, h.2.1, h.2.2.1⟩) (fun y h => ⟨h.1, h.2.1, h.2.2, trivial, trivial⟩)
theorem aD : Rda Try.prog 25 Dk eD okDk := Rda.agg rDc (by kernel_rfl)
theorem aI : Rda Try.prog 3 Int eI (fun n => (Lit.int .i64 n).wf = true) := Rda.one rI (by kernel_rfl)
theorem aB : Rda Try.prog 35 Bs eB okBs := Rda.one rB (by kernel_rfl)
theorem okDk.rd {d : Dk} (h : okDk d) : rdD d := ⟨fun b hb => Nat.lt_of_le_of_lt (h.1.2 b hb).1 reachBytes_lt, fun w hw => Nat.lt_of_le_of_lt (h.2.1.2 w hw).2.1 reachBytes_lt⟩
theorem own : ownKnob Try.prog.godebug = none := by kernel_rfl
theorem newSpec_lifted (os : Os) (started : os.Started) (H : Type) (enc : TypeId × Value → H) :
    ReturnsInHanded {} Try.checked os 3 .any (Rows.diskNewSpecSpec.pre6 enc Try.prog Try.f3 [] false) (Rows.diskNewSpecSpec.post enc Try.prog Try.f3 false true false false) :=
  law_lifted (C := Try.checked) (tb := 4) own started (by kernel_rfl) Try.func3
    (ChangeSpec.witness6 (enc := enc) (C := Try.checked) false ⟨#[], #[.int .i64 0, .agg #[.slice none 0 0, .slice none 0 0, .int .i64 0, .bool false]], []⟩ 8 (by kernel_rfl) (by kernel_rfl) (by kernel_rfl) (by kernel_rfl))
    (by kernel_rfl) (by kernel_rfl) (by kernel_rfl) (by kernel_rfl) rfl (by kernel_rfl) (by kernel_rfl)
    (fun ds hds => by match ds, hds with | [_, _], _ => rfl)
    (ArgR.cons aI (ArgR.cons aD ArgR.nil)) (fun a ha => newSpec_calls a.1 a.2.1 ha.2.1.rd)
theorem diskNewSpec_holds : Rows.DiskNewSpecSaid :=
  OpenClaim.holds_of_wide 3 Try.f3 rfl rfl rfl rfl rfl rfl rfl ⟨rfl, rfl, rfl, rfl, rfl⟩ rfl rfl rfl rfl rfl (by kernel_rfl) Try.func3 (by kernel_rfl)
    (of_decide_eq_true (by kernel_rfl)) (by unfold Func.isWrapper; first | (rw [if_pos (by decide +kernel)]; kernel_rfl) | (rw [if_neg (by decide +kernel)]; exact ⟨rfl, rfl⟩))
    (fun os started H enc _ => newSpec_lifted os started H enc)
end Go.Proofs.Ytcfkbohjnghelaa
#print axioms Go.Proofs.Ytcfkbohjnghelaa.diskNewSpec_holds
