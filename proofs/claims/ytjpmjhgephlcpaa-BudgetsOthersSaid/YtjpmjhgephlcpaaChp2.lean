/- A part of the proof: contracts of the functions that the statement reaches. -/
import Derived.Test.YtjpmjhgephlcpaaChp1
import Derived.Test.YtjpmjhgephlcpaaRows
set_option linter.unusedSimpArgs false
set_option linter.unusedVariables false
set_option linter.unnecessarySimpa false
namespace Go.Proofs.Ytjpmjhgephlcpaa
open Go Go.Sg
set_option maxRecDepth 100000
theorem rI : Rdc Try.prog 3 Int (fun n => [eI n]) (fun n => (Lit.int .i64 n).wf = true) := Rdc.int (by kernel_rfl) (by kernel_rfl)
theorem rU8 : Rdc Try.prog 5 Int (fun n => [.int .u8 n]) (fun n => (Lit.int .u8 n).wf = true) := Rdc.int (by kernel_rfl) (by kernel_rfl)
theorem rU16 : Rdc Try.prog 45 Int (fun n => [.int .u16 n]) (fun n => (Lit.int .u16 n).wf = true) := Rdc.int (by kernel_rfl) (by kernel_rfl)
theorem rBool : Rdc Try.prog 4 Bool (fun n => [.bool n]) (fun _ => True) := Rdc.bool (by kernel_rfl) (by kernel_rfl)
def okBg (x : Bg) : Prop := (Lit.int .i64 x.no).wf = true ∧ (Lit.int .i64 x.tm).wf = true ∧ (Lit.int .i64 x.known).wf = true ∧ (Lit.int .i64 x.kind).wf = true ∧ (Lit.int .i64 x.per).wf = true ∧ (Lit.int .i64 x.cnt).wf = true ∧ (Lit.int .i64 x.val).wf = true
theorem rBg : Rdc Try.prog 24 Bg (fun x => [eI x.no, eI x.tm, eI x.known, eI x.kind, eI x.per, eI x.cnt, eI x.val, .bool x.gone]) okBg := by
  have h := Rdc.struct (P := Try.prog) (t := 24) Try.underlying24 (Rdf.cons rI (Rdf.cons rI (Rdf.cons rI (Rdf.cons rI (Rdf.cons rI (Rdf.cons rI (Rdf.cons rI (Rdf.cons rBool Rdf.nil (by kernel_rfl) rfl) (by kernel_rfl) rfl) (by kernel_rfl) rfl) (by kernel_rfl) rfl) (by kernel_rfl) rfl) (by kernel_rfl) rfl) (by kernel_rfl) rfl) (by kernel_rfl) rfl) (by kernel_rfl)
  exact h.map (fun x => (⟨x.1, x.2.1, x.2.2.1, x.2.2.2.1, x.2.2.2.2.1, x.2.2.2.2.2.1, x.2.2.2.2.2.2.1, x.2.2.2.2.2.2.2.1⟩ : Bg)) (fun w => (w.no, w.tm, w.known, w.kind, w.per, w.cnt, w.val, w.gone, ())) (fun _ => rfl) (fun _ _ => rfl)
    (fun x h => ⟨h.1, h.2.1, h.2.2.1, h.2.2.2.1, h.2.2.2.2.1, h.2.2.2.2.2.1, h.2.2.2.2.2.2.1⟩) (fun y h => ⟨h.1, h.2.1, h.2.2.1, h.2.2.2.1, h.2.2.2.2.1, h.2.2.2.2.2.1, h.2.2.2.2.2.2, trivial, trivial⟩)
def okUs (x : Us) : Prop := (Lit.int .i64 x.doc).wf = true ∧ (Lit.int .i64 x.kind).wf = true ∧ (Lit.int .i64 x.val).wf = true ∧ (Lit.int .i64 x.tm).wf = true ∧ (Lit.int .i64 x.known).wf = true
theorem rUs : Rdc Try.prog 49 Us (fun x => [eI x.doc, eI x.kind, eI x.val, eI x.tm, eI x.known]) okUs := by
  have h := Rdc.struct (P := Try.prog) (t := 49) Try.underlying49 (Rdf.cons rI (Rdf.cons rI (Rdf.cons rI (Rdf.cons rI (Rdf.cons rI Rdf.nil (by kernel_rfl) rfl) (by kernel_rfl) rfl) (by kernel_rfl) rfl) (by kernel_rfl) rfl) (by kernel_rfl) rfl) (by kernel_rfl)
  exact h.map (fun x => (⟨x.1, x.2.1, x.2.2.1, x.2.2.2.1, x.2.2.2.2.1⟩ : Us)) (fun w => (w.doc, w.kind, w.val, w.tm, w.known, ())) (fun _ => rfl) (fun _ _ => rfl)
    (fun x h => ⟨h.1, h.2.1, h.2.2.1, h.2.2.2.1, h.2.2.2.2.1⟩) (fun y h => ⟨h.1, h.2.1, h.2.2.1, h.2.2.2.1, h.2.2.2.2, trivial⟩)
def okL (l : List Bg) : Prop := l.length ≤ reachBytes ∧ ∀ b ∈ l, okBg b
def okUL (l : List Us) : Prop := l.length ≤ reachBytes ∧ ∀ b ∈ l, okUs b
theorem rL : Rdc Try.prog 22 (List Bg) (fun b => [eL b]) okL :=
  Rdc.slice (e := 24) (sz := 8) (by kernel_rfl) (by kernel_rfl) rBg (by kernel_rfl) (by decide) (of_decide_eq_true (by kernel_rfl)) (fun _ _ => rfl)
theorem rUL : Rdc Try.prog 33 (List Us) (fun b => [eUs b]) okUL :=
  Rdc.slice (e := 49) (sz := 5) (by kernel_rfl) (by kernel_rfl) rUs (by kernel_rfl) (by decide) (of_decide_eq_true (by kernel_rfl)) (fun _ _ => rfl)
theorem aBg : Rda Try.prog 24 Bg eA okBg := Rda.agg rBg (by kernel_rfl)
theorem aI : Rda Try.prog 3 Int eI (fun n => (Lit.int .i64 n).wf = true) := Rda.one rI (by kernel_rfl)
theorem aU8 : Rda Try.prog 5 Int (fun n => .int .u8 n) (fun n => (Lit.int .u8 n).wf = true) := Rda.one rU8 (by kernel_rfl)
theorem aU16 : Rda Try.prog 45 Int (fun n => .int .u16 n) (fun n => (Lit.int .u16 n).wf = true) := Rda.one rU16 (by kernel_rfl)
theorem aL : Rda Try.prog 22 (List Bg) eL okL := Rda.one rL (by kernel_rfl)
theorem aUL : Rda Try.prog 33 (List Us) eUs okUL := Rda.one rUL (by kernel_rfl)
theorem okL.len {l : List Bg} (h : okL l) : l.length < 140737488355328 := Nat.lt_of_le_of_lt h.1 reachBytes_lt
theorem wf_i64 {n : Int} (h : (Lit.int .i64 n).wf = true) : -9223372036854775808 ≤ n ∧ n ≤ 9223372036854775807 := by
  simp [Lit.wf] at h; exact h
theorem wf_u8 {n : Int} (h : (Lit.int .u8 n).wf = true) : 0 ≤ n ∧ n ≤ 255 := by
  simp [Lit.wf, IntKind.min, IntKind.max, IntKind.signed, IntKind.bits] at h; omega
theorem wf_u16 {n : Int} (h : (Lit.int .u16 n).wf = true) : 0 ≤ n ∧ n ≤ 65535 := by
  simp [Lit.wf, IntKind.min, IntKind.max, IntKind.signed, IntKind.bits] at h; omega
theorem own : ownKnob Try.prog.godebug = none := by kernel_rfl
end Go.Proofs.Ytjpmjhgephlcpaa
