/-
  No cell of these rows narrows 'for every input' (looked for: loops, veiled, ifaces, maps, wideKeys, modest, calm, conditions, laid).
  DERIVED. THE GIVEN ROWS OF THIS SEAT. 5 by the template 'for every input the law returns true; each argument reads behind the call as it read before'; 0 by the template 'total and deterministic' (their statements: YtgcfiknoihnpgaaTotals.lean).
  GIVEN WITH THE SEED: the statements are not yours to turn. If you find one false, say at which input.
  Laid BY PROGRAM, IN A SANDBOX (cutbox-rows.mjs): the forced cells as the released guide's own fill.sh prints them over the translation 7c62e460f98746d3… (all of the seat's roots in one cut). By AI agents, Wed Nov 11 2026. No macro, syntax, notation, axiom, sorry.
-/
import Derived.Test.YtgcfiknoihnpgaaChecked
import GoSem.Claim
import GoSem.ClaimJoined
import GoSem.ClaimMapViews
import Derived.JoinedTies
import Derived.KernelRfl
namespace Go.Proofs.Ytgcfiknoihnpgaa
/- THE CELL 'sum', in the pinned program and in every row, IS THE sha256 OF THE DUMP (.gsa) THAT YtgcfiknoihnpgaaProg.lean LOADS. Nothing in Lean hashes anything: it is a label: what it is worth is what the hold of that sum in a sandbox is worth. -/
noncomputable def Try.pinned : Pinned := { name := "ytgcfiknoihnpgaa", sum := "7c62e460f98746d394c410eebba4f00ba9135a1cdfc48e6cd0eb65405aa4c93b", checked := Try.checked }
namespace Rows
def none {H : Type} : Left H := { results := [], args := [] }

/-- 'signatorylaw28.ApprovalsSpec': WHATEVER THE INPUT: true; the input reads as it did. -/
def approvalsSpecSpec : ChangeSpec := { name := "approvalsSpec", fn := fun _ => fun
  | [d1, d2] => { results := [.lit (.bool true)], args := [d1, d2] }
  | _ => none }
def approvalsSpecRow : OpenClaim := { program := "ytgcfiknoihnpgaa", sum := "7c62e460f98746d394c410eebba4f00ba9135a1cdfc48e6cd0eb65405aa4c93b", func := "signatory/signatorylaw28.ApprovalsSpec", spec := "approvalsSpec", inPlace := ["slices.overlaps[signatory/api.Approval]"], unfollowed := true, recurses := true, plainKeys := false, apart := false }
def ApprovalsSpecSaid : Prop := approvalsSpecRow.holds Try.pinned (OpenSpec.ofChange approvalsSpecSpec)

/-- ITS FALSE NEIGHBOUR: 'it returns false'. Refute it at one input. -/
def approvalsSpecWrong : ChangeSpec := { name := "approvalsSpec", fn := fun _ => fun
  | [d1, d2] => { results := [.lit (.bool false)], args := [d1, d2] }
  | _ => none }
def ApprovalsSpecWrongFalsely : Prop := approvalsSpecRow.holds Try.pinned (OpenSpec.ofChange approvalsSpecWrong)

/-- 'signatorylaw28.ApprovalsStandingSpec': WHATEVER THE INPUT: true; the input reads as it did. -/
def approvalsStandingSpecSpec : ChangeSpec := { name := "approvalsStandingSpec", fn := fun _ => fun
  | [d1, d2, d3, d4, d5, d6] => { results := [.lit (.bool true)], args := [d1, d2, d3, d4, d5, d6] }
  | _ => none }
def approvalsStandingSpecRow : OpenClaim := { program := "ytgcfiknoihnpgaa", sum := "7c62e460f98746d394c410eebba4f00ba9135a1cdfc48e6cd0eb65405aa4c93b", func := "signatory/signatorylaw28.ApprovalsStandingSpec", spec := "approvalsStandingSpec", inPlace := ["slices.overlaps[signatory/api.Approval]"], unfollowed := true, recurses := true, plainKeys := false, apart := false }
def ApprovalsStandingSpecSaid : Prop := approvalsStandingSpecRow.holds Try.pinned (OpenSpec.ofChange approvalsStandingSpecSpec)

/-- ITS FALSE NEIGHBOUR: 'it returns false'. Refute it at one input. -/
def approvalsStandingSpecWrong : ChangeSpec := { name := "approvalsStandingSpec", fn := fun _ => fun
  | [d1, d2, d3, d4, d5, d6] => { results := [.lit (.bool false)], args := [d1, d2, d3, d4, d5, d6] }
  | _ => none }
def ApprovalsStandingSpecWrongFalsely : Prop := approvalsStandingSpecRow.holds Try.pinned (OpenSpec.ofChange approvalsStandingSpecWrong)

/-- 'signatorylaw28.ApprovalsLast': WHATEVER THE INPUT: true; the input reads as it did. -/
def approvalsLastSpec : ChangeSpec := { name := "approvalsLast", fn := fun _ => fun
  | [d1, d2, d3, d4] => { results := [.lit (.bool true)], args := [d1, d2, d3, d4] }
  | _ => none }
def approvalsLastRow : OpenClaim := { program := "ytgcfiknoihnpgaa", sum := "7c62e460f98746d394c410eebba4f00ba9135a1cdfc48e6cd0eb65405aa4c93b", func := "signatory/signatorylaw28.ApprovalsLast", spec := "approvalsLast", inPlace := ["slices.overlaps[signatory/api.Approval]"], unfollowed := true, recurses := true, plainKeys := false, apart := false }
def ApprovalsLastSaid : Prop := approvalsLastRow.holds Try.pinned (OpenSpec.ofChange approvalsLastSpec)

/-- ITS FALSE NEIGHBOUR: 'it returns false'. Refute it at one input. -/
def approvalsLastWrong : ChangeSpec := { name := "approvalsLast", fn := fun _ => fun
  | [d1, d2, d3, d4] => { results := [.lit (.bool false)], args := [d1, d2, d3, d4] }
  | _ => none }
def ApprovalsLastWrongFalsely : Prop := approvalsLastRow.holds Try.pinned (OpenSpec.ofChange approvalsLastWrong)

/-- 'signatorylaw28.ApprovalsThen': WHATEVER THE INPUT: true; the input reads as it did. -/
def approvalsThenSpec : ChangeSpec := { name := "approvalsThen", fn := fun _ => fun
  | [d1, d2, d3, d4, d5, d6, d7] => { results := [.lit (.bool true)], args := [d1, d2, d3, d4, d5, d6, d7] }
  | _ => none }
def approvalsThenRow : OpenClaim := { program := "ytgcfiknoihnpgaa", sum := "7c62e460f98746d394c410eebba4f00ba9135a1cdfc48e6cd0eb65405aa4c93b", func := "signatory/signatorylaw28.ApprovalsThen", spec := "approvalsThen", inPlace := ["slices.overlaps[signatory/api.Approval]"], unfollowed := true, recurses := true, plainKeys := false, apart := false }
def ApprovalsThenSaid : Prop := approvalsThenRow.holds Try.pinned (OpenSpec.ofChange approvalsThenSpec)

/-- ITS FALSE NEIGHBOUR: 'it returns false'. Refute it at one input. -/
def approvalsThenWrong : ChangeSpec := { name := "approvalsThen", fn := fun _ => fun
  | [d1, d2, d3, d4, d5, d6, d7] => { results := [.lit (.bool false)], args := [d1, d2, d3, d4, d5, d6, d7] }
  | _ => none }
def ApprovalsThenWrongFalsely : Prop := approvalsThenRow.holds Try.pinned (OpenSpec.ofChange approvalsThenWrong)

/-- 'signatorylaw28.ApprovalsThink': WHATEVER THE INPUT: true; the input reads as it did. -/
def approvalsThinkSpec : ChangeSpec := { name := "approvalsThink", fn := fun _ => fun
  | [d1, d2, d3, d4, d5, d6, d7, d8] => { results := [.lit (.bool true)], args := [d1, d2, d3, d4, d5, d6, d7, d8] }
  | _ => none }
def approvalsThinkRow : OpenClaim := { program := "ytgcfiknoihnpgaa", sum := "7c62e460f98746d394c410eebba4f00ba9135a1cdfc48e6cd0eb65405aa4c93b", func := "signatory/signatorylaw28.ApprovalsThink", spec := "approvalsThink", inPlace := ["slices.overlaps[signatory/api.Approval]"], unfollowed := true, recurses := true, plainKeys := false, apart := false }
def ApprovalsThinkSaid : Prop := approvalsThinkRow.holds Try.pinned (OpenSpec.ofChange approvalsThinkSpec)

/-- ITS FALSE NEIGHBOUR: 'it returns false'. Refute it at one input. -/
def approvalsThinkWrong : ChangeSpec := { name := "approvalsThink", fn := fun _ => fun
  | [d1, d2, d3, d4, d5, d6, d7, d8] => { results := [.lit (.bool false)], args := [d1, d2, d3, d4, d5, d6, d7, d8] }
  | _ => none }
def ApprovalsThinkWrongFalsely : Prop := approvalsThinkRow.holds Try.pinned (OpenSpec.ofChange approvalsThinkWrong)

/- THE SECOND FORM. 'bulk': how many values and letters a reading holds, each counted each time it is reached (what is shared counts as often as it is met; a slice's spare places count too). A statement '..UptoSaid' is the law's where the arguments, and the package variables that the reading takes, are together of bulk at most 1048576: NARROWER than '..Said'. Prove '..Said' where nothing that the law and all that it calls make is longer than what came in: it says more and counts as full. Else prove '..UptoSaid'. A law counts once. -/
mutual
def uptoBulk {H : Type} : DataW H → Nat
  | .lit (.string bytes) => bytes.length + 1
  | .lit _ => 1
  | .nil => 1
  | .ptr d => uptoBulk d + 1
  | .slice elems spare => uptoBulkAll elems + uptoBulkAll spare + 1
  | .agg parts => uptoBulkAll parts + 1
  | .iface _ d => uptoBulk d + 1
  | .map entries => uptoBulkEntries entries + 1
  | .held _ => 1
def uptoBulkAll {H : Type} : List (DataW H) → Nat
  | [] => 0
  | d :: r => uptoBulk d + uptoBulkAll r
def uptoBulkEntries {H : Type} : List (Lit × DataW H) → Nat
  | [] => 0
  | x :: r => uptoBulkEntry x + uptoBulkEntries r
def uptoBulkEntry {H : Type} : Lit × DataW H → Nat
  | (.string bytes, d) => bytes.length + uptoBulk d + 1
  | (_, d) => uptoBulk d + 1
 end
def uptoSmall : (H : Type) → List (DataW H) → Bool := fun _ ds => decide (uptoBulkAll ds ≤ 1048576)
def OpenSpec.upto (s : _root_.Go.ChangeSpec) : _root_.Go.OpenSpec := { _root_.Go.OpenSpec.ofChange s with cond := some uptoSmall }

/-- 'signatorylaw28.ApprovalsSpec', WHERE WHAT IT READS IS OF BULK AT MOST 1048576: true; the input reads as it did. -/
def approvalsSpecUptoRow : OpenClaim := { program := "ytgcfiknoihnpgaa", sum := "7c62e460f98746d394c410eebba4f00ba9135a1cdfc48e6cd0eb65405aa4c93b", func := "signatory/signatorylaw28.ApprovalsSpec", spec := "approvalsSpec", inPlace := ["slices.overlaps[signatory/api.Approval]"], unfollowed := true, recurses := true, plainKeys := false, apart := false, narrowed := true }
def ApprovalsSpecUptoSaid : Prop := approvalsSpecUptoRow.holds Try.pinned (OpenSpec.upto approvalsSpecSpec)

/-- 'signatorylaw28.ApprovalsStandingSpec', WHERE WHAT IT READS IS OF BULK AT MOST 1048576: true; the input reads as it did. -/
def approvalsStandingSpecUptoRow : OpenClaim := { program := "ytgcfiknoihnpgaa", sum := "7c62e460f98746d394c410eebba4f00ba9135a1cdfc48e6cd0eb65405aa4c93b", func := "signatory/signatorylaw28.ApprovalsStandingSpec", spec := "approvalsStandingSpec", inPlace := ["slices.overlaps[signatory/api.Approval]"], unfollowed := true, recurses := true, plainKeys := false, apart := false, narrowed := true }
def ApprovalsStandingSpecUptoSaid : Prop := approvalsStandingSpecUptoRow.holds Try.pinned (OpenSpec.upto approvalsStandingSpecSpec)

/-- 'signatorylaw28.ApprovalsLast', WHERE WHAT IT READS IS OF BULK AT MOST 1048576: true; the input reads as it did. -/
def approvalsLastUptoRow : OpenClaim := { program := "ytgcfiknoihnpgaa", sum := "7c62e460f98746d394c410eebba4f00ba9135a1cdfc48e6cd0eb65405aa4c93b", func := "signatory/signatorylaw28.ApprovalsLast", spec := "approvalsLast", inPlace := ["slices.overlaps[signatory/api.Approval]"], unfollowed := true, recurses := true, plainKeys := false, apart := false, narrowed := true }
def ApprovalsLastUptoSaid : Prop := approvalsLastUptoRow.holds Try.pinned (OpenSpec.upto approvalsLastSpec)

/-- 'signatorylaw28.ApprovalsThen', WHERE WHAT IT READS IS OF BULK AT MOST 1048576: true; the input reads as it did. -/
def approvalsThenUptoRow : OpenClaim := { program := "ytgcfiknoihnpgaa", sum := "7c62e460f98746d394c410eebba4f00ba9135a1cdfc48e6cd0eb65405aa4c93b", func := "signatory/signatorylaw28.ApprovalsThen", spec := "approvalsThen", inPlace := ["slices.overlaps[signatory/api.Approval]"], unfollowed := true, recurses := true, plainKeys := false, apart := false, narrowed := true }
def ApprovalsThenUptoSaid : Prop := approvalsThenUptoRow.holds Try.pinned (OpenSpec.upto approvalsThenSpec)

/-- 'signatorylaw28.ApprovalsThink', WHERE WHAT IT READS IS OF BULK AT MOST 1048576: true; the input reads as it did. -/
def approvalsThinkUptoRow : OpenClaim := { program := "ytgcfiknoihnpgaa", sum := "7c62e460f98746d394c410eebba4f00ba9135a1cdfc48e6cd0eb65405aa4c93b", func := "signatory/signatorylaw28.ApprovalsThink", spec := "approvalsThink", inPlace := ["slices.overlaps[signatory/api.Approval]"], unfollowed := true, recurses := true, plainKeys := false, apart := false, narrowed := true }
def ApprovalsThinkUptoSaid : Prop := approvalsThinkUptoRow.holds Try.pinned (OpenSpec.upto approvalsThinkSpec)

end Rows
end Go.Proofs.Ytgcfiknoihnpgaa
