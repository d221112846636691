/-
  No cell of these rows narrows 'for every input' (looked for: loops, veiled, ifaces, maps, wideKeys, modest, calm, conditions, laid).
  DERIVED. THE GIVEN ROWS OF THIS SEAT. 6 by the template 'for every input the law returns true; each argument reads behind the call as it read before'; 0 by the template 'total and deterministic' (their statements: YthlpjjnfcpjgoaaTotals.lean).
  GIVEN WITH THE SEED: the statements are not yours to turn. If you find one false, say at which input.
  Laid BY PROGRAM, IN A SANDBOX (cutbox-rows.mjs): the forced cells as the released guide's own fill.sh prints them over the translation 99efc7ab3676e3c8… (all of the seat's roots in one cut). By AI agents, Wed Nov 11 2026. No macro, syntax, notation, axiom, sorry.
-/
import Derived.Test.YthlpjjnfcpjgoaaChecked
import GoSem.Claim
import GoSem.ClaimJoined
import GoSem.ClaimMapViews
import Derived.JoinedTies
import Derived.KernelRfl
namespace Go.Proofs.Ythlpjjnfcpjgoaa
/- THE CELL 'sum', in the pinned program and in every row, IS THE sha256 OF THE DUMP (.gsa) THAT YthlpjjnfcpjgoaaProg.lean LOADS. Nothing in Lean hashes anything: it is a label: what it is worth is what the hold of that sum in a sandbox is worth. -/
noncomputable def Try.pinned : Pinned := { name := "ythlpjjnfcpjgoaa", sum := "99efc7ab3676e3c80ed261e774c4226ff727b4a75e635089b2f1f2e329529862", checked := Try.checked }
namespace Rows
def none {H : Type} : Left H := { results := [], args := [] }

/-- 'signatorylaw29.InterestsSpec': WHATEVER THE INPUT: true; the input reads as it did. -/
def interestsSpecSpec : ChangeSpec := { name := "interestsSpec", fn := fun _ => fun
  | [d1, d2] => { results := [.lit (.bool true)], args := [d1, d2] }
  | _ => none }
def interestsSpecRow : OpenClaim := { program := "ythlpjjnfcpjgoaa", sum := "99efc7ab3676e3c80ed261e774c4226ff727b4a75e635089b2f1f2e329529862", func := "signatory/signatorylaw29.InterestsSpec", spec := "interestsSpec", inPlace := ["slices.overlaps[signatory/api.Interest]"], unfollowed := true, recurses := true, plainKeys := false, apart := false }
def InterestsSpecSaid : Prop := interestsSpecRow.holds Try.pinned (OpenSpec.ofChange interestsSpecSpec)

/-- ITS FALSE NEIGHBOUR: 'it returns false'. Refute it at one input. -/
def interestsSpecWrong : ChangeSpec := { name := "interestsSpec", fn := fun _ => fun
  | [d1, d2] => { results := [.lit (.bool false)], args := [d1, d2] }
  | _ => none }
def InterestsSpecWrongFalsely : Prop := interestsSpecRow.holds Try.pinned (OpenSpec.ofChange interestsSpecWrong)

/-- 'signatorylaw29.InterestsConflictSpec': WHATEVER THE INPUT: true; the input reads as it did. -/
def interestsConflictSpecSpec : ChangeSpec := { name := "interestsConflictSpec", fn := fun _ => fun
  | [d1, d2, d3, d4, d5, d6] => { results := [.lit (.bool true)], args := [d1, d2, d3, d4, d5, d6] }
  | _ => none }
def interestsConflictSpecRow : OpenClaim := { program := "ythlpjjnfcpjgoaa", sum := "99efc7ab3676e3c80ed261e774c4226ff727b4a75e635089b2f1f2e329529862", func := "signatory/signatorylaw29.InterestsConflictSpec", spec := "interestsConflictSpec", inPlace := ["slices.overlaps[signatory/api.Interest]"], unfollowed := true, recurses := true, plainKeys := false, apart := false }
def InterestsConflictSpecSaid : Prop := interestsConflictSpecRow.holds Try.pinned (OpenSpec.ofChange interestsConflictSpecSpec)

/-- ITS FALSE NEIGHBOUR: 'it returns false'. Refute it at one input. -/
def interestsConflictSpecWrong : ChangeSpec := { name := "interestsConflictSpec", fn := fun _ => fun
  | [d1, d2, d3, d4, d5, d6] => { results := [.lit (.bool false)], args := [d1, d2, d3, d4, d5, d6] }
  | _ => none }
def InterestsConflictSpecWrongFalsely : Prop := interestsConflictSpecRow.holds Try.pinned (OpenSpec.ofChange interestsConflictSpecWrong)

/-- 'signatorylaw29.InterestsPath': WHATEVER THE INPUT: true; the input reads as it did. -/
def interestsPathSpec : ChangeSpec := { name := "interestsPath", fn := fun _ => fun
  | [d1, d2, d3, d4, d5, d6] => { results := [.lit (.bool true)], args := [d1, d2, d3, d4, d5, d6] }
  | _ => none }
def interestsPathRow : OpenClaim := { program := "ythlpjjnfcpjgoaa", sum := "99efc7ab3676e3c80ed261e774c4226ff727b4a75e635089b2f1f2e329529862", func := "signatory/signatorylaw29.InterestsPath", spec := "interestsPath", inPlace := ["slices.overlaps[signatory/api.Interest]"], unfollowed := true, recurses := true, plainKeys := false, apart := false }
def InterestsPathSaid : Prop := interestsPathRow.holds Try.pinned (OpenSpec.ofChange interestsPathSpec)

/-- ITS FALSE NEIGHBOUR: 'it returns false'. Refute it at one input. -/
def interestsPathWrong : ChangeSpec := { name := "interestsPath", fn := fun _ => fun
  | [d1, d2, d3, d4, d5, d6] => { results := [.lit (.bool false)], args := [d1, d2, d3, d4, d5, d6] }
  | _ => none }
def InterestsPathWrongFalsely : Prop := interestsPathRow.holds Try.pinned (OpenSpec.ofChange interestsPathWrong)

/-- 'signatorylaw29.InterestsSteps': WHATEVER THE INPUT: true; the input reads as it did. -/
def interestsStepsSpec : ChangeSpec := { name := "interestsSteps", fn := fun _ => fun
  | [d1, d2, d3, d4, d5] => { results := [.lit (.bool true)], args := [d1, d2, d3, d4, d5] }
  | _ => none }
def interestsStepsRow : OpenClaim := { program := "ythlpjjnfcpjgoaa", sum := "99efc7ab3676e3c80ed261e774c4226ff727b4a75e635089b2f1f2e329529862", func := "signatory/signatorylaw29.InterestsSteps", spec := "interestsSteps", inPlace := ["slices.overlaps[signatory/api.Interest]"], unfollowed := true, recurses := true, plainKeys := false, apart := false }
def InterestsStepsSaid : Prop := interestsStepsRow.holds Try.pinned (OpenSpec.ofChange interestsStepsSpec)

/-- ITS FALSE NEIGHBOUR: 'it returns false'. Refute it at one input. -/
def interestsStepsWrong : ChangeSpec := { name := "interestsSteps", fn := fun _ => fun
  | [d1, d2, d3, d4, d5] => { results := [.lit (.bool false)], args := [d1, d2, d3, d4, d5] }
  | _ => none }
def InterestsStepsWrongFalsely : Prop := interestsStepsRow.holds Try.pinned (OpenSpec.ofChange interestsStepsWrong)

/-- 'signatorylaw29.InterestsLater': WHATEVER THE INPUT: true; the input reads as it did. -/
def interestsLaterSpec : ChangeSpec := { name := "interestsLater", fn := fun _ => fun
  | [d1, d2, d3, d4, d5, d6] => { results := [.lit (.bool true)], args := [d1, d2, d3, d4, d5, d6] }
  | _ => none }
def interestsLaterRow : OpenClaim := { program := "ythlpjjnfcpjgoaa", sum := "99efc7ab3676e3c80ed261e774c4226ff727b4a75e635089b2f1f2e329529862", func := "signatory/signatorylaw29.InterestsLater", spec := "interestsLater", inPlace := ["slices.overlaps[signatory/api.Interest]"], unfollowed := true, recurses := true, plainKeys := false, apart := false }
def InterestsLaterSaid : Prop := interestsLaterRow.holds Try.pinned (OpenSpec.ofChange interestsLaterSpec)

/-- ITS FALSE NEIGHBOUR: 'it returns false'. Refute it at one input. -/
def interestsLaterWrong : ChangeSpec := { name := "interestsLater", fn := fun _ => fun
  | [d1, d2, d3, d4, d5, d6] => { results := [.lit (.bool false)], args := [d1, d2, d3, d4, d5, d6] }
  | _ => none }
def InterestsLaterWrongFalsely : Prop := interestsLaterRow.holds Try.pinned (OpenSpec.ofChange interestsLaterWrong)

/-- 'signatorylaw29.InterestsAdded': WHATEVER THE INPUT: true; the input reads as it did. -/
def interestsAddedSpec : ChangeSpec := { name := "interestsAdded", fn := fun _ => fun
  | [d1, d2, d3, d4, d5, d6, d7] => { results := [.lit (.bool true)], args := [d1, d2, d3, d4, d5, d6, d7] }
  | _ => none }
def interestsAddedRow : OpenClaim := { program := "ythlpjjnfcpjgoaa", sum := "99efc7ab3676e3c80ed261e774c4226ff727b4a75e635089b2f1f2e329529862", func := "signatory/signatorylaw29.InterestsAdded", spec := "interestsAdded", inPlace := ["slices.overlaps[signatory/api.Interest]"], unfollowed := true, recurses := true, plainKeys := false, apart := false }
def InterestsAddedSaid : Prop := interestsAddedRow.holds Try.pinned (OpenSpec.ofChange interestsAddedSpec)

/-- ITS FALSE NEIGHBOUR: 'it returns false'. Refute it at one input. -/
def interestsAddedWrong : ChangeSpec := { name := "interestsAdded", fn := fun _ => fun
  | [d1, d2, d3, d4, d5, d6, d7] => { results := [.lit (.bool false)], args := [d1, d2, d3, d4, d5, d6, d7] }
  | _ => none }
def InterestsAddedWrongFalsely : Prop := interestsAddedRow.holds Try.pinned (OpenSpec.ofChange interestsAddedWrong)

/- THE SECOND FORM. 'bulk': how many values and letters a reading holds, each counted each time it is reached (what is shared counts as often as it is met; a slice's spare places count too). A statement '..UptoSaid' is the law's where the arguments, and the package variables that the reading takes, are together of bulk at most 1048576: NARROWER than '..Said'. Prove '..Said' where nothing that the law and all that it calls make is longer than what came in: it says more and counts as full. Else prove '..UptoSaid'. A law counts once. -/
mutual
def uptoBulk {H : Type} : DataW H → Nat
  | .lit (.string bytes) => bytes.length + 1
  | .lit _ => 1
  | .nil => 1
  | .ptr d => uptoBulk d + 1
  | .slice elems spare => uptoBulkAll elems + uptoBulkAll spare + 1
  | .agg parts => uptoBulkAll parts + 1
  | .iface _ d => uptoBulk d + 1
  | .map entries => uptoBulkEntries entries + 1
  | .held _ => 1
def uptoBulkAll {H : Type} : List (DataW H) → Nat
  | [] => 0
  | d :: r => uptoBulk d + uptoBulkAll r
def uptoBulkEntries {H : Type} : List (Lit × DataW H) → Nat
  | [] => 0
  | x :: r => uptoBulkEntry x + uptoBulkEntries r
def uptoBulkEntry {H : Type} : Lit × DataW H → Nat
  | (.string bytes, d) => bytes.length + uptoBulk d + 1
  | (_, d) => uptoBulk d + 1
 end
def uptoSmall : (H : Type) → List (DataW H) → Bool := fun _ ds => decide (uptoBulkAll ds ≤ 1048576)
def OpenSpec.upto (s : _root_.Go.ChangeSpec) : _root_.Go.OpenSpec := { _root_.Go.OpenSpec.ofChange s with cond := some uptoSmall }

/-- 'signatorylaw29.InterestsSpec', WHERE WHAT IT READS IS OF BULK AT MOST 1048576: true; the input reads as it did. -/
def interestsSpecUptoRow : OpenClaim := { program := "ythlpjjnfcpjgoaa", sum := "99efc7ab3676e3c80ed261e774c4226ff727b4a75e635089b2f1f2e329529862", func := "signatory/signatorylaw29.InterestsSpec", spec := "interestsSpec", inPlace := ["slices.overlaps[signatory/api.Interest]"], unfollowed := true, recurses := true, plainKeys := false, apart := false, narrowed := true }
def InterestsSpecUptoSaid : Prop := interestsSpecUptoRow.holds Try.pinned (OpenSpec.upto interestsSpecSpec)

/-- 'signatorylaw29.InterestsConflictSpec', WHERE WHAT IT READS IS OF BULK AT MOST 1048576: true; the input reads as it did. -/
def interestsConflictSpecUptoRow : OpenClaim := { program := "ythlpjjnfcpjgoaa", sum := "99efc7ab3676e3c80ed261e774c4226ff727b4a75e635089b2f1f2e329529862", func := "signatory/signatorylaw29.InterestsConflictSpec", spec := "interestsConflictSpec", inPlace := ["slices.overlaps[signatory/api.Interest]"], unfollowed := true, recurses := true, plainKeys := false, apart := false, narrowed := true }
def InterestsConflictSpecUptoSaid : Prop := interestsConflictSpecUptoRow.holds Try.pinned (OpenSpec.upto interestsConflictSpecSpec)

/-- 'signatorylaw29.InterestsPath', WHERE WHAT IT READS IS OF BULK AT MOST 1048576: true; the input reads as it did. -/
def interestsPathUptoRow : OpenClaim := { program := "ythlpjjnfcpjgoaa", sum := "99efc7ab3676e3c80ed261e774c4226ff727b4a75e635089b2f1f2e329529862", func := "signatory/signatorylaw29.InterestsPath", spec := "interestsPath", inPlace := ["slices.overlaps[signatory/api.Interest]"], unfollowed := true, recurses := true, plainKeys := false, apart := false, narrowed := true }
def InterestsPathUptoSaid : Prop := interestsPathUptoRow.holds Try.pinned (OpenSpec.upto interestsPathSpec)

/-- 'signatorylaw29.InterestsSteps', WHERE WHAT IT READS IS OF BULK AT MOST 1048576: true; the input reads as it did. -/
def interestsStepsUptoRow : OpenClaim := { program := "ythlpjjnfcpjgoaa", sum := "99efc7ab3676e3c80ed261e774c4226ff727b4a75e635089b2f1f2e329529862", func := "signatory/signatorylaw29.InterestsSteps", spec := "interestsSteps", inPlace := ["slices.overlaps[signatory/api.Interest]"], unfollowed := true, recurses := true, plainKeys := false, apart := false, narrowed := true }
def InterestsStepsUptoSaid : Prop := interestsStepsUptoRow.holds Try.pinned (OpenSpec.upto interestsStepsSpec)

/-- 'signatorylaw29.InterestsLater', WHERE WHAT IT READS IS OF BULK AT MOST 1048576: true; the input reads as it did. -/
def interestsLaterUptoRow : OpenClaim := { program := "ythlpjjnfcpjgoaa", sum := "99efc7ab3676e3c80ed261e774c4226ff727b4a75e635089b2f1f2e329529862", func := "signatory/signatorylaw29.InterestsLater", spec := "interestsLater", inPlace := ["slices.overlaps[signatory/api.Interest]"], unfollowed := true, recurses := true, plainKeys := false, apart := false, narrowed := true }
def InterestsLaterUptoSaid : Prop := interestsLaterUptoRow.holds Try.pinned (OpenSpec.upto interestsLaterSpec)

/-- 'signatorylaw29.InterestsAdded', WHERE WHAT IT READS IS OF BULK AT MOST 1048576: true; the input reads as it did. -/
def interestsAddedUptoRow : OpenClaim := { program := "ythlpjjnfcpjgoaa", sum := "99efc7ab3676e3c80ed261e774c4226ff727b4a75e635089b2f1f2e329529862", func := "signatory/signatorylaw29.InterestsAdded", spec := "interestsAdded", inPlace := ["slices.overlaps[signatory/api.Interest]"], unfollowed := true, recurses := true, plainKeys := false, apart := false, narrowed := true }
def InterestsAddedUptoSaid : Prop := interestsAddedUptoRow.holds Try.pinned (OpenSpec.upto interestsAddedSpec)

end Rows
end Go.Proofs.Ythlpjjnfcpjgoaa
