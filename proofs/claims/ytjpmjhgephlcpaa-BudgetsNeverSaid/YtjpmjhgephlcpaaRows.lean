/-
  No cell of these rows narrows 'for every input' (looked for: loops, veiled, ifaces, maps, wideKeys, modest, calm, conditions, laid).
  DERIVED. THE GIVEN ROWS OF THIS SEAT. 6 by the template 'for every input the law returns true; each argument reads behind the call as it read before'; 0 by the template 'total and deterministic' (their statements: YtjpmjhgephlcpaaTotals.lean).
  GIVEN WITH THE SEED: the statements are not yours to turn. If you find one false, say at which input.
  Laid BY PROGRAM, IN A SANDBOX (cutbox-rows.mjs): the forced cells as the released guide's own fill.sh prints them over the translation 2ddc5c97dbcae528… (all of the seat's roots in one cut). By AI agents, Wed Nov 11 2026. No macro, syntax, notation, axiom, sorry.
-/
import Derived.Test.YtjpmjhgephlcpaaChecked
import GoSem.Claim
import GoSem.ClaimJoined
import GoSem.ClaimMapViews
import Derived.JoinedTies
import Derived.KernelRfl
namespace Go.Proofs.Ytjpmjhgephlcpaa
/- THE CELL 'sum', in the pinned program and in every row, IS THE sha256 OF THE DUMP (.gsa) THAT YtjpmjhgephlcpaaProg.lean LOADS. Nothing in Lean hashes anything: it is a label: what it is worth is what the hold of that sum in a sandbox is worth. -/
noncomputable def Try.pinned : Pinned := { name := "ytjpmjhgephlcpaa", sum := "2ddc5c97dbcae528940cbd071fbb89a9bc6b7f266a51465f383ce69528998754", checked := Try.checked }
namespace Rows
def none {H : Type} : Left H := { results := [], args := [] }

/-- 'signatorylaw18.BudgetsSpec': WHATEVER THE INPUT: true; the input reads as it did. -/
def budgetsSpecSpec : ChangeSpec := { name := "budgetsSpec", fn := fun _ => fun
  | [d1, d2] => { results := [.lit (.bool true)], args := [d1, d2] }
  | _ => none }
def budgetsSpecRow : OpenClaim := { program := "ytjpmjhgephlcpaa", sum := "2ddc5c97dbcae528940cbd071fbb89a9bc6b7f266a51465f383ce69528998754", func := "signatory/signatorylaw18.BudgetsSpec", spec := "budgetsSpec", inPlace := ["slices.overlaps[signatory/api.Budget]"], unfollowed := true, recurses := true, plainKeys := false, apart := false }
def BudgetsSpecSaid : Prop := budgetsSpecRow.holds Try.pinned (OpenSpec.ofChange budgetsSpecSpec)

/-- ITS FALSE NEIGHBOUR: 'it returns false'. Refute it at one input. -/
def budgetsSpecWrong : ChangeSpec := { name := "budgetsSpec", fn := fun _ => fun
  | [d1, d2] => { results := [.lit (.bool false)], args := [d1, d2] }
  | _ => none }
def BudgetsSpecWrongFalsely : Prop := budgetsSpecRow.holds Try.pinned (OpenSpec.ofChange budgetsSpecWrong)

/-- 'signatorylaw18.BudgetsRoomSpec': WHATEVER THE INPUT: true; the input reads as it did. -/
def budgetsRoomSpecSpec : ChangeSpec := { name := "budgetsRoomSpec", fn := fun _ => fun
  | [d1, d2, d3, d4, d5, d6] => { results := [.lit (.bool true)], args := [d1, d2, d3, d4, d5, d6] }
  | _ => none }
def budgetsRoomSpecRow : OpenClaim := { program := "ytjpmjhgephlcpaa", sum := "2ddc5c97dbcae528940cbd071fbb89a9bc6b7f266a51465f383ce69528998754", func := "signatory/signatorylaw18.BudgetsRoomSpec", spec := "budgetsRoomSpec", inPlace := ["slices.overlaps[signatory/api.Budget]"], unfollowed := true, recurses := true, plainKeys := false, apart := false }
def BudgetsRoomSpecSaid : Prop := budgetsRoomSpecRow.holds Try.pinned (OpenSpec.ofChange budgetsRoomSpecSpec)

/-- ITS FALSE NEIGHBOUR: 'it returns false'. Refute it at one input. -/
def budgetsRoomSpecWrong : ChangeSpec := { name := "budgetsRoomSpec", fn := fun _ => fun
  | [d1, d2, d3, d4, d5, d6] => { results := [.lit (.bool false)], args := [d1, d2, d3, d4, d5, d6] }
  | _ => none }
def BudgetsRoomSpecWrongFalsely : Prop := budgetsRoomSpecRow.holds Try.pinned (OpenSpec.ofChange budgetsRoomSpecWrong)

/-- 'signatorylaw18.BudgetsLast': WHATEVER THE INPUT: true; the input reads as it did. -/
def budgetsLastSpec : ChangeSpec := { name := "budgetsLast", fn := fun _ => fun
  | [d1, d2, d3, d4] => { results := [.lit (.bool true)], args := [d1, d2, d3, d4] }
  | _ => none }
def budgetsLastRow : OpenClaim := { program := "ytjpmjhgephlcpaa", sum := "2ddc5c97dbcae528940cbd071fbb89a9bc6b7f266a51465f383ce69528998754", func := "signatory/signatorylaw18.BudgetsLast", spec := "budgetsLast", inPlace := ["slices.overlaps[signatory/api.Budget]"], unfollowed := true, recurses := true, plainKeys := false, apart := false }
def BudgetsLastSaid : Prop := budgetsLastRow.holds Try.pinned (OpenSpec.ofChange budgetsLastSpec)

/-- ITS FALSE NEIGHBOUR: 'it returns false'. Refute it at one input. -/
def budgetsLastWrong : ChangeSpec := { name := "budgetsLast", fn := fun _ => fun
  | [d1, d2, d3, d4] => { results := [.lit (.bool false)], args := [d1, d2, d3, d4] }
  | _ => none }
def BudgetsLastWrongFalsely : Prop := budgetsLastRow.holds Try.pinned (OpenSpec.ofChange budgetsLastWrong)

/-- 'signatorylaw18.BudgetsNever': WHATEVER THE INPUT: true; the input reads as it did. -/
def budgetsNeverSpec : ChangeSpec := { name := "budgetsNever", fn := fun _ => fun
  | [d1, d2] => { results := [.lit (.bool true)], args := [d1, d2] }
  | _ => none }
def budgetsNeverRow : OpenClaim := { program := "ytjpmjhgephlcpaa", sum := "2ddc5c97dbcae528940cbd071fbb89a9bc6b7f266a51465f383ce69528998754", func := "signatory/signatorylaw18.BudgetsNever", spec := "budgetsNever", inPlace := ["slices.overlaps[signatory/api.Budget]"], unfollowed := true, recurses := true, plainKeys := false, apart := false }
def BudgetsNeverSaid : Prop := budgetsNeverRow.holds Try.pinned (OpenSpec.ofChange budgetsNeverSpec)

/-- ITS FALSE NEIGHBOUR: 'it returns false'. Refute it at one input. -/
def budgetsNeverWrong : ChangeSpec := { name := "budgetsNever", fn := fun _ => fun
  | [d1, d2] => { results := [.lit (.bool false)], args := [d1, d2] }
  | _ => none }
def BudgetsNeverWrongFalsely : Prop := budgetsNeverRow.holds Try.pinned (OpenSpec.ofChange budgetsNeverWrong)

/-- 'signatorylaw18.BudgetsLess': WHATEVER THE INPUT: true; the input reads as it did. -/
def budgetsLessSpec : ChangeSpec := { name := "budgetsLess", fn := fun _ => fun
  | [d1, d2, d3, d4, d5, d6, d7, d8] => { results := [.lit (.bool true)], args := [d1, d2, d3, d4, d5, d6, d7, d8] }
  | _ => none }
def budgetsLessRow : OpenClaim := { program := "ytjpmjhgephlcpaa", sum := "2ddc5c97dbcae528940cbd071fbb89a9bc6b7f266a51465f383ce69528998754", func := "signatory/signatorylaw18.BudgetsLess", spec := "budgetsLess", inPlace := ["slices.overlaps[signatory/api.Budget]"], unfollowed := true, recurses := true, plainKeys := false, apart := false }
def BudgetsLessSaid : Prop := budgetsLessRow.holds Try.pinned (OpenSpec.ofChange budgetsLessSpec)

/-- ITS FALSE NEIGHBOUR: 'it returns false'. Refute it at one input. -/
def budgetsLessWrong : ChangeSpec := { name := "budgetsLess", fn := fun _ => fun
  | [d1, d2, d3, d4, d5, d6, d7, d8] => { results := [.lit (.bool false)], args := [d1, d2, d3, d4, d5, d6, d7, d8] }
  | _ => none }
def BudgetsLessWrongFalsely : Prop := budgetsLessRow.holds Try.pinned (OpenSpec.ofChange budgetsLessWrong)

/-- 'signatorylaw18.BudgetsOthers': WHATEVER THE INPUT: true; the input reads as it did. -/
def budgetsOthersSpec : ChangeSpec := { name := "budgetsOthers", fn := fun _ => fun
  | [d1, d2, d3, d4, d5, d6, d7] => { results := [.lit (.bool true)], args := [d1, d2, d3, d4, d5, d6, d7] }
  | _ => none }
def budgetsOthersRow : OpenClaim := { program := "ytjpmjhgephlcpaa", sum := "2ddc5c97dbcae528940cbd071fbb89a9bc6b7f266a51465f383ce69528998754", func := "signatory/signatorylaw18.BudgetsOthers", spec := "budgetsOthers", inPlace := ["slices.overlaps[signatory/api.Budget]"], unfollowed := true, recurses := true, plainKeys := false, apart := false }
def BudgetsOthersSaid : Prop := budgetsOthersRow.holds Try.pinned (OpenSpec.ofChange budgetsOthersSpec)

/-- ITS FALSE NEIGHBOUR: 'it returns false'. Refute it at one input. -/
def budgetsOthersWrong : ChangeSpec := { name := "budgetsOthers", fn := fun _ => fun
  | [d1, d2, d3, d4, d5, d6, d7] => { results := [.lit (.bool false)], args := [d1, d2, d3, d4, d5, d6, d7] }
  | _ => none }
def BudgetsOthersWrongFalsely : Prop := budgetsOthersRow.holds Try.pinned (OpenSpec.ofChange budgetsOthersWrong)

/- THE SECOND FORM. 'bulk': how many values and letters a reading holds, each counted each time it is reached (what is shared counts as often as it is met; a slice's spare places count too). A statement '..UptoSaid' is the law's where the arguments, and the package variables that the reading takes, are together of bulk at most 1048576: NARROWER than '..Said'. Prove '..Said' where nothing that the law and all that it calls make is longer than what came in: it says more and counts as full. Else prove '..UptoSaid'. A law counts once. -/
mutual
def uptoBulk {H : Type} : DataW H → Nat
  | .lit (.string bytes) => bytes.length + 1
  | .lit _ => 1
  | .nil => 1
  | .ptr d => uptoBulk d + 1
  | .slice elems spare => uptoBulkAll elems + uptoBulkAll spare + 1
  | .agg parts => uptoBulkAll parts + 1
  | .iface _ d => uptoBulk d + 1
  | .map entries => uptoBulkEntries entries + 1
  | .held _ => 1
def uptoBulkAll {H : Type} : List (DataW H) → Nat
  | [] => 0
  | d :: r => uptoBulk d + uptoBulkAll r
def uptoBulkEntries {H : Type} : List (Lit × DataW H) → Nat
  | [] => 0
  | x :: r => uptoBulkEntry x + uptoBulkEntries r
def uptoBulkEntry {H : Type} : Lit × DataW H → Nat
  | (.string bytes, d) => bytes.length + uptoBulk d + 1
  | (_, d) => uptoBulk d + 1
 end
def uptoSmall : (H : Type) → List (DataW H) → Bool := fun _ ds => decide (uptoBulkAll ds ≤ 1048576)
def OpenSpec.upto (s : _root_.Go.ChangeSpec) : _root_.Go.OpenSpec := { _root_.Go.OpenSpec.ofChange s with cond := some uptoSmall }

/-- 'signatorylaw18.BudgetsSpec', WHERE WHAT IT READS IS OF BULK AT MOST 1048576: true; the input reads as it did. -/
def budgetsSpecUptoRow : OpenClaim := { program := "ytjpmjhgephlcpaa", sum := "2ddc5c97dbcae528940cbd071fbb89a9bc6b7f266a51465f383ce69528998754", func := "signatory/signatorylaw18.BudgetsSpec", spec := "budgetsSpec", inPlace := ["slices.overlaps[signatory/api.Budget]"], unfollowed := true, recurses := true, plainKeys := false, apart := false, narrowed := true }
def BudgetsSpecUptoSaid : Prop := budgetsSpecUptoRow.holds Try.pinned (OpenSpec.upto budgetsSpecSpec)

/-- 'signatorylaw18.BudgetsRoomSpec', WHERE WHAT IT READS IS OF BULK AT MOST 1048576: true; the input reads as it did. -/
def budgetsRoomSpecUptoRow : OpenClaim := { program := "ytjpmjhgephlcpaa", sum := "2ddc5c97dbcae528940cbd071fbb89a9bc6b7f266a51465f383ce69528998754", func := "signatory/signatorylaw18.BudgetsRoomSpec", spec := "budgetsRoomSpec", inPlace := ["slices.overlaps[signatory/api.Budget]"], unfollowed := true, recurses := true, plainKeys := false, apart := false, narrowed := true }
def BudgetsRoomSpecUptoSaid : Prop := budgetsRoomSpecUptoRow.holds Try.pinned (OpenSpec.upto budgetsRoomSpecSpec)

/-- 'signatorylaw18.BudgetsLast', WHERE WHAT IT READS IS OF BULK AT MOST 1048576: true; the input reads as it did. -/
def budgetsLastUptoRow : OpenClaim := { program := "ytjpmjhgephlcpaa", sum := "2ddc5c97dbcae528940cbd071fbb89a9bc6b7f266a51465f383ce69528998754", func := "signatory/signatorylaw18.BudgetsLast", spec := "budgetsLast", inPlace := ["slices.overlaps[signatory/api.Budget]"], unfollowed := true, recurses := true, plainKeys := false, apart := false, narrowed := true }
def BudgetsLastUptoSaid : Prop := budgetsLastUptoRow.holds Try.pinned (OpenSpec.upto budgetsLastSpec)

/-- 'signatorylaw18.BudgetsNever', WHERE WHAT IT READS IS OF BULK AT MOST 1048576: true; the input reads as it did. -/
def budgetsNeverUptoRow : OpenClaim := { program := "ytjpmjhgephlcpaa", sum := "2ddc5c97dbcae528940cbd071fbb89a9bc6b7f266a51465f383ce69528998754", func := "signatory/signatorylaw18.BudgetsNever", spec := "budgetsNever", inPlace := ["slices.overlaps[signatory/api.Budget]"], unfollowed := true, recurses := true, plainKeys := false, apart := false, narrowed := true }
def BudgetsNeverUptoSaid : Prop := budgetsNeverUptoRow.holds Try.pinned (OpenSpec.upto budgetsNeverSpec)

/-- 'signatorylaw18.BudgetsLess', WHERE WHAT IT READS IS OF BULK AT MOST 1048576: true; the input reads as it did. -/
def budgetsLessUptoRow : OpenClaim := { program := "ytjpmjhgephlcpaa", sum := "2ddc5c97dbcae528940cbd071fbb89a9bc6b7f266a51465f383ce69528998754", func := "signatory/signatorylaw18.BudgetsLess", spec := "budgetsLess", inPlace := ["slices.overlaps[signatory/api.Budget]"], unfollowed := true, recurses := true, plainKeys := false, apart := false, narrowed := true }
def BudgetsLessUptoSaid : Prop := budgetsLessUptoRow.holds Try.pinned (OpenSpec.upto budgetsLessSpec)

/-- 'signatorylaw18.BudgetsOthers', WHERE WHAT IT READS IS OF BULK AT MOST 1048576: true; the input reads as it did. -/
def budgetsOthersUptoRow : OpenClaim := { program := "ytjpmjhgephlcpaa", sum := "2ddc5c97dbcae528940cbd071fbb89a9bc6b7f266a51465f383ce69528998754", func := "signatory/signatorylaw18.BudgetsOthers", spec := "budgetsOthers", inPlace := ["slices.overlaps[signatory/api.Budget]"], unfollowed := true, recurses := true, plainKeys := false, apart := false, narrowed := true }
def BudgetsOthersUptoSaid : Prop := budgetsOthersUptoRow.holds Try.pinned (OpenSpec.upto budgetsOthersSpec)

end Rows
end Go.Proofs.Ytjpmjhgephlcpaa
