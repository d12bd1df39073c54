/-
  NARROWER THAN 'FOR EVERY INPUT', by the rows' own cells (each row's printed sentence says how): ArithEvals: loops · ArithCompares: loops · ArithBalls: loops.
  DERIVED. THE GIVEN ROWS OF THIS SEAT. 5 by the template 'for every input the law returns true; each argument reads behind the call as it read before'; 0 by the template 'total and deterministic' (their statements: YtplnilpdfnbdpaaTotals.lean).
  GIVEN WITH THE SEED: the statements are not yours to turn. If you find one false, say at which input.
  Laid BY PROGRAM, IN A SANDBOX (cutbox-rows.mjs): the forced cells as the released guide's own fill.sh prints them over the translation 9328f3d29b226d18… (all of the seat's roots in one cut). By AI agents, Wed Nov 11 2026. No macro, syntax, notation, axiom, sorry.
-/
import Derived.Test.YtplnilpdfnbdpaaChecked
import GoSem.Claim
import GoSem.ClaimJoined
import GoSem.ClaimMapViews
import Derived.JoinedTies
import Derived.KernelRfl
namespace Go.Proofs.Ytplnilpdfnbdpaa
/- THE CELL 'sum', in the pinned program and in every row, IS THE sha256 OF THE DUMP (.gsa) THAT YtplnilpdfnbdpaaProg.lean LOADS. Nothing in Lean hashes anything: it is a label: what it is worth is what the hold of that sum in a sandbox is worth. -/
noncomputable def Try.pinned : Pinned := { name := "ytplnilpdfnbdpaa", sum := "9328f3d29b226d18e0be14a3069d14ea788b121a4ca60dfe64b93a0bac64b324", checked := Try.checked }
namespace Rows
def none {H : Type} : Left H := { results := [], args := [] }

/-- 'elenchuslaw13.ArithEvals': WHATEVER THE INPUT: true; the input reads as it did. -/
def arithEvalsSpec : ChangeSpec := { name := "arithEvals", fn := fun _ => fun
  | [d] => { results := [.lit (.bool true)], args := [d] }
  | _ => none }
def arithEvalsRow : OpenClaim := { program := "ytplnilpdfnbdpaa", sum := "9328f3d29b226d18e0be14a3069d14ea788b121a4ca60dfe64b93a0bac64b324", func := "elenchus/elenchuslaw13.ArithEvals", spec := "arithEvals", unfollowed := true, recurses := true, loops := true, apart := false }
def ArithEvalsSaid : Prop := arithEvalsRow.holds Try.pinned (OpenSpec.ofChange arithEvalsSpec)

/-- ITS FALSE NEIGHBOUR: 'it returns false'. Refute it at one input. -/
def arithEvalsWrong : ChangeSpec := { name := "arithEvals", fn := fun _ => fun
  | [d] => { results := [.lit (.bool false)], args := [d] }
  | _ => none }
def ArithEvalsWrongFalsely : Prop := arithEvalsRow.holds Try.pinned (OpenSpec.ofChange arithEvalsWrong)

/-- 'elenchuslaw13.ArithCompares': WHATEVER THE INPUT: true; the input reads as it did. -/
def arithComparesSpec : ChangeSpec := { name := "arithCompares", fn := fun _ => fun
  | [d1, d2, d3] => { results := [.lit (.bool true)], args := [d1, d2, d3] }
  | _ => none }
def arithComparesRow : OpenClaim := { program := "ytplnilpdfnbdpaa", sum := "9328f3d29b226d18e0be14a3069d14ea788b121a4ca60dfe64b93a0bac64b324", func := "elenchus/elenchuslaw13.ArithCompares", spec := "arithCompares", unfollowed := true, recurses := true, loops := true, apart := false }
def ArithComparesSaid : Prop := arithComparesRow.holds Try.pinned (OpenSpec.ofChange arithComparesSpec)

/-- ITS FALSE NEIGHBOUR: 'it returns false'. Refute it at one input. -/
def arithComparesWrong : ChangeSpec := { name := "arithCompares", fn := fun _ => fun
  | [d1, d2, d3] => { results := [.lit (.bool false)], args := [d1, d2, d3] }
  | _ => none }
def ArithComparesWrongFalsely : Prop := arithComparesRow.holds Try.pinned (OpenSpec.ofChange arithComparesWrong)

/-- 'elenchuslaw13.ArithParts': WHATEVER THE INPUT: true; the input reads as it did. -/
def arithPartsSpec : ChangeSpec := { name := "arithParts", fn := fun _ => fun
  | [d1, d2] => { results := [.lit (.bool true)], args := [d1, d2] }
  | _ => none }
def arithPartsRow : OpenClaim := { program := "ytplnilpdfnbdpaa", sum := "9328f3d29b226d18e0be14a3069d14ea788b121a4ca60dfe64b93a0bac64b324", func := "elenchus/elenchuslaw13.ArithParts", spec := "arithParts", unfollowed := true, recurses := true, apart := false }
def ArithPartsSaid : Prop := arithPartsRow.holds Try.pinned (OpenSpec.ofChange arithPartsSpec)

/-- ITS FALSE NEIGHBOUR: 'it returns false'. Refute it at one input. -/
def arithPartsWrong : ChangeSpec := { name := "arithParts", fn := fun _ => fun
  | [d1, d2] => { results := [.lit (.bool false)], args := [d1, d2] }
  | _ => none }
def ArithPartsWrongFalsely : Prop := arithPartsRow.holds Try.pinned (OpenSpec.ofChange arithPartsWrong)

/-- 'elenchuslaw13.ArithBalls': WHATEVER THE INPUT: true; the input reads as it did. -/
def arithBallsSpec : ChangeSpec := { name := "arithBalls", fn := fun _ => fun
  | [d1, d2] => { results := [.lit (.bool true)], args := [d1, d2] }
  | _ => none }
def arithBallsRow : OpenClaim := { program := "ytplnilpdfnbdpaa", sum := "9328f3d29b226d18e0be14a3069d14ea788b121a4ca60dfe64b93a0bac64b324", func := "elenchus/elenchuslaw13.ArithBalls", spec := "arithBalls", unfollowed := true, recurses := true, loops := true, apart := false }
def ArithBallsSaid : Prop := arithBallsRow.holds Try.pinned (OpenSpec.ofChange arithBallsSpec)

/-- ITS FALSE NEIGHBOUR: 'it returns false'. Refute it at one input. -/
def arithBallsWrong : ChangeSpec := { name := "arithBalls", fn := fun _ => fun
  | [d1, d2] => { results := [.lit (.bool false)], args := [d1, d2] }
  | _ => none }
def ArithBallsWrongFalsely : Prop := arithBallsRow.holds Try.pinned (OpenSpec.ofChange arithBallsWrong)

/-- 'elenchuslaw13.ArithLaws': WHATEVER THE INPUT: true; the input reads as it did. -/
def arithLawsSpec : ChangeSpec := { name := "arithLaws", fn := fun _ => fun
  | [d1, d2] => { results := [.lit (.bool true)], args := [d1, d2] }
  | _ => none }
def arithLawsRow : OpenClaim := { program := "ytplnilpdfnbdpaa", sum := "9328f3d29b226d18e0be14a3069d14ea788b121a4ca60dfe64b93a0bac64b324", func := "elenchus/elenchuslaw13.ArithLaws", spec := "arithLaws", unfollowed := true, recurses := true, apart := false }
def ArithLawsSaid : Prop := arithLawsRow.holds Try.pinned (OpenSpec.ofChange arithLawsSpec)

/-- ITS FALSE NEIGHBOUR: 'it returns false'. Refute it at one input. -/
def arithLawsWrong : ChangeSpec := { name := "arithLaws", fn := fun _ => fun
  | [d1, d2] => { results := [.lit (.bool false)], args := [d1, d2] }
  | _ => none }
def ArithLawsWrongFalsely : Prop := arithLawsRow.holds Try.pinned (OpenSpec.ofChange arithLawsWrong)

/- THE SECOND FORM. 'bulk': how many values and letters a reading holds, each counted each time it is reached (what is shared counts as often as it is met; a slice's spare places count too). A statement '..UptoSaid' is the law's where the arguments, and the package variables that the reading takes, are together of bulk at most 1048576: NARROWER than '..Said'. Prove '..Said' where nothing that the law and all that it calls make is longer than what came in: it says more and counts as full. Else prove '..UptoSaid'. A law counts once. -/
mutual
def uptoBulk {H : Type} : DataW H → Nat
  | .lit (.string bytes) => bytes.length + 1
  | .lit _ => 1
  | .nil => 1
  | .ptr d => uptoBulk d + 1
  | .slice elems spare => uptoBulkAll elems + uptoBulkAll spare + 1
  | .agg parts => uptoBulkAll parts + 1
  | .iface _ d => uptoBulk d + 1
  | .map entries => uptoBulkEntries entries + 1
  | .held _ => 1
def uptoBulkAll {H : Type} : List (DataW H) → Nat
  | [] => 0
  | d :: r => uptoBulk d + uptoBulkAll r
def uptoBulkEntries {H : Type} : List (Lit × DataW H) → Nat
  | [] => 0
  | x :: r => uptoBulkEntry x + uptoBulkEntries r
def uptoBulkEntry {H : Type} : Lit × DataW H → Nat
  | (.string bytes, d) => bytes.length + uptoBulk d + 1
  | (_, d) => uptoBulk d + 1
 end
def uptoSmall : (H : Type) → List (DataW H) → Bool := fun _ ds => decide (uptoBulkAll ds ≤ 1048576)
def OpenSpec.upto (s : _root_.Go.ChangeSpec) : _root_.Go.OpenSpec := { _root_.Go.OpenSpec.ofChange s with cond := some uptoSmall }

/-- 'elenchuslaw13.ArithEvals', WHERE WHAT IT READS IS OF BULK AT MOST 1048576: true; the input reads as it did. -/
def arithEvalsUptoRow : OpenClaim := { program := "ytplnilpdfnbdpaa", sum := "9328f3d29b226d18e0be14a3069d14ea788b121a4ca60dfe64b93a0bac64b324", func := "elenchus/elenchuslaw13.ArithEvals", spec := "arithEvals", unfollowed := true, recurses := true, loops := true, apart := false, narrowed := true }
def ArithEvalsUptoSaid : Prop := arithEvalsUptoRow.holds Try.pinned (OpenSpec.upto arithEvalsSpec)

/-- 'elenchuslaw13.ArithCompares', WHERE WHAT IT READS IS OF BULK AT MOST 1048576: true; the input reads as it did. -/
def arithComparesUptoRow : OpenClaim := { program := "ytplnilpdfnbdpaa", sum := "9328f3d29b226d18e0be14a3069d14ea788b121a4ca60dfe64b93a0bac64b324", func := "elenchus/elenchuslaw13.ArithCompares", spec := "arithCompares", unfollowed := true, recurses := true, loops := true, apart := false, narrowed := true }
def ArithComparesUptoSaid : Prop := arithComparesUptoRow.holds Try.pinned (OpenSpec.upto arithComparesSpec)

/-- 'elenchuslaw13.ArithParts', WHERE WHAT IT READS IS OF BULK AT MOST 1048576: true; the input reads as it did. -/
def arithPartsUptoRow : OpenClaim := { program := "ytplnilpdfnbdpaa", sum := "9328f3d29b226d18e0be14a3069d14ea788b121a4ca60dfe64b93a0bac64b324", func := "elenchus/elenchuslaw13.ArithParts", spec := "arithParts", unfollowed := true, recurses := true, apart := false, narrowed := true }
def ArithPartsUptoSaid : Prop := arithPartsUptoRow.holds Try.pinned (OpenSpec.upto arithPartsSpec)

/-- 'elenchuslaw13.ArithBalls', WHERE WHAT IT READS IS OF BULK AT MOST 1048576: true; the input reads as it did. -/
def arithBallsUptoRow : OpenClaim := { program := "ytplnilpdfnbdpaa", sum := "9328f3d29b226d18e0be14a3069d14ea788b121a4ca60dfe64b93a0bac64b324", func := "elenchus/elenchuslaw13.ArithBalls", spec := "arithBalls", unfollowed := true, recurses := true, loops := true, apart := false, narrowed := true }
def ArithBallsUptoSaid : Prop := arithBallsUptoRow.holds Try.pinned (OpenSpec.upto arithBallsSpec)

/-- 'elenchuslaw13.ArithLaws', WHERE WHAT IT READS IS OF BULK AT MOST 1048576: true; the input reads as it did. -/
def arithLawsUptoRow : OpenClaim := { program := "ytplnilpdfnbdpaa", sum := "9328f3d29b226d18e0be14a3069d14ea788b121a4ca60dfe64b93a0bac64b324", func := "elenchus/elenchuslaw13.ArithLaws", spec := "arithLaws", unfollowed := true, recurses := true, apart := false, narrowed := true }
def ArithLawsUptoSaid : Prop := arithLawsUptoRow.holds Try.pinned (OpenSpec.upto arithLawsSpec)

end Rows
end Go.Proofs.Ytplnilpdfnbdpaa
