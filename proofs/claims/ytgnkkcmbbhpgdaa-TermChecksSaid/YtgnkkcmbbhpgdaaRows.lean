/-
  NARROWER THAN 'FOR EVERY INPUT', by the rows' own cells (each row's printed sentence says how): TermMakes: loops · TermChecks: loops · TermRenames: loops · TermSames: loops · TermReplaces: loops · TermLists: loops · TermStays: loops.
  DERIVED. THE GIVEN ROWS OF THIS SEAT. 7 by the template 'for every input the law returns true; each argument reads behind the call as it read before'; 0 by the template 'total and deterministic' (their statements: YtgnkkcmbbhpgdaaTotals.lean).
  GIVEN WITH THE SEED: the statements are not yours to turn. If you find one false, say at which input.
  Laid BY PROGRAM, IN A SANDBOX (cutbox-rows.mjs): the forced cells as the released guide's own fill.sh prints them over the translation 1e158cc801743461… (all of the seat's roots in one cut). By AI agents, Wed Nov 11 2026. No macro, syntax, notation, axiom, sorry.
-/
import Derived.Test.YtgnkkcmbbhpgdaaChecked
import GoSem.Claim
import GoSem.ClaimJoined
import GoSem.ClaimMapViews
import Derived.JoinedTies
import Derived.KernelRfl
namespace Go.Proofs.Ytgnkkcmbbhpgdaa
/- THE CELL 'sum', in the pinned program and in every row, IS THE sha256 OF THE DUMP (.gsa) THAT YtgnkkcmbbhpgdaaProg.lean LOADS. Nothing in Lean hashes anything: it is a label: what it is worth is what the hold of that sum in a sandbox is worth. -/
noncomputable def Try.pinned : Pinned := { name := "ytgnkkcmbbhpgdaa", sum := "1e158cc80174346128db31b0419c575bfd413d6bd52fe60ffc5b95b53c7b3fd5", checked := Try.checked }
namespace Rows
def none {H : Type} : Left H := { results := [], args := [] }

/-- 'elenchuslaw06.TermMakes': WHATEVER THE INPUT: true; the input reads as it did. -/
def termMakesSpec : ChangeSpec := { name := "termMakes", fn := fun _ => fun
  | [d1, d2, d3, d4] => { results := [.lit (.bool true)], args := [d1, d2, d3, d4] }
  | _ => none }
def termMakesRow : OpenClaim := { program := "ytgnkkcmbbhpgdaa", sum := "1e158cc80174346128db31b0419c575bfd413d6bd52fe60ffc5b95b53c7b3fd5", func := "elenchus/elenchuslaw06.TermMakes", spec := "termMakes", unfollowed := true, recurses := true, loops := true, apart := false }
def TermMakesSaid : Prop := termMakesRow.holds Try.pinned (OpenSpec.ofChange termMakesSpec)

/-- ITS FALSE NEIGHBOUR: 'it returns false'. Refute it at one input. -/
def termMakesWrong : ChangeSpec := { name := "termMakes", fn := fun _ => fun
  | [d1, d2, d3, d4] => { results := [.lit (.bool false)], args := [d1, d2, d3, d4] }
  | _ => none }
def TermMakesWrongFalsely : Prop := termMakesRow.holds Try.pinned (OpenSpec.ofChange termMakesWrong)

/-- 'elenchuslaw06.TermChecks': WHATEVER THE INPUT: true; the input reads as it did. -/
def termChecksSpec : ChangeSpec := { name := "termChecks", fn := fun _ => fun
  | [d] => { results := [.lit (.bool true)], args := [d] }
  | _ => none }
def termChecksRow : OpenClaim := { program := "ytgnkkcmbbhpgdaa", sum := "1e158cc80174346128db31b0419c575bfd413d6bd52fe60ffc5b95b53c7b3fd5", func := "elenchus/elenchuslaw06.TermChecks", spec := "termChecks", unfollowed := true, recurses := true, loops := true, apart := false }
def TermChecksSaid : Prop := termChecksRow.holds Try.pinned (OpenSpec.ofChange termChecksSpec)

/-- ITS FALSE NEIGHBOUR: 'it returns false'. Refute it at one input. -/
def termChecksWrong : ChangeSpec := { name := "termChecks", fn := fun _ => fun
  | [d] => { results := [.lit (.bool false)], args := [d] }
  | _ => none }
def TermChecksWrongFalsely : Prop := termChecksRow.holds Try.pinned (OpenSpec.ofChange termChecksWrong)

/-- 'elenchuslaw06.TermRenames': WHATEVER THE INPUT: true; the input reads as it did. -/
def termRenamesSpec : ChangeSpec := { name := "termRenames", fn := fun _ => fun
  | [d] => { results := [.lit (.bool true)], args := [d] }
  | _ => none }
def termRenamesRow : OpenClaim := { program := "ytgnkkcmbbhpgdaa", sum := "1e158cc80174346128db31b0419c575bfd413d6bd52fe60ffc5b95b53c7b3fd5", func := "elenchus/elenchuslaw06.TermRenames", spec := "termRenames", unfollowed := true, recurses := true, loops := true, apart := false }
def TermRenamesSaid : Prop := termRenamesRow.holds Try.pinned (OpenSpec.ofChange termRenamesSpec)

/-- ITS FALSE NEIGHBOUR: 'it returns false'. Refute it at one input. -/
def termRenamesWrong : ChangeSpec := { name := "termRenames", fn := fun _ => fun
  | [d] => { results := [.lit (.bool false)], args := [d] }
  | _ => none }
def TermRenamesWrongFalsely : Prop := termRenamesRow.holds Try.pinned (OpenSpec.ofChange termRenamesWrong)

/-- 'elenchuslaw06.TermSames': WHATEVER THE INPUT: true; the input reads as it did. -/
def termSamesSpec : ChangeSpec := { name := "termSames", fn := fun _ => fun
  | [d1, d2] => { results := [.lit (.bool true)], args := [d1, d2] }
  | _ => none }
def termSamesRow : OpenClaim := { program := "ytgnkkcmbbhpgdaa", sum := "1e158cc80174346128db31b0419c575bfd413d6bd52fe60ffc5b95b53c7b3fd5", func := "elenchus/elenchuslaw06.TermSames", spec := "termSames", unfollowed := true, recurses := true, loops := true, apart := false }
def TermSamesSaid : Prop := termSamesRow.holds Try.pinned (OpenSpec.ofChange termSamesSpec)

/-- ITS FALSE NEIGHBOUR: 'it returns false'. Refute it at one input. -/
def termSamesWrong : ChangeSpec := { name := "termSames", fn := fun _ => fun
  | [d1, d2] => { results := [.lit (.bool false)], args := [d1, d2] }
  | _ => none }
def TermSamesWrongFalsely : Prop := termSamesRow.holds Try.pinned (OpenSpec.ofChange termSamesWrong)

/-- 'elenchuslaw06.TermReplaces': WHATEVER THE INPUT: true; the input reads as it did. -/
def termReplacesSpec : ChangeSpec := { name := "termReplaces", fn := fun _ => fun
  | [d1, d2] => { results := [.lit (.bool true)], args := [d1, d2] }
  | _ => none }
def termReplacesRow : OpenClaim := { program := "ytgnkkcmbbhpgdaa", sum := "1e158cc80174346128db31b0419c575bfd413d6bd52fe60ffc5b95b53c7b3fd5", func := "elenchus/elenchuslaw06.TermReplaces", spec := "termReplaces", unfollowed := true, recurses := true, loops := true, apart := false }
def TermReplacesSaid : Prop := termReplacesRow.holds Try.pinned (OpenSpec.ofChange termReplacesSpec)

/-- ITS FALSE NEIGHBOUR: 'it returns false'. Refute it at one input. -/
def termReplacesWrong : ChangeSpec := { name := "termReplaces", fn := fun _ => fun
  | [d1, d2] => { results := [.lit (.bool false)], args := [d1, d2] }
  | _ => none }
def TermReplacesWrongFalsely : Prop := termReplacesRow.holds Try.pinned (OpenSpec.ofChange termReplacesWrong)

/-- 'elenchuslaw06.TermLists': WHATEVER THE INPUT: true; the input reads as it did. -/
def termListsSpec : ChangeSpec := { name := "termLists", fn := fun _ => fun
  | [d1, d2] => { results := [.lit (.bool true)], args := [d1, d2] }
  | _ => none }
def termListsRow : OpenClaim := { program := "ytgnkkcmbbhpgdaa", sum := "1e158cc80174346128db31b0419c575bfd413d6bd52fe60ffc5b95b53c7b3fd5", func := "elenchus/elenchuslaw06.TermLists", spec := "termLists", unfollowed := true, recurses := true, loops := true, apart := false }
def TermListsSaid : Prop := termListsRow.holds Try.pinned (OpenSpec.ofChange termListsSpec)

/-- ITS FALSE NEIGHBOUR: 'it returns false'. Refute it at one input. -/
def termListsWrong : ChangeSpec := { name := "termLists", fn := fun _ => fun
  | [d1, d2] => { results := [.lit (.bool false)], args := [d1, d2] }
  | _ => none }
def TermListsWrongFalsely : Prop := termListsRow.holds Try.pinned (OpenSpec.ofChange termListsWrong)

/-- 'elenchuslaw06.TermStays': WHATEVER THE INPUT: true; the input reads as it did. -/
def termStaysSpec : ChangeSpec := { name := "termStays", fn := fun _ => fun
  | [d1, d2] => { results := [.lit (.bool true)], args := [d1, d2] }
  | _ => none }
def termStaysRow : OpenClaim := { program := "ytgnkkcmbbhpgdaa", sum := "1e158cc80174346128db31b0419c575bfd413d6bd52fe60ffc5b95b53c7b3fd5", func := "elenchus/elenchuslaw06.TermStays", spec := "termStays", unfollowed := true, recurses := true, loops := true, apart := false }
def TermStaysSaid : Prop := termStaysRow.holds Try.pinned (OpenSpec.ofChange termStaysSpec)

/-- ITS FALSE NEIGHBOUR: 'it returns false'. Refute it at one input. -/
def termStaysWrong : ChangeSpec := { name := "termStays", fn := fun _ => fun
  | [d1, d2] => { results := [.lit (.bool false)], args := [d1, d2] }
  | _ => none }
def TermStaysWrongFalsely : Prop := termStaysRow.holds Try.pinned (OpenSpec.ofChange termStaysWrong)

/- THE SECOND FORM. 'bulk': how many values and letters a reading holds, each counted each time it is reached (what is shared counts as often as it is met; a slice's spare places count too). A statement '..UptoSaid' is the law's where the arguments, and the package variables that the reading takes, are together of bulk at most 1048576: NARROWER than '..Said'. Prove '..Said' where nothing that the law and all that it calls make is longer than what came in: it says more and counts as full. Else prove '..UptoSaid'. A law counts once. -/
mutual
def uptoBulk {H : Type} : DataW H → Nat
  | .lit (.string bytes) => bytes.length + 1
  | .lit _ => 1
  | .nil => 1
  | .ptr d => uptoBulk d + 1
  | .slice elems spare => uptoBulkAll elems + uptoBulkAll spare + 1
  | .agg parts => uptoBulkAll parts + 1
  | .iface _ d => uptoBulk d + 1
  | .map entries => uptoBulkEntries entries + 1
  | .held _ => 1
def uptoBulkAll {H : Type} : List (DataW H) → Nat
  | [] => 0
  | d :: r => uptoBulk d + uptoBulkAll r
def uptoBulkEntries {H : Type} : List (Lit × DataW H) → Nat
  | [] => 0
  | x :: r => uptoBulkEntry x + uptoBulkEntries r
def uptoBulkEntry {H : Type} : Lit × DataW H → Nat
  | (.string bytes, d) => bytes.length + uptoBulk d + 1
  | (_, d) => uptoBulk d + 1
 end
def uptoSmall : (H : Type) → List (DataW H) → Bool := fun _ ds => decide (uptoBulkAll ds ≤ 1048576)
def OpenSpec.upto (s : _root_.Go.ChangeSpec) : _root_.Go.OpenSpec := { _root_.Go.OpenSpec.ofChange s with cond := some uptoSmall }

/-- 'elenchuslaw06.TermMakes', WHERE WHAT IT READS IS OF BULK AT MOST 1048576: true; the input reads as it did. -/
def termMakesUptoRow : OpenClaim := { program := "ytgnkkcmbbhpgdaa", sum := "1e158cc80174346128db31b0419c575bfd413d6bd52fe60ffc5b95b53c7b3fd5", func := "elenchus/elenchuslaw06.TermMakes", spec := "termMakes", unfollowed := true, recurses := true, loops := true, apart := false, narrowed := true }
def TermMakesUptoSaid : Prop := termMakesUptoRow.holds Try.pinned (OpenSpec.upto termMakesSpec)

/-- 'elenchuslaw06.TermChecks', WHERE WHAT IT READS IS OF BULK AT MOST 1048576: true; the input reads as it did. -/
def termChecksUptoRow : OpenClaim := { program := "ytgnkkcmbbhpgdaa", sum := "1e158cc80174346128db31b0419c575bfd413d6bd52fe60ffc5b95b53c7b3fd5", func := "elenchus/elenchuslaw06.TermChecks", spec := "termChecks", unfollowed := true, recurses := true, loops := true, apart := false, narrowed := true }
def TermChecksUptoSaid : Prop := termChecksUptoRow.holds Try.pinned (OpenSpec.upto termChecksSpec)

/-- 'elenchuslaw06.TermRenames', WHERE WHAT IT READS IS OF BULK AT MOST 1048576: true; the input reads as it did. -/
def termRenamesUptoRow : OpenClaim := { program := "ytgnkkcmbbhpgdaa", sum := "1e158cc80174346128db31b0419c575bfd413d6bd52fe60ffc5b95b53c7b3fd5", func := "elenchus/elenchuslaw06.TermRenames", spec := "termRenames", unfollowed := true, recurses := true, loops := true, apart := false, narrowed := true }
def TermRenamesUptoSaid : Prop := termRenamesUptoRow.holds Try.pinned (OpenSpec.upto termRenamesSpec)

/-- 'elenchuslaw06.TermSames', WHERE WHAT IT READS IS OF BULK AT MOST 1048576: true; the input reads as it did. -/
def termSamesUptoRow : OpenClaim := { program := "ytgnkkcmbbhpgdaa", sum := "1e158cc80174346128db31b0419c575bfd413d6bd52fe60ffc5b95b53c7b3fd5", func := "elenchus/elenchuslaw06.TermSames", spec := "termSames", unfollowed := true, recurses := true, loops := true, apart := false, narrowed := true }
def TermSamesUptoSaid : Prop := termSamesUptoRow.holds Try.pinned (OpenSpec.upto termSamesSpec)

/-- 'elenchuslaw06.TermReplaces', WHERE WHAT IT READS IS OF BULK AT MOST 1048576: true; the input reads as it did. -/
def termReplacesUptoRow : OpenClaim := { program := "ytgnkkcmbbhpgdaa", sum := "1e158cc80174346128db31b0419c575bfd413d6bd52fe60ffc5b95b53c7b3fd5", func := "elenchus/elenchuslaw06.TermReplaces", spec := "termReplaces", unfollowed := true, recurses := true, loops := true, apart := false, narrowed := true }
def TermReplacesUptoSaid : Prop := termReplacesUptoRow.holds Try.pinned (OpenSpec.upto termReplacesSpec)

/-- 'elenchuslaw06.TermLists', WHERE WHAT IT READS IS OF BULK AT MOST 1048576: true; the input reads as it did. -/
def termListsUptoRow : OpenClaim := { program := "ytgnkkcmbbhpgdaa", sum := "1e158cc80174346128db31b0419c575bfd413d6bd52fe60ffc5b95b53c7b3fd5", func := "elenchus/elenchuslaw06.TermLists", spec := "termLists", unfollowed := true, recurses := true, loops := true, apart := false, narrowed := true }
def TermListsUptoSaid : Prop := termListsUptoRow.holds Try.pinned (OpenSpec.upto termListsSpec)

/-- 'elenchuslaw06.TermStays', WHERE WHAT IT READS IS OF BULK AT MOST 1048576: true; the input reads as it did. -/
def termStaysUptoRow : OpenClaim := { program := "ytgnkkcmbbhpgdaa", sum := "1e158cc80174346128db31b0419c575bfd413d6bd52fe60ffc5b95b53c7b3fd5", func := "elenchus/elenchuslaw06.TermStays", spec := "termStays", unfollowed := true, recurses := true, loops := true, apart := false, narrowed := true }
def TermStaysUptoSaid : Prop := termStaysUptoRow.holds Try.pinned (OpenSpec.upto termStaysSpec)

end Rows
end Go.Proofs.Ytgnkkcmbbhpgdaa
