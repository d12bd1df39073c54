/-
  NARROWER THAN 'FOR EVERY INPUT', by the rows' own cells (each row's printed sentence says how): SubstDoes: loops · SubstSame: loops · SubstFinds: loops · SubstTurned: loops · SubstNobody: loops · SubstStays: loops.
  DERIVED. THE GIVEN ROWS OF THIS SEAT. 6 by the template 'for every input the law returns true; each argument reads behind the call as it read before'; 0 by the template 'total and deterministic' (their statements: YtfccfdjmnkjjjaaTotals.lean).
  GIVEN WITH THE SEED: the statements are not yours to turn. If you find one false, say at which input.
  Laid BY PROGRAM, IN A SANDBOX (cutbox-rows.mjs): the forced cells as the released guide's own fill.sh prints them over the translation fc494d410bc64062… (all of the seat's roots in one cut). By AI agents, Wed Nov 11 2026. No macro, syntax, notation, axiom, sorry.
-/
import Derived.Test.YtfccfdjmnkjjjaaChecked
import GoSem.Claim
import GoSem.ClaimJoined
import GoSem.ClaimMapViews
import Derived.JoinedTies
import Derived.KernelRfl
namespace Go.Proofs.Ytfccfdjmnkjjjaa
/- THE CELL 'sum', in the pinned program and in every row, IS THE sha256 OF THE DUMP (.gsa) THAT YtfccfdjmnkjjjaaProg.lean LOADS. Nothing in Lean hashes anything: it is a label: what it is worth is what the hold of that sum in a sandbox is worth. -/
noncomputable def Try.pinned : Pinned := { name := "ytfccfdjmnkjjjaa", sum := "fc494d410bc6406267fbd61f9da2b7d4eef3ded3839d8be14c8b89a6fd0b59af", checked := Try.checked }
namespace Rows
def none {H : Type} : Left H := { results := [], args := [] }

/-- 'elenchuslaw12.SubstDoes': WHATEVER THE INPUT: true; the input reads as it did. -/
def substDoesSpec : ChangeSpec := { name := "substDoes", fn := fun _ => fun
  | [d] => { results := [.lit (.bool true)], args := [d] }
  | _ => none }
def substDoesRow : OpenClaim := { program := "ytfccfdjmnkjjjaa", sum := "fc494d410bc6406267fbd61f9da2b7d4eef3ded3839d8be14c8b89a6fd0b59af", func := "elenchus/elenchuslaw12.SubstDoes", spec := "substDoes", unfollowed := true, recurses := true, loops := true, plainKeys := false, apart := false }
def SubstDoesSaid : Prop := substDoesRow.holds Try.pinned (OpenSpec.ofChange substDoesSpec)

/-- ITS FALSE NEIGHBOUR: 'it returns false'. Refute it at one input. -/
def substDoesWrong : ChangeSpec := { name := "substDoes", fn := fun _ => fun
  | [d] => { results := [.lit (.bool false)], args := [d] }
  | _ => none }
def SubstDoesWrongFalsely : Prop := substDoesRow.holds Try.pinned (OpenSpec.ofChange substDoesWrong)

/-- 'elenchuslaw12.SubstSame': WHATEVER THE INPUT: true; the input reads as it did. -/
def substSameSpec : ChangeSpec := { name := "substSame", fn := fun _ => fun
  | [d1, d2] => { results := [.lit (.bool true)], args := [d1, d2] }
  | _ => none }
def substSameRow : OpenClaim := { program := "ytfccfdjmnkjjjaa", sum := "fc494d410bc6406267fbd61f9da2b7d4eef3ded3839d8be14c8b89a6fd0b59af", func := "elenchus/elenchuslaw12.SubstSame", spec := "substSame", unfollowed := true, recurses := true, loops := true, plainKeys := false, apart := false }
def SubstSameSaid : Prop := substSameRow.holds Try.pinned (OpenSpec.ofChange substSameSpec)

/-- ITS FALSE NEIGHBOUR: 'it returns false'. Refute it at one input. -/
def substSameWrong : ChangeSpec := { name := "substSame", fn := fun _ => fun
  | [d1, d2] => { results := [.lit (.bool false)], args := [d1, d2] }
  | _ => none }
def SubstSameWrongFalsely : Prop := substSameRow.holds Try.pinned (OpenSpec.ofChange substSameWrong)

/-- 'elenchuslaw12.SubstFinds': WHATEVER THE INPUT: true; the input reads as it did. -/
def substFindsSpec : ChangeSpec := { name := "substFinds", fn := fun _ => fun
  | [d1, d2, d3, d4] => { results := [.lit (.bool true)], args := [d1, d2, d3, d4] }
  | _ => none }
def substFindsRow : OpenClaim := { program := "ytfccfdjmnkjjjaa", sum := "fc494d410bc6406267fbd61f9da2b7d4eef3ded3839d8be14c8b89a6fd0b59af", func := "elenchus/elenchuslaw12.SubstFinds", spec := "substFinds", unfollowed := true, recurses := true, loops := true, plainKeys := false, apart := false }
def SubstFindsSaid : Prop := substFindsRow.holds Try.pinned (OpenSpec.ofChange substFindsSpec)

/-- ITS FALSE NEIGHBOUR: 'it returns false'. Refute it at one input. -/
def substFindsWrong : ChangeSpec := { name := "substFinds", fn := fun _ => fun
  | [d1, d2, d3, d4] => { results := [.lit (.bool false)], args := [d1, d2, d3, d4] }
  | _ => none }
def SubstFindsWrongFalsely : Prop := substFindsRow.holds Try.pinned (OpenSpec.ofChange substFindsWrong)

/-- 'elenchuslaw12.SubstTurned': WHATEVER THE INPUT: true; the input reads as it did. -/
def substTurnedSpec : ChangeSpec := { name := "substTurned", fn := fun _ => fun
  | [d1, d2] => { results := [.lit (.bool true)], args := [d1, d2] }
  | _ => none }
def substTurnedRow : OpenClaim := { program := "ytfccfdjmnkjjjaa", sum := "fc494d410bc6406267fbd61f9da2b7d4eef3ded3839d8be14c8b89a6fd0b59af", func := "elenchus/elenchuslaw12.SubstTurned", spec := "substTurned", unfollowed := true, recurses := true, loops := true, plainKeys := false, apart := false }
def SubstTurnedSaid : Prop := substTurnedRow.holds Try.pinned (OpenSpec.ofChange substTurnedSpec)

/-- ITS FALSE NEIGHBOUR: 'it returns false'. Refute it at one input. -/
def substTurnedWrong : ChangeSpec := { name := "substTurned", fn := fun _ => fun
  | [d1, d2] => { results := [.lit (.bool false)], args := [d1, d2] }
  | _ => none }
def SubstTurnedWrongFalsely : Prop := substTurnedRow.holds Try.pinned (OpenSpec.ofChange substTurnedWrong)

/-- 'elenchuslaw12.SubstNobody': WHATEVER THE INPUT: true; the input reads as it did. -/
def substNobodySpec : ChangeSpec := { name := "substNobody", fn := fun _ => fun
  | [d] => { results := [.lit (.bool true)], args := [d] }
  | _ => none }
def substNobodyRow : OpenClaim := { program := "ytfccfdjmnkjjjaa", sum := "fc494d410bc6406267fbd61f9da2b7d4eef3ded3839d8be14c8b89a6fd0b59af", func := "elenchus/elenchuslaw12.SubstNobody", spec := "substNobody", unfollowed := true, recurses := true, loops := true, plainKeys := false, apart := false }
def SubstNobodySaid : Prop := substNobodyRow.holds Try.pinned (OpenSpec.ofChange substNobodySpec)

/-- ITS FALSE NEIGHBOUR: 'it returns false'. Refute it at one input. -/
def substNobodyWrong : ChangeSpec := { name := "substNobody", fn := fun _ => fun
  | [d] => { results := [.lit (.bool false)], args := [d] }
  | _ => none }
def SubstNobodyWrongFalsely : Prop := substNobodyRow.holds Try.pinned (OpenSpec.ofChange substNobodyWrong)

/-- 'elenchuslaw12.SubstStays': WHATEVER THE INPUT: true; the input reads as it did. -/
def substStaysSpec : ChangeSpec := { name := "substStays", fn := fun _ => fun
  | [d1, d2, d3] => { results := [.lit (.bool true)], args := [d1, d2, d3] }
  | _ => none }
def substStaysRow : OpenClaim := { program := "ytfccfdjmnkjjjaa", sum := "fc494d410bc6406267fbd61f9da2b7d4eef3ded3839d8be14c8b89a6fd0b59af", func := "elenchus/elenchuslaw12.SubstStays", spec := "substStays", unfollowed := true, recurses := true, loops := true, plainKeys := false, apart := false }
def SubstStaysSaid : Prop := substStaysRow.holds Try.pinned (OpenSpec.ofChange substStaysSpec)

/-- ITS FALSE NEIGHBOUR: 'it returns false'. Refute it at one input. -/
def substStaysWrong : ChangeSpec := { name := "substStays", fn := fun _ => fun
  | [d1, d2, d3] => { results := [.lit (.bool false)], args := [d1, d2, d3] }
  | _ => none }
def SubstStaysWrongFalsely : Prop := substStaysRow.holds Try.pinned (OpenSpec.ofChange substStaysWrong)

/- THE SECOND FORM. 'bulk': how many values and letters a reading holds, each counted each time it is reached (what is shared counts as often as it is met; a slice's spare places count too). A statement '..UptoSaid' is the law's where the arguments, and the package variables that the reading takes, are together of bulk at most 1048576: NARROWER than '..Said'. Prove '..Said' where nothing that the law and all that it calls make is longer than what came in: it says more and counts as full. Else prove '..UptoSaid'. A law counts once. -/
mutual
def uptoBulk {H : Type} : DataW H → Nat
  | .lit (.string bytes) => bytes.length + 1
  | .lit _ => 1
  | .nil => 1
  | .ptr d => uptoBulk d + 1
  | .slice elems spare => uptoBulkAll elems + uptoBulkAll spare + 1
  | .agg parts => uptoBulkAll parts + 1
  | .iface _ d => uptoBulk d + 1
  | .map entries => uptoBulkEntries entries + 1
  | .held _ => 1
def uptoBulkAll {H : Type} : List (DataW H) → Nat
  | [] => 0
  | d :: r => uptoBulk d + uptoBulkAll r
def uptoBulkEntries {H : Type} : List (Lit × DataW H) → Nat
  | [] => 0
  | x :: r => uptoBulkEntry x + uptoBulkEntries r
def uptoBulkEntry {H : Type} : Lit × DataW H → Nat
  | (.string bytes, d) => bytes.length + uptoBulk d + 1
  | (_, d) => uptoBulk d + 1
 end
def uptoSmall : (H : Type) → List (DataW H) → Bool := fun _ ds => decide (uptoBulkAll ds ≤ 1048576)
def OpenSpec.upto (s : _root_.Go.ChangeSpec) : _root_.Go.OpenSpec := { _root_.Go.OpenSpec.ofChange s with cond := some uptoSmall }

/-- 'elenchuslaw12.SubstDoes', WHERE WHAT IT READS IS OF BULK AT MOST 1048576: true; the input reads as it did. -/
def substDoesUptoRow : OpenClaim := { program := "ytfccfdjmnkjjjaa", sum := "fc494d410bc6406267fbd61f9da2b7d4eef3ded3839d8be14c8b89a6fd0b59af", func := "elenchus/elenchuslaw12.SubstDoes", spec := "substDoes", unfollowed := true, recurses := true, loops := true, plainKeys := false, apart := false, narrowed := true }
def SubstDoesUptoSaid : Prop := substDoesUptoRow.holds Try.pinned (OpenSpec.upto substDoesSpec)

/-- 'elenchuslaw12.SubstSame', WHERE WHAT IT READS IS OF BULK AT MOST 1048576: true; the input reads as it did. -/
def substSameUptoRow : OpenClaim := { program := "ytfccfdjmnkjjjaa", sum := "fc494d410bc6406267fbd61f9da2b7d4eef3ded3839d8be14c8b89a6fd0b59af", func := "elenchus/elenchuslaw12.SubstSame", spec := "substSame", unfollowed := true, recurses := true, loops := true, plainKeys := false, apart := false, narrowed := true }
def SubstSameUptoSaid : Prop := substSameUptoRow.holds Try.pinned (OpenSpec.upto substSameSpec)

/-- 'elenchuslaw12.SubstFinds', WHERE WHAT IT READS IS OF BULK AT MOST 1048576: true; the input reads as it did. -/
def substFindsUptoRow : OpenClaim := { program := "ytfccfdjmnkjjjaa", sum := "fc494d410bc6406267fbd61f9da2b7d4eef3ded3839d8be14c8b89a6fd0b59af", func := "elenchus/elenchuslaw12.SubstFinds", spec := "substFinds", unfollowed := true, recurses := true, loops := true, plainKeys := false, apart := false, narrowed := true }
def SubstFindsUptoSaid : Prop := substFindsUptoRow.holds Try.pinned (OpenSpec.upto substFindsSpec)

/-- 'elenchuslaw12.SubstTurned', WHERE WHAT IT READS IS OF BULK AT MOST 1048576: true; the input reads as it did. -/
def substTurnedUptoRow : OpenClaim := { program := "ytfccfdjmnkjjjaa", sum := "fc494d410bc6406267fbd61f9da2b7d4eef3ded3839d8be14c8b89a6fd0b59af", func := "elenchus/elenchuslaw12.SubstTurned", spec := "substTurned", unfollowed := true, recurses := true, loops := true, plainKeys := false, apart := false, narrowed := true }
def SubstTurnedUptoSaid : Prop := substTurnedUptoRow.holds Try.pinned (OpenSpec.upto substTurnedSpec)

/-- 'elenchuslaw12.SubstNobody', WHERE WHAT IT READS IS OF BULK AT MOST 1048576: true; the input reads as it did. -/
def substNobodyUptoRow : OpenClaim := { program := "ytfccfdjmnkjjjaa", sum := "fc494d410bc6406267fbd61f9da2b7d4eef3ded3839d8be14c8b89a6fd0b59af", func := "elenchus/elenchuslaw12.SubstNobody", spec := "substNobody", unfollowed := true, recurses := true, loops := true, plainKeys := false, apart := false, narrowed := true }
def SubstNobodyUptoSaid : Prop := substNobodyUptoRow.holds Try.pinned (OpenSpec.upto substNobodySpec)

/-- 'elenchuslaw12.SubstStays', WHERE WHAT IT READS IS OF BULK AT MOST 1048576: true; the input reads as it did. -/
def substStaysUptoRow : OpenClaim := { program := "ytfccfdjmnkjjjaa", sum := "fc494d410bc6406267fbd61f9da2b7d4eef3ded3839d8be14c8b89a6fd0b59af", func := "elenchus/elenchuslaw12.SubstStays", spec := "substStays", unfollowed := true, recurses := true, loops := true, plainKeys := false, apart := false, narrowed := true }
def SubstStaysUptoSaid : Prop := substStaysUptoRow.holds Try.pinned (OpenSpec.upto substStaysSpec)

end Rows
end Go.Proofs.Ytfccfdjmnkjjjaa
