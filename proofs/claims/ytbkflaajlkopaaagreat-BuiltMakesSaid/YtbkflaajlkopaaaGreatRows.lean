/-
  NARROWER THAN 'FOR EVERY INPUT', by the rows' own cells (each row's printed sentence says how): BuiltCalls: loops · BuiltMakes: loops · BuiltOrders: loops · BuiltCopies: loops · BuiltKinds: loops.
  DERIVED. THE GIVEN ROWS OF THIS SEAT. 5 by the template 'for every input the law returns true; each argument reads behind the call as it read before'; 0 by the template 'total and deterministic' (their statements: YtbkflaajlkopaaaGreatTotals.lean).
  GIVEN WITH THE SEED: the statements are not yours to turn. If you find one false, say at which input.
  Laid BY PROGRAM, IN A SANDBOX (cutbox-rows.mjs): the forced cells as the released guide's own fill.sh prints them over the translation 41aece44ca9aeb6f… (all of the seat's roots in one cut). By AI agents, Wed Nov 11 2026. No macro, syntax, notation, axiom, sorry.
-/
import Derived.Test.YtbkflaajlkopaaaGreatChecked
import GoSem.Claim
import GoSem.ClaimJoined
import GoSem.ClaimMapViews
import Derived.JoinedTies
import Derived.KernelRfl
namespace Go.Proofs.YtbkflaajlkopaaaGreat
/- THE CELL 'sum', in the pinned program and in every row, IS THE sha256 OF THE DUMP (.gsa) THAT YtbkflaajlkopaaaGreatProg.lean LOADS. Nothing in Lean hashes anything: it is a label: what it is worth is what the hold of that sum in a sandbox is worth. -/
noncomputable def Tryz.pinned : Pinned := { name := "ytbkflaajlkopaaagreat", sum := "41aece44ca9aeb6f935b96339091b18a78ebf855e1c02bf3cd15976fa49c1df1", checked := Tryz.checked }
namespace Rows
def none {H : Type} : Left H := { results := [], args := [] }

/-- 'elenchuslaw21.BuiltCalls': WHATEVER THE INPUT: true; the input reads as it did. -/
def builtCallsSpec : ChangeSpec := { name := "builtCalls", fn := fun _ => fun
  | [d1, d2, d3] => { results := [.lit (.bool true)], args := [d1, d2, d3] }
  | _ => none }
def builtCallsRow : OpenClaim := { program := "ytbkflaajlkopaaagreat", sum := "41aece44ca9aeb6f935b96339091b18a78ebf855e1c02bf3cd15976fa49c1df1", func := "elenchus/elenchuslaw21.BuiltCalls", spec := "builtCalls", unfollowed := true, recurses := true, loops := true, plainKeys := false, apart := false }
def BuiltCallsSaid : Prop := builtCallsRow.holds Tryz.pinned (OpenSpec.ofChange builtCallsSpec)

/-- ITS FALSE NEIGHBOUR: 'it returns false'. Refute it at one input. -/
def builtCallsWrong : ChangeSpec := { name := "builtCalls", fn := fun _ => fun
  | [d1, d2, d3] => { results := [.lit (.bool false)], args := [d1, d2, d3] }
  | _ => none }
def BuiltCallsWrongFalsely : Prop := builtCallsRow.holds Tryz.pinned (OpenSpec.ofChange builtCallsWrong)

/-- 'elenchuslaw21.BuiltMakes': WHATEVER THE INPUT: true; the input reads as it did. -/
def builtMakesSpec : ChangeSpec := { name := "builtMakes", fn := fun _ => fun
  | [d] => { results := [.lit (.bool true)], args := [d] }
  | _ => none }
def builtMakesRow : OpenClaim := { program := "ytbkflaajlkopaaagreat", sum := "41aece44ca9aeb6f935b96339091b18a78ebf855e1c02bf3cd15976fa49c1df1", func := "elenchus/elenchuslaw21.BuiltMakes", spec := "builtMakes", unfollowed := true, recurses := true, loops := true, plainKeys := false, apart := false }
def BuiltMakesSaid : Prop := builtMakesRow.holds Tryz.pinned (OpenSpec.ofChange builtMakesSpec)

/-- ITS FALSE NEIGHBOUR: 'it returns false'. Refute it at one input. -/
def builtMakesWrong : ChangeSpec := { name := "builtMakes", fn := fun _ => fun
  | [d] => { results := [.lit (.bool false)], args := [d] }
  | _ => none }
def BuiltMakesWrongFalsely : Prop := builtMakesRow.holds Tryz.pinned (OpenSpec.ofChange builtMakesWrong)

/-- 'elenchuslaw21.BuiltOrders': WHATEVER THE INPUT: true; the input reads as it did. -/
def builtOrdersSpec : ChangeSpec := { name := "builtOrders", fn := fun _ => fun
  | [d1, d2] => { results := [.lit (.bool true)], args := [d1, d2] }
  | _ => none }
def builtOrdersRow : OpenClaim := { program := "ytbkflaajlkopaaagreat", sum := "41aece44ca9aeb6f935b96339091b18a78ebf855e1c02bf3cd15976fa49c1df1", func := "elenchus/elenchuslaw21.BuiltOrders", spec := "builtOrders", unfollowed := true, recurses := true, loops := true, plainKeys := false, apart := false }
def BuiltOrdersSaid : Prop := builtOrdersRow.holds Tryz.pinned (OpenSpec.ofChange builtOrdersSpec)

/-- ITS FALSE NEIGHBOUR: 'it returns false'. Refute it at one input. -/
def builtOrdersWrong : ChangeSpec := { name := "builtOrders", fn := fun _ => fun
  | [d1, d2] => { results := [.lit (.bool false)], args := [d1, d2] }
  | _ => none }
def BuiltOrdersWrongFalsely : Prop := builtOrdersRow.holds Tryz.pinned (OpenSpec.ofChange builtOrdersWrong)

/-- 'elenchuslaw21.BuiltCopies': WHATEVER THE INPUT: true; the input reads as it did. -/
def builtCopiesSpec : ChangeSpec := { name := "builtCopies", fn := fun _ => fun
  | [d1, d2] => { results := [.lit (.bool true)], args := [d1, d2] }
  | _ => none }
def builtCopiesRow : OpenClaim := { program := "ytbkflaajlkopaaagreat", sum := "41aece44ca9aeb6f935b96339091b18a78ebf855e1c02bf3cd15976fa49c1df1", func := "elenchus/elenchuslaw21.BuiltCopies", spec := "builtCopies", unfollowed := true, recurses := true, loops := true, plainKeys := false, apart := false }
def BuiltCopiesSaid : Prop := builtCopiesRow.holds Tryz.pinned (OpenSpec.ofChange builtCopiesSpec)

/-- ITS FALSE NEIGHBOUR: 'it returns false'. Refute it at one input. -/
def builtCopiesWrong : ChangeSpec := { name := "builtCopies", fn := fun _ => fun
  | [d1, d2] => { results := [.lit (.bool false)], args := [d1, d2] }
  | _ => none }
def BuiltCopiesWrongFalsely : Prop := builtCopiesRow.holds Tryz.pinned (OpenSpec.ofChange builtCopiesWrong)

/-- 'elenchuslaw21.BuiltKinds': WHATEVER THE INPUT: true; the input reads as it did. -/
def builtKindsSpec : ChangeSpec := { name := "builtKinds", fn := fun _ => fun
  | [d1, d2] => { results := [.lit (.bool true)], args := [d1, d2] }
  | _ => none }
def builtKindsRow : OpenClaim := { program := "ytbkflaajlkopaaagreat", sum := "41aece44ca9aeb6f935b96339091b18a78ebf855e1c02bf3cd15976fa49c1df1", func := "elenchus/elenchuslaw21.BuiltKinds", spec := "builtKinds", unfollowed := true, recurses := true, loops := true, plainKeys := false, apart := false }
def BuiltKindsSaid : Prop := builtKindsRow.holds Tryz.pinned (OpenSpec.ofChange builtKindsSpec)

/-- ITS FALSE NEIGHBOUR: 'it returns false'. Refute it at one input. -/
def builtKindsWrong : ChangeSpec := { name := "builtKinds", fn := fun _ => fun
  | [d1, d2] => { results := [.lit (.bool false)], args := [d1, d2] }
  | _ => none }
def BuiltKindsWrongFalsely : Prop := builtKindsRow.holds Tryz.pinned (OpenSpec.ofChange builtKindsWrong)

/- THE SECOND FORM. 'bulk': how many values and letters a reading holds, each counted each time it is reached (what is shared counts as often as it is met; a slice's spare places count too). A statement '..UptoSaid' is the law's where the arguments, and the package variables that the reading takes, are together of bulk at most 1048576: NARROWER than '..Said'. Prove '..Said' where nothing that the law and all that it calls make is longer than what came in: it says more and counts as full. Else prove '..UptoSaid'. A law counts once. -/
mutual
def uptoBulk {H : Type} : DataW H → Nat
  | .lit (.string bytes) => bytes.length + 1
  | .lit _ => 1
  | .nil => 1
  | .ptr d => uptoBulk d + 1
  | .slice elems spare => uptoBulkAll elems + uptoBulkAll spare + 1
  | .agg parts => uptoBulkAll parts + 1
  | .iface _ d => uptoBulk d + 1
  | .map entries => uptoBulkEntries entries + 1
  | .held _ => 1
def uptoBulkAll {H : Type} : List (DataW H) → Nat
  | [] => 0
  | d :: r => uptoBulk d + uptoBulkAll r
def uptoBulkEntries {H : Type} : List (Lit × DataW H) → Nat
  | [] => 0
  | x :: r => uptoBulkEntry x + uptoBulkEntries r
def uptoBulkEntry {H : Type} : Lit × DataW H → Nat
  | (.string bytes, d) => bytes.length + uptoBulk d + 1
  | (_, d) => uptoBulk d + 1
 end
def uptoSmall : (H : Type) → List (DataW H) → Bool := fun _ ds => decide (uptoBulkAll ds ≤ 1048576)
def OpenSpec.upto (s : _root_.Go.ChangeSpec) : _root_.Go.OpenSpec := { _root_.Go.OpenSpec.ofChange s with cond := some uptoSmall }

/-- 'elenchuslaw21.BuiltCalls', WHERE WHAT IT READS IS OF BULK AT MOST 1048576: true; the input reads as it did. -/
def builtCallsUptoRow : OpenClaim := { program := "ytbkflaajlkopaaagreat", sum := "41aece44ca9aeb6f935b96339091b18a78ebf855e1c02bf3cd15976fa49c1df1", func := "elenchus/elenchuslaw21.BuiltCalls", spec := "builtCalls", unfollowed := true, recurses := true, loops := true, plainKeys := false, apart := false, narrowed := true }
def BuiltCallsUptoSaid : Prop := builtCallsUptoRow.holds Tryz.pinned (OpenSpec.upto builtCallsSpec)

/-- 'elenchuslaw21.BuiltMakes', WHERE WHAT IT READS IS OF BULK AT MOST 1048576: true; the input reads as it did. -/
def builtMakesUptoRow : OpenClaim := { program := "ytbkflaajlkopaaagreat", sum := "41aece44ca9aeb6f935b96339091b18a78ebf855e1c02bf3cd15976fa49c1df1", func := "elenchus/elenchuslaw21.BuiltMakes", spec := "builtMakes", unfollowed := true, recurses := true, loops := true, plainKeys := false, apart := false, narrowed := true }
def BuiltMakesUptoSaid : Prop := builtMakesUptoRow.holds Tryz.pinned (OpenSpec.upto builtMakesSpec)

/-- 'elenchuslaw21.BuiltOrders', WHERE WHAT IT READS IS OF BULK AT MOST 1048576: true; the input reads as it did. -/
def builtOrdersUptoRow : OpenClaim := { program := "ytbkflaajlkopaaagreat", sum := "41aece44ca9aeb6f935b96339091b18a78ebf855e1c02bf3cd15976fa49c1df1", func := "elenchus/elenchuslaw21.BuiltOrders", spec := "builtOrders", unfollowed := true, recurses := true, loops := true, plainKeys := false, apart := false, narrowed := true }
def BuiltOrdersUptoSaid : Prop := builtOrdersUptoRow.holds Tryz.pinned (OpenSpec.upto builtOrdersSpec)

/-- 'elenchuslaw21.BuiltCopies', WHERE WHAT IT READS IS OF BULK AT MOST 1048576: true; the input reads as it did. -/
def builtCopiesUptoRow : OpenClaim := { program := "ytbkflaajlkopaaagreat", sum := "41aece44ca9aeb6f935b96339091b18a78ebf855e1c02bf3cd15976fa49c1df1", func := "elenchus/elenchuslaw21.BuiltCopies", spec := "builtCopies", unfollowed := true, recurses := true, loops := true, plainKeys := false, apart := false, narrowed := true }
def BuiltCopiesUptoSaid : Prop := builtCopiesUptoRow.holds Tryz.pinned (OpenSpec.upto builtCopiesSpec)

/-- 'elenchuslaw21.BuiltKinds', WHERE WHAT IT READS IS OF BULK AT MOST 1048576: true; the input reads as it did. -/
def builtKindsUptoRow : OpenClaim := { program := "ytbkflaajlkopaaagreat", sum := "41aece44ca9aeb6f935b96339091b18a78ebf855e1c02bf3cd15976fa49c1df1", func := "elenchus/elenchuslaw21.BuiltKinds", spec := "builtKinds", unfollowed := true, recurses := true, loops := true, plainKeys := false, apart := false, narrowed := true }
def BuiltKindsUptoSaid : Prop := builtKindsUptoRow.holds Tryz.pinned (OpenSpec.upto builtKindsSpec)

end Rows
end Go.Proofs.YtbkflaajlkopaaaGreat
