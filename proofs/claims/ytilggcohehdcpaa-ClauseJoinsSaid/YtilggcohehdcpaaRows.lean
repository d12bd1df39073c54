/-
  NARROWER THAN 'FOR EVERY INPUT', by the rows' own cells (each row's printed sentence says how): ClauseFrom: loops · ClauseBodies: loops · ClauseBack: loops · ClauseAdds: loops · ClauseJoins: loops.
  DERIVED. THE GIVEN ROWS OF THIS SEAT. 6 by the template 'for every input the law returns true; each argument reads behind the call as it read before'; 0 by the template 'total and deterministic' (their statements: YtilggcohehdcpaaTotals.lean).
  GIVEN WITH THE SEED: the statements are not yours to turn. If you find one false, say at which input.
  Laid BY PROGRAM, IN A SANDBOX (cutbox-rows.mjs): the forced cells as the released guide's own fill.sh prints them over the translation a29634c09e36057d… (all of the seat's roots in one cut). By AI agents, Wed Nov 11 2026. No macro, syntax, notation, axiom, sorry.
-/
import Derived.Test.YtilggcohehdcpaaChecked
import GoSem.Claim
import GoSem.ClaimJoined
import GoSem.ClaimMapViews
import Derived.JoinedTies
import Derived.KernelRfl
namespace Go.Proofs.Ytilggcohehdcpaa
/- THE CELL 'sum', in the pinned program and in every row, IS THE sha256 OF THE DUMP (.gsa) THAT YtilggcohehdcpaaProg.lean LOADS. Nothing in Lean hashes anything: it is a label: what it is worth is what the hold of that sum in a sandbox is worth. -/
noncomputable def Try.pinned : Pinned := { name := "ytilggcohehdcpaa", sum := "a29634c09e36057d67d341008e0943d79947097fa1ee5f0723f8cae96c70237a", checked := Try.checked }
namespace Rows
def none {H : Type} : Left H := { results := [], args := [] }

/-- 'elenchuslaw14.ClauseFrom': WHATEVER THE INPUT: true; the input reads as it did. -/
def clauseFromSpec : ChangeSpec := { name := "clauseFrom", fn := fun _ => fun
  | [d] => { results := [.lit (.bool true)], args := [d] }
  | _ => none }
def clauseFromRow : OpenClaim := { program := "ytilggcohehdcpaa", sum := "a29634c09e36057d67d341008e0943d79947097fa1ee5f0723f8cae96c70237a", func := "elenchus/elenchuslaw14.ClauseFrom", spec := "clauseFrom", unfollowed := true, recurses := true, loops := true, apart := false }
def ClauseFromSaid : Prop := clauseFromRow.holds Try.pinned (OpenSpec.ofChange clauseFromSpec)

/-- ITS FALSE NEIGHBOUR: 'it returns false'. Refute it at one input. -/
def clauseFromWrong : ChangeSpec := { name := "clauseFrom", fn := fun _ => fun
  | [d] => { results := [.lit (.bool false)], args := [d] }
  | _ => none }
def ClauseFromWrongFalsely : Prop := clauseFromRow.holds Try.pinned (OpenSpec.ofChange clauseFromWrong)

/-- 'elenchuslaw14.ClauseBodies': WHATEVER THE INPUT: true; the input reads as it did. -/
def clauseBodiesSpec : ChangeSpec := { name := "clauseBodies", fn := fun _ => fun
  | [d] => { results := [.lit (.bool true)], args := [d] }
  | _ => none }
def clauseBodiesRow : OpenClaim := { program := "ytilggcohehdcpaa", sum := "a29634c09e36057d67d341008e0943d79947097fa1ee5f0723f8cae96c70237a", func := "elenchus/elenchuslaw14.ClauseBodies", spec := "clauseBodies", unfollowed := true, recurses := true, loops := true, apart := false }
def ClauseBodiesSaid : Prop := clauseBodiesRow.holds Try.pinned (OpenSpec.ofChange clauseBodiesSpec)

/-- ITS FALSE NEIGHBOUR: 'it returns false'. Refute it at one input. -/
def clauseBodiesWrong : ChangeSpec := { name := "clauseBodies", fn := fun _ => fun
  | [d] => { results := [.lit (.bool false)], args := [d] }
  | _ => none }
def ClauseBodiesWrongFalsely : Prop := clauseBodiesRow.holds Try.pinned (OpenSpec.ofChange clauseBodiesWrong)

/-- 'elenchuslaw14.ClauseBack': WHATEVER THE INPUT: true; the input reads as it did. -/
def clauseBackSpec : ChangeSpec := { name := "clauseBack", fn := fun _ => fun
  | [d] => { results := [.lit (.bool true)], args := [d] }
  | _ => none }
def clauseBackRow : OpenClaim := { program := "ytilggcohehdcpaa", sum := "a29634c09e36057d67d341008e0943d79947097fa1ee5f0723f8cae96c70237a", func := "elenchus/elenchuslaw14.ClauseBack", spec := "clauseBack", unfollowed := true, recurses := true, loops := true, apart := false }
def ClauseBackSaid : Prop := clauseBackRow.holds Try.pinned (OpenSpec.ofChange clauseBackSpec)

/-- ITS FALSE NEIGHBOUR: 'it returns false'. Refute it at one input. -/
def clauseBackWrong : ChangeSpec := { name := "clauseBack", fn := fun _ => fun
  | [d] => { results := [.lit (.bool false)], args := [d] }
  | _ => none }
def ClauseBackWrongFalsely : Prop := clauseBackRow.holds Try.pinned (OpenSpec.ofChange clauseBackWrong)

/-- 'elenchuslaw14.ClauseAdds': WHATEVER THE INPUT: true; the input reads as it did. -/
def clauseAddsSpec : ChangeSpec := { name := "clauseAdds", fn := fun _ => fun
  | [d1, d2] => { results := [.lit (.bool true)], args := [d1, d2] }
  | _ => none }
def clauseAddsRow : OpenClaim := { program := "ytilggcohehdcpaa", sum := "a29634c09e36057d67d341008e0943d79947097fa1ee5f0723f8cae96c70237a", func := "elenchus/elenchuslaw14.ClauseAdds", spec := "clauseAdds", unfollowed := true, recurses := true, loops := true, apart := false }
def ClauseAddsSaid : Prop := clauseAddsRow.holds Try.pinned (OpenSpec.ofChange clauseAddsSpec)

/-- ITS FALSE NEIGHBOUR: 'it returns false'. Refute it at one input. -/
def clauseAddsWrong : ChangeSpec := { name := "clauseAdds", fn := fun _ => fun
  | [d1, d2] => { results := [.lit (.bool false)], args := [d1, d2] }
  | _ => none }
def ClauseAddsWrongFalsely : Prop := clauseAddsRow.holds Try.pinned (OpenSpec.ofChange clauseAddsWrong)

/-- 'elenchuslaw14.ClauseBuiltin': WHATEVER THE INPUT: true; the input reads as it did. -/
def clauseBuiltinSpec : ChangeSpec := { name := "clauseBuiltin", fn := fun _ => fun
  | [d1, d2] => { results := [.lit (.bool true)], args := [d1, d2] }
  | _ => none }
def clauseBuiltinRow : OpenClaim := { program := "ytilggcohehdcpaa", sum := "a29634c09e36057d67d341008e0943d79947097fa1ee5f0723f8cae96c70237a", func := "elenchus/elenchuslaw14.ClauseBuiltin", spec := "clauseBuiltin", unfollowed := true, recurses := true, apart := false }
def ClauseBuiltinSaid : Prop := clauseBuiltinRow.holds Try.pinned (OpenSpec.ofChange clauseBuiltinSpec)

/-- ITS FALSE NEIGHBOUR: 'it returns false'. Refute it at one input. -/
def clauseBuiltinWrong : ChangeSpec := { name := "clauseBuiltin", fn := fun _ => fun
  | [d1, d2] => { results := [.lit (.bool false)], args := [d1, d2] }
  | _ => none }
def ClauseBuiltinWrongFalsely : Prop := clauseBuiltinRow.holds Try.pinned (OpenSpec.ofChange clauseBuiltinWrong)

/-- 'elenchuslaw14.ClauseJoins': WHATEVER THE INPUT: true; the input reads as it did. -/
def clauseJoinsSpec : ChangeSpec := { name := "clauseJoins", fn := fun _ => fun
  | [d1, d2] => { results := [.lit (.bool true)], args := [d1, d2] }
  | _ => none }
def clauseJoinsRow : OpenClaim := { program := "ytilggcohehdcpaa", sum := "a29634c09e36057d67d341008e0943d79947097fa1ee5f0723f8cae96c70237a", func := "elenchus/elenchuslaw14.ClauseJoins", spec := "clauseJoins", unfollowed := true, recurses := true, loops := true, apart := false }
def ClauseJoinsSaid : Prop := clauseJoinsRow.holds Try.pinned (OpenSpec.ofChange clauseJoinsSpec)

/-- ITS FALSE NEIGHBOUR: 'it returns false'. Refute it at one input. -/
def clauseJoinsWrong : ChangeSpec := { name := "clauseJoins", fn := fun _ => fun
  | [d1, d2] => { results := [.lit (.bool false)], args := [d1, d2] }
  | _ => none }
def ClauseJoinsWrongFalsely : Prop := clauseJoinsRow.holds Try.pinned (OpenSpec.ofChange clauseJoinsWrong)

/- THE SECOND FORM. 'bulk': how many values and letters a reading holds, each counted each time it is reached (what is shared counts as often as it is met; a slice's spare places count too). A statement '..UptoSaid' is the law's where the arguments, and the package variables that the reading takes, are together of bulk at most 1048576: NARROWER than '..Said'. Prove '..Said' where nothing that the law and all that it calls make is longer than what came in: it says more and counts as full. Else prove '..UptoSaid'. A law counts once. -/
mutual
def uptoBulk {H : Type} : DataW H → Nat
  | .lit (.string bytes) => bytes.length + 1
  | .lit _ => 1
  | .nil => 1
  | .ptr d => uptoBulk d + 1
  | .slice elems spare => uptoBulkAll elems + uptoBulkAll spare + 1
  | .agg parts => uptoBulkAll parts + 1
  | .iface _ d => uptoBulk d + 1
  | .map entries => uptoBulkEntries entries + 1
  | .held _ => 1
def uptoBulkAll {H : Type} : List (DataW H) → Nat
  | [] => 0
  | d :: r => uptoBulk d + uptoBulkAll r
def uptoBulkEntries {H : Type} : List (Lit × DataW H) → Nat
  | [] => 0
  | x :: r => uptoBulkEntry x + uptoBulkEntries r
def uptoBulkEntry {H : Type} : Lit × DataW H → Nat
  | (.string bytes, d) => bytes.length + uptoBulk d + 1
  | (_, d) => uptoBulk d + 1
 end
def uptoSmall : (H : Type) → List (DataW H) → Bool := fun _ ds => decide (uptoBulkAll ds ≤ 1048576)
def OpenSpec.upto (s : _root_.Go.ChangeSpec) : _root_.Go.OpenSpec := { _root_.Go.OpenSpec.ofChange s with cond := some uptoSmall }

/-- 'elenchuslaw14.ClauseFrom', WHERE WHAT IT READS IS OF BULK AT MOST 1048576: true; the input reads as it did. -/
def clauseFromUptoRow : OpenClaim := { program := "ytilggcohehdcpaa", sum := "a29634c09e36057d67d341008e0943d79947097fa1ee5f0723f8cae96c70237a", func := "elenchus/elenchuslaw14.ClauseFrom", spec := "clauseFrom", unfollowed := true, recurses := true, loops := true, apart := false, narrowed := true }
def ClauseFromUptoSaid : Prop := clauseFromUptoRow.holds Try.pinned (OpenSpec.upto clauseFromSpec)

/-- 'elenchuslaw14.ClauseBodies', WHERE WHAT IT READS IS OF BULK AT MOST 1048576: true; the input reads as it did. -/
def clauseBodiesUptoRow : OpenClaim := { program := "ytilggcohehdcpaa", sum := "a29634c09e36057d67d341008e0943d79947097fa1ee5f0723f8cae96c70237a", func := "elenchus/elenchuslaw14.ClauseBodies", spec := "clauseBodies", unfollowed := true, recurses := true, loops := true, apart := false, narrowed := true }
def ClauseBodiesUptoSaid : Prop := clauseBodiesUptoRow.holds Try.pinned (OpenSpec.upto clauseBodiesSpec)

/-- 'elenchuslaw14.ClauseBack', WHERE WHAT IT READS IS OF BULK AT MOST 1048576: true; the input reads as it did. -/
def clauseBackUptoRow : OpenClaim := { program := "ytilggcohehdcpaa", sum := "a29634c09e36057d67d341008e0943d79947097fa1ee5f0723f8cae96c70237a", func := "elenchus/elenchuslaw14.ClauseBack", spec := "clauseBack", unfollowed := true, recurses := true, loops := true, apart := false, narrowed := true }
def ClauseBackUptoSaid : Prop := clauseBackUptoRow.holds Try.pinned (OpenSpec.upto clauseBackSpec)

/-- 'elenchuslaw14.ClauseAdds', WHERE WHAT IT READS IS OF BULK AT MOST 1048576: true; the input reads as it did. -/
def clauseAddsUptoRow : OpenClaim := { program := "ytilggcohehdcpaa", sum := "a29634c09e36057d67d341008e0943d79947097fa1ee5f0723f8cae96c70237a", func := "elenchus/elenchuslaw14.ClauseAdds", spec := "clauseAdds", unfollowed := true, recurses := true, loops := true, apart := false, narrowed := true }
def ClauseAddsUptoSaid : Prop := clauseAddsUptoRow.holds Try.pinned (OpenSpec.upto clauseAddsSpec)

/-- 'elenchuslaw14.ClauseBuiltin', WHERE WHAT IT READS IS OF BULK AT MOST 1048576: true; the input reads as it did. -/
def clauseBuiltinUptoRow : OpenClaim := { program := "ytilggcohehdcpaa", sum := "a29634c09e36057d67d341008e0943d79947097fa1ee5f0723f8cae96c70237a", func := "elenchus/elenchuslaw14.ClauseBuiltin", spec := "clauseBuiltin", unfollowed := true, recurses := true, apart := false, narrowed := true }
def ClauseBuiltinUptoSaid : Prop := clauseBuiltinUptoRow.holds Try.pinned (OpenSpec.upto clauseBuiltinSpec)

/-- 'elenchuslaw14.ClauseJoins', WHERE WHAT IT READS IS OF BULK AT MOST 1048576: true; the input reads as it did. -/
def clauseJoinsUptoRow : OpenClaim := { program := "ytilggcohehdcpaa", sum := "a29634c09e36057d67d341008e0943d79947097fa1ee5f0723f8cae96c70237a", func := "elenchus/elenchuslaw14.ClauseJoins", spec := "clauseJoins", unfollowed := true, recurses := true, loops := true, apart := false, narrowed := true }
def ClauseJoinsUptoSaid : Prop := clauseJoinsUptoRow.holds Try.pinned (OpenSpec.upto clauseJoinsSpec)

end Rows
end Go.Proofs.Ytilggcohehdcpaa
