/-
  No cell of these rows narrows 'for every input' (looked for: loops, veiled, ifaces, maps, wideKeys, modest, calm, conditions, laid).
  DERIVED. THE GIVEN ROWS OF THIS SEAT. 8 by the template 'for every input the law returns true; each argument reads behind the call as it read before'; 0 by the template 'total and deterministic' (their statements: YtoohlnnpalgnaaaGreatTotals.lean).
  GIVEN WITH THE SEED: the statements are not yours to turn. If you find one false, say at which input.
  Laid BY PROGRAM, IN A SANDBOX (cutbox-rows.mjs): the forced cells as the released guide's own fill.sh prints them over the translation 669335474f813a0b… (all of the seat's roots in one cut). By AI agents, Wed Nov 11 2026. No macro, syntax, notation, axiom, sorry.
-/
import Derived.Test.YtoohlnnpalgnaaaGreatChecked
import GoSem.Claim
import GoSem.ClaimJoined
import GoSem.ClaimMapViews
import Derived.JoinedTies
import Derived.KernelRfl
namespace Go.Proofs.YtoohlnnpalgnaaaGreat
/- THE CELL 'sum', in the pinned program and in every row, IS THE sha256 OF THE DUMP (.gsa) THAT YtoohlnnpalgnaaaGreatProg.lean LOADS. Nothing in Lean hashes anything: it is a label: what it is worth is what the hold of that sum in a sandbox is worth. -/
noncomputable def Tryz.pinned : Pinned := { name := "ytoohlnnpalgnaaagreat", sum := "669335474f813a0b6a65f60b5a072595c9b6331773a69000cd3b035aac3f45fe", checked := Tryz.checked }
namespace Rows
def none {H : Type} : Left H := { results := [], args := [] }

/-- 'orrerytop.TopSplits': WHATEVER THE INPUT: true; the input reads as it did. -/
def topSplitsSpec : ChangeSpec := { name := "topSplits", fn := fun _ => fun
  | [d1, d2, d3, d4] => { results := [.lit (.bool true)], args := [d1, d2, d3, d4] }
  | _ => none }
def topSplitsRow : OpenClaim := { program := "ytoohlnnpalgnaaagreat", sum := "669335474f813a0b6a65f60b5a072595c9b6331773a69000cd3b035aac3f45fe", func := "orrery/orrerytop.TopSplits", spec := "topSplits", unfollowed := true, recurses := true, plainKeys := false, apart := false }
def TopSplitsSaid : Prop := topSplitsRow.holds Tryz.pinned (OpenSpec.ofChange topSplitsSpec)

/-- ITS FALSE NEIGHBOUR: 'it returns false'. Refute it at one input. -/
def topSplitsWrong : ChangeSpec := { name := "topSplits", fn := fun _ => fun
  | [d1, d2, d3, d4] => { results := [.lit (.bool false)], args := [d1, d2, d3, d4] }
  | _ => none }
def TopSplitsWrongFalsely : Prop := topSplitsRow.holds Tryz.pinned (OpenSpec.ofChange topSplitsWrong)

/-- 'orrerylaw24.EngineParts': WHATEVER THE INPUT: true; the input reads as it did. -/
def enginePartsSpec : ChangeSpec := { name := "engineParts", fn := fun _ => fun
  | [d1, d2, d3] => { results := [.lit (.bool true)], args := [d1, d2, d3] }
  | _ => none }
def enginePartsRow : OpenClaim := { program := "ytoohlnnpalgnaaagreat", sum := "669335474f813a0b6a65f60b5a072595c9b6331773a69000cd3b035aac3f45fe", func := "orrery/orrerylaw24.EngineParts", spec := "engineParts", unfollowed := true, recurses := true, plainKeys := false, apart := false }
def EnginePartsSaid : Prop := enginePartsRow.holds Tryz.pinned (OpenSpec.ofChange enginePartsSpec)

/-- ITS FALSE NEIGHBOUR: 'it returns false'. Refute it at one input. -/
def enginePartsWrong : ChangeSpec := { name := "engineParts", fn := fun _ => fun
  | [d1, d2, d3] => { results := [.lit (.bool false)], args := [d1, d2, d3] }
  | _ => none }
def EnginePartsWrongFalsely : Prop := enginePartsRow.holds Tryz.pinned (OpenSpec.ofChange enginePartsWrong)

/-- 'orrerylaw24.EngineHolds': WHATEVER THE INPUT: true; the input reads as it did. -/
def engineHoldsSpec : ChangeSpec := { name := "engineHolds", fn := fun _ => fun
  | [d1, d2, d3] => { results := [.lit (.bool true)], args := [d1, d2, d3] }
  | _ => none }
def engineHoldsRow : OpenClaim := { program := "ytoohlnnpalgnaaagreat", sum := "669335474f813a0b6a65f60b5a072595c9b6331773a69000cd3b035aac3f45fe", func := "orrery/orrerylaw24.EngineHolds", spec := "engineHolds", unfollowed := true, recurses := true, plainKeys := false, apart := false }
def EngineHoldsSaid : Prop := engineHoldsRow.holds Tryz.pinned (OpenSpec.ofChange engineHoldsSpec)

/-- ITS FALSE NEIGHBOUR: 'it returns false'. Refute it at one input. -/
def engineHoldsWrong : ChangeSpec := { name := "engineHolds", fn := fun _ => fun
  | [d1, d2, d3] => { results := [.lit (.bool false)], args := [d1, d2, d3] }
  | _ => none }
def EngineHoldsWrongFalsely : Prop := engineHoldsRow.holds Tryz.pinned (OpenSpec.ofChange engineHoldsWrong)

/-- 'orrerylaw24.EngineQueries': WHATEVER THE INPUT: true; the input reads as it did. -/
def engineQueriesSpec : ChangeSpec := { name := "engineQueries", fn := fun _ => fun
  | [d1, d2, d3, d4, d5] => { results := [.lit (.bool true)], args := [d1, d2, d3, d4, d5] }
  | _ => none }
def engineQueriesRow : OpenClaim := { program := "ytoohlnnpalgnaaagreat", sum := "669335474f813a0b6a65f60b5a072595c9b6331773a69000cd3b035aac3f45fe", func := "orrery/orrerylaw24.EngineQueries", spec := "engineQueries", unfollowed := true, recurses := true, plainKeys := false, apart := false }
def EngineQueriesSaid : Prop := engineQueriesRow.holds Tryz.pinned (OpenSpec.ofChange engineQueriesSpec)

/-- ITS FALSE NEIGHBOUR: 'it returns false'. Refute it at one input. -/
def engineQueriesWrong : ChangeSpec := { name := "engineQueries", fn := fun _ => fun
  | [d1, d2, d3, d4, d5] => { results := [.lit (.bool false)], args := [d1, d2, d3, d4, d5] }
  | _ => none }
def EngineQueriesWrongFalsely : Prop := engineQueriesRow.holds Tryz.pinned (OpenSpec.ofChange engineQueriesWrong)

/-- 'orrerylaw24.EnginePast': WHATEVER THE INPUT: true; the input reads as it did. -/
def enginePastSpec : ChangeSpec := { name := "enginePast", fn := fun _ => fun
  | [d1, d2, d3, d4, d5] => { results := [.lit (.bool true)], args := [d1, d2, d3, d4, d5] }
  | _ => none }
def enginePastRow : OpenClaim := { program := "ytoohlnnpalgnaaagreat", sum := "669335474f813a0b6a65f60b5a072595c9b6331773a69000cd3b035aac3f45fe", func := "orrery/orrerylaw24.EnginePast", spec := "enginePast", unfollowed := true, recurses := true, plainKeys := false, apart := false }
def EnginePastSaid : Prop := enginePastRow.holds Tryz.pinned (OpenSpec.ofChange enginePastSpec)

/-- ITS FALSE NEIGHBOUR: 'it returns false'. Refute it at one input. -/
def enginePastWrong : ChangeSpec := { name := "enginePast", fn := fun _ => fun
  | [d1, d2, d3, d4, d5] => { results := [.lit (.bool false)], args := [d1, d2, d3, d4, d5] }
  | _ => none }
def EnginePastWrongFalsely : Prop := enginePastRow.holds Tryz.pinned (OpenSpec.ofChange enginePastWrong)

/-- 'orrerylaw26.AuditEngines': WHATEVER THE INPUT: true; the input reads as it did. -/
def auditEnginesSpec : ChangeSpec := { name := "auditEngines", fn := fun _ => fun
  | [d1, d2, d3] => { results := [.lit (.bool true)], args := [d1, d2, d3] }
  | _ => none }
def auditEnginesRow : OpenClaim := { program := "ytoohlnnpalgnaaagreat", sum := "669335474f813a0b6a65f60b5a072595c9b6331773a69000cd3b035aac3f45fe", func := "orrery/orrerylaw26.AuditEngines", spec := "auditEngines", unfollowed := true, recurses := true, plainKeys := false, apart := false }
def AuditEnginesSaid : Prop := auditEnginesRow.holds Tryz.pinned (OpenSpec.ofChange auditEnginesSpec)

/-- ITS FALSE NEIGHBOUR: 'it returns false'. Refute it at one input. -/
def auditEnginesWrong : ChangeSpec := { name := "auditEngines", fn := fun _ => fun
  | [d1, d2, d3] => { results := [.lit (.bool false)], args := [d1, d2, d3] }
  | _ => none }
def AuditEnginesWrongFalsely : Prop := auditEnginesRow.holds Tryz.pinned (OpenSpec.ofChange auditEnginesWrong)

/-- 'orrerytop.TopReplans': WHATEVER THE INPUT: true; the input reads as it did. -/
def topReplansSpec : ChangeSpec := { name := "topReplans", fn := fun _ => fun
  | [d1, d2, d3, d4, d5] => { results := [.lit (.bool true)], args := [d1, d2, d3, d4, d5] }
  | _ => none }
def topReplansRow : OpenClaim := { program := "ytoohlnnpalgnaaagreat", sum := "669335474f813a0b6a65f60b5a072595c9b6331773a69000cd3b035aac3f45fe", func := "orrery/orrerytop.TopReplans", spec := "topReplans", unfollowed := true, recurses := true, plainKeys := false, apart := false }
def TopReplansSaid : Prop := topReplansRow.holds Tryz.pinned (OpenSpec.ofChange topReplansSpec)

/-- ITS FALSE NEIGHBOUR: 'it returns false'. Refute it at one input. -/
def topReplansWrong : ChangeSpec := { name := "topReplans", fn := fun _ => fun
  | [d1, d2, d3, d4, d5] => { results := [.lit (.bool false)], args := [d1, d2, d3, d4, d5] }
  | _ => none }
def TopReplansWrongFalsely : Prop := topReplansRow.holds Tryz.pinned (OpenSpec.ofChange topReplansWrong)

/-- 'orrerytop.TopCerts': WHATEVER THE INPUT: true; the input reads as it did. -/
def topCertsSpec : ChangeSpec := { name := "topCerts", fn := fun _ => fun
  | [d1, d2, d3] => { results := [.lit (.bool true)], args := [d1, d2, d3] }
  | _ => none }
def topCertsRow : OpenClaim := { program := "ytoohlnnpalgnaaagreat", sum := "669335474f813a0b6a65f60b5a072595c9b6331773a69000cd3b035aac3f45fe", func := "orrery/orrerytop.TopCerts", spec := "topCerts", unfollowed := true, recurses := true, plainKeys := false, apart := false }
def TopCertsSaid : Prop := topCertsRow.holds Tryz.pinned (OpenSpec.ofChange topCertsSpec)

/-- ITS FALSE NEIGHBOUR: 'it returns false'. Refute it at one input. -/
def topCertsWrong : ChangeSpec := { name := "topCerts", fn := fun _ => fun
  | [d1, d2, d3] => { results := [.lit (.bool false)], args := [d1, d2, d3] }
  | _ => none }
def TopCertsWrongFalsely : Prop := topCertsRow.holds Tryz.pinned (OpenSpec.ofChange topCertsWrong)

/- THE SECOND FORM. 'bulk': how many values and letters a reading holds, each counted each time it is reached (what is shared counts as often as it is met; a slice's spare places count too). A statement '..UptoSaid' is the law's where the arguments, and the package variables that the reading takes, are together of bulk at most 1048576: NARROWER than '..Said'. Prove '..Said' where nothing that the law and all that it calls make is longer than what came in: it says more and counts as full. Else prove '..UptoSaid'. A law counts once. -/
mutual
def uptoBulk {H : Type} : DataW H → Nat
  | .lit (.string bytes) => bytes.length + 1
  | .lit _ => 1
  | .nil => 1
  | .ptr d => uptoBulk d + 1
  | .slice elems spare => uptoBulkAll elems + uptoBulkAll spare + 1
  | .agg parts => uptoBulkAll parts + 1
  | .iface _ d => uptoBulk d + 1
  | .map entries => uptoBulkEntries entries + 1
  | .held _ => 1
def uptoBulkAll {H : Type} : List (DataW H) → Nat
  | [] => 0
  | d :: r => uptoBulk d + uptoBulkAll r
def uptoBulkEntries {H : Type} : List (Lit × DataW H) → Nat
  | [] => 0
  | x :: r => uptoBulkEntry x + uptoBulkEntries r
def uptoBulkEntry {H : Type} : Lit × DataW H → Nat
  | (.string bytes, d) => bytes.length + uptoBulk d + 1
  | (_, d) => uptoBulk d + 1
 end
def uptoSmall : (H : Type) → List (DataW H) → Bool := fun _ ds => decide (uptoBulkAll ds ≤ 1048576)
def OpenSpec.upto (s : _root_.Go.ChangeSpec) : _root_.Go.OpenSpec := { _root_.Go.OpenSpec.ofChange s with cond := some uptoSmall }

/-- 'orrerytop.TopSplits', WHERE WHAT IT READS IS OF BULK AT MOST 1048576: true; the input reads as it did. -/
def topSplitsUptoRow : OpenClaim := { program := "ytoohlnnpalgnaaagreat", sum := "669335474f813a0b6a65f60b5a072595c9b6331773a69000cd3b035aac3f45fe", func := "orrery/orrerytop.TopSplits", spec := "topSplits", unfollowed := true, recurses := true, plainKeys := false, apart := false, narrowed := true }
def TopSplitsUptoSaid : Prop := topSplitsUptoRow.holds Tryz.pinned (OpenSpec.upto topSplitsSpec)

/-- 'orrerylaw24.EngineParts', WHERE WHAT IT READS IS OF BULK AT MOST 1048576: true; the input reads as it did. -/
def enginePartsUptoRow : OpenClaim := { program := "ytoohlnnpalgnaaagreat", sum := "669335474f813a0b6a65f60b5a072595c9b6331773a69000cd3b035aac3f45fe", func := "orrery/orrerylaw24.EngineParts", spec := "engineParts", unfollowed := true, recurses := true, plainKeys := false, apart := false, narrowed := true }
def EnginePartsUptoSaid : Prop := enginePartsUptoRow.holds Tryz.pinned (OpenSpec.upto enginePartsSpec)

/-- 'orrerylaw24.EngineHolds', WHERE WHAT IT READS IS OF BULK AT MOST 1048576: true; the input reads as it did. -/
def engineHoldsUptoRow : OpenClaim := { program := "ytoohlnnpalgnaaagreat", sum := "669335474f813a0b6a65f60b5a072595c9b6331773a69000cd3b035aac3f45fe", func := "orrery/orrerylaw24.EngineHolds", spec := "engineHolds", unfollowed := true, recurses := true, plainKeys := false, apart := false, narrowed := true }
def EngineHoldsUptoSaid : Prop := engineHoldsUptoRow.holds Tryz.pinned (OpenSpec.upto engineHoldsSpec)

/-- 'orrerylaw24.EngineQueries', WHERE WHAT IT READS IS OF BULK AT MOST 1048576: true; the input reads as it did. -/
def engineQueriesUptoRow : OpenClaim := { program := "ytoohlnnpalgnaaagreat", sum := "669335474f813a0b6a65f60b5a072595c9b6331773a69000cd3b035aac3f45fe", func := "orrery/orrerylaw24.EngineQueries", spec := "engineQueries", unfollowed := true, recurses := true, plainKeys := false, apart := false, narrowed := true }
def EngineQueriesUptoSaid : Prop := engineQueriesUptoRow.holds Tryz.pinned (OpenSpec.upto engineQueriesSpec)

/-- 'orrerylaw24.EnginePast', WHERE WHAT IT READS IS OF BULK AT MOST 1048576: true; the input reads as it did. -/
def enginePastUptoRow : OpenClaim := { program := "ytoohlnnpalgnaaagreat", sum := "669335474f813a0b6a65f60b5a072595c9b6331773a69000cd3b035aac3f45fe", func := "orrery/orrerylaw24.EnginePast", spec := "enginePast", unfollowed := true, recurses := true, plainKeys := false, apart := false, narrowed := true }
def EnginePastUptoSaid : Prop := enginePastUptoRow.holds Tryz.pinned (OpenSpec.upto enginePastSpec)

/-- 'orrerylaw26.AuditEngines', WHERE WHAT IT READS IS OF BULK AT MOST 1048576: true; the input reads as it did. -/
def auditEnginesUptoRow : OpenClaim := { program := "ytoohlnnpalgnaaagreat", sum := "669335474f813a0b6a65f60b5a072595c9b6331773a69000cd3b035aac3f45fe", func := "orrery/orrerylaw26.AuditEngines", spec := "auditEngines", unfollowed := true, recurses := true, plainKeys := false, apart := false, narrowed := true }
def AuditEnginesUptoSaid : Prop := auditEnginesUptoRow.holds Tryz.pinned (OpenSpec.upto auditEnginesSpec)

/-- 'orrerytop.TopReplans', WHERE WHAT IT READS IS OF BULK AT MOST 1048576: true; the input reads as it did. -/
def topReplansUptoRow : OpenClaim := { program := "ytoohlnnpalgnaaagreat", sum := "669335474f813a0b6a65f60b5a072595c9b6331773a69000cd3b035aac3f45fe", func := "orrery/orrerytop.TopReplans", spec := "topReplans", unfollowed := true, recurses := true, plainKeys := false, apart := false, narrowed := true }
def TopReplansUptoSaid : Prop := topReplansUptoRow.holds Tryz.pinned (OpenSpec.upto topReplansSpec)

/-- 'orrerytop.TopCerts', WHERE WHAT IT READS IS OF BULK AT MOST 1048576: true; the input reads as it did. -/
def topCertsUptoRow : OpenClaim := { program := "ytoohlnnpalgnaaagreat", sum := "669335474f813a0b6a65f60b5a072595c9b6331773a69000cd3b035aac3f45fe", func := "orrery/orrerytop.TopCerts", spec := "topCerts", unfollowed := true, recurses := true, plainKeys := false, apart := false, narrowed := true }
def TopCertsUptoSaid : Prop := topCertsUptoRow.holds Tryz.pinned (OpenSpec.upto topCertsSpec)

end Rows
end Go.Proofs.YtoohlnnpalgnaaaGreat
