/-
  No cell of these rows narrows 'for every input' (looked for: loops, veiled, ifaces, maps, wideKeys, modest, calm, conditions, laid).
  DERIVED. THE GIVEN ROWS OF THIS SEAT. 12 by the template 'for every input the law returns true; each argument reads behind the call as it read before'; 0 by the template 'total and deterministic' (their statements: YtaffmkgbfgjgeaaGreatTotals.lean).
  GIVEN WITH THE SEED: the statements are not yours to turn. If you find one false, say at which input.
  Laid BY PROGRAM, IN A SANDBOX (cutbox-rows.mjs): the forced cells as the released guide's own fill.sh prints them over the translation 3e9875a305ebe4e7… (all of the seat's roots in one cut). By AI agents, Wed Nov 11 2026. No macro, syntax, notation, axiom, sorry.
-/
import Derived.Test.YtaffmkgbfgjgeaaGreatChecked
import GoSem.Claim
import GoSem.ClaimJoined
import GoSem.ClaimMapViews
import Derived.JoinedTies
import Derived.KernelRfl
namespace Go.Proofs.YtaffmkgbfgjgeaaGreat
/- THE CELL 'sum', in the pinned program and in every row, IS THE sha256 OF THE DUMP (.gsa) THAT YtaffmkgbfgjgeaaGreatProg.lean LOADS. Nothing in Lean hashes anything: it is a label: what it is worth is what the hold of that sum in a sandbox is worth. -/
noncomputable def Tryz.pinned : Pinned := { name := "ytaffmkgbfgjgeaagreat", sum := "3e9875a305ebe4e70ada2c4715682f08acd122e93f1401b0d5431714dcd1b991", checked := Tryz.checked }
namespace Rows
def none {H : Type} : Left H := { results := [], args := [] }

/-- 'orrerylaw26.AuditCerts': WHATEVER THE INPUT: true; the input reads as it did. -/
def auditCertsSpec : ChangeSpec := { name := "auditCerts", fn := fun _ => fun
  | [d1, d2, d3, d4, d5, d6] => { results := [.lit (.bool true)], args := [d1, d2, d3, d4, d5, d6] }
  | _ => none }
def auditCertsRow : OpenClaim := { program := "ytaffmkgbfgjgeaagreat", sum := "3e9875a305ebe4e70ada2c4715682f08acd122e93f1401b0d5431714dcd1b991", func := "orrery/orrerylaw26.AuditCerts", spec := "auditCerts", unfollowed := true, recurses := true, plainKeys := false, apart := false }
def AuditCertsSaid : Prop := auditCertsRow.holds Tryz.pinned (OpenSpec.ofChange auditCertsSpec)

/-- ITS FALSE NEIGHBOUR: 'it returns false'. Refute it at one input. -/
def auditCertsWrong : ChangeSpec := { name := "auditCerts", fn := fun _ => fun
  | [d1, d2, d3, d4, d5, d6] => { results := [.lit (.bool false)], args := [d1, d2, d3, d4, d5, d6] }
  | _ => none }
def AuditCertsWrongFalsely : Prop := auditCertsRow.holds Tryz.pinned (OpenSpec.ofChange auditCertsWrong)

/-- 'orrerylaw26.AuditRight': WHATEVER THE INPUT: true; the input reads as it did. -/
def auditRightSpec : ChangeSpec := { name := "auditRight", fn := fun _ => fun
  | [d1, d2, d3] => { results := [.lit (.bool true)], args := [d1, d2, d3] }
  | _ => none }
def auditRightRow : OpenClaim := { program := "ytaffmkgbfgjgeaagreat", sum := "3e9875a305ebe4e70ada2c4715682f08acd122e93f1401b0d5431714dcd1b991", func := "orrery/orrerylaw26.AuditRight", spec := "auditRight", unfollowed := true, recurses := true, plainKeys := false, apart := false }
def AuditRightSaid : Prop := auditRightRow.holds Tryz.pinned (OpenSpec.ofChange auditRightSpec)

/-- ITS FALSE NEIGHBOUR: 'it returns false'. Refute it at one input. -/
def auditRightWrong : ChangeSpec := { name := "auditRight", fn := fun _ => fun
  | [d1, d2, d3] => { results := [.lit (.bool false)], args := [d1, d2, d3] }
  | _ => none }
def AuditRightWrongFalsely : Prop := auditRightRow.holds Tryz.pinned (OpenSpec.ofChange auditRightWrong)

/-- 'orrerylaw26.AuditWrong': WHATEVER THE INPUT: true; the input reads as it did. -/
def auditWrongSpec : ChangeSpec := { name := "auditWrong", fn := fun _ => fun
  | [d1, d2, d3, d4] => { results := [.lit (.bool true)], args := [d1, d2, d3, d4] }
  | _ => none }
def auditWrongRow : OpenClaim := { program := "ytaffmkgbfgjgeaagreat", sum := "3e9875a305ebe4e70ada2c4715682f08acd122e93f1401b0d5431714dcd1b991", func := "orrery/orrerylaw26.AuditWrong", spec := "auditWrong", unfollowed := true, recurses := true, plainKeys := false, apart := false }
def AuditWrongSaid : Prop := auditWrongRow.holds Tryz.pinned (OpenSpec.ofChange auditWrongSpec)

/-- ITS FALSE NEIGHBOUR: 'it returns false'. Refute it at one input. -/
def auditWrongWrong : ChangeSpec := { name := "auditWrong", fn := fun _ => fun
  | [d1, d2, d3, d4] => { results := [.lit (.bool false)], args := [d1, d2, d3, d4] }
  | _ => none }
def AuditWrongWrongFalsely : Prop := auditWrongRow.holds Tryz.pinned (OpenSpec.ofChange auditWrongWrong)

/-- 'orrerylaw26.AuditAny': WHATEVER THE INPUT: true; the input reads as it did. -/
def auditAnySpec : ChangeSpec := { name := "auditAny", fn := fun _ => fun
  | [d1, d2, d3, d4, d5] => { results := [.lit (.bool true)], args := [d1, d2, d3, d4, d5] }
  | _ => none }
def auditAnyRow : OpenClaim := { program := "ytaffmkgbfgjgeaagreat", sum := "3e9875a305ebe4e70ada2c4715682f08acd122e93f1401b0d5431714dcd1b991", func := "orrery/orrerylaw26.AuditAny", spec := "auditAny", unfollowed := true, recurses := true, plainKeys := false, apart := false }
def AuditAnySaid : Prop := auditAnyRow.holds Tryz.pinned (OpenSpec.ofChange auditAnySpec)

/-- ITS FALSE NEIGHBOUR: 'it returns false'. Refute it at one input. -/
def auditAnyWrong : ChangeSpec := { name := "auditAny", fn := fun _ => fun
  | [d1, d2, d3, d4, d5] => { results := [.lit (.bool false)], args := [d1, d2, d3, d4, d5] }
  | _ => none }
def AuditAnyWrongFalsely : Prop := auditAnyRow.holds Tryz.pinned (OpenSpec.ofChange auditAnyWrong)

/-- 'orrerylaw21.PairLeast': WHATEVER THE INPUT: true; the input reads as it did. -/
def pairLeastSpec : ChangeSpec := { name := "pairLeast", fn := fun _ => fun
  | [d1, d2, d3] => { results := [.lit (.bool true)], args := [d1, d2, d3] }
  | _ => none }
def pairLeastRow : OpenClaim := { program := "ytaffmkgbfgjgeaagreat", sum := "3e9875a305ebe4e70ada2c4715682f08acd122e93f1401b0d5431714dcd1b991", func := "orrery/orrerylaw21.PairLeast", spec := "pairLeast", unfollowed := true, recurses := true, plainKeys := false, apart := false }
def PairLeastSaid : Prop := pairLeastRow.holds Tryz.pinned (OpenSpec.ofChange pairLeastSpec)

/-- ITS FALSE NEIGHBOUR: 'it returns false'. Refute it at one input. -/
def pairLeastWrong : ChangeSpec := { name := "pairLeast", fn := fun _ => fun
  | [d1, d2, d3] => { results := [.lit (.bool false)], args := [d1, d2, d3] }
  | _ => none }
def PairLeastWrongFalsely : Prop := pairLeastRow.holds Tryz.pinned (OpenSpec.ofChange pairLeastWrong)

/-- 'orrerylaw19.TourneyMatches': WHATEVER THE INPUT: true; the input reads as it did. -/
def tourneyMatchesSpec : ChangeSpec := { name := "tourneyMatches", fn := fun _ => fun
  | [d1, d2, d3] => { results := [.lit (.bool true)], args := [d1, d2, d3] }
  | _ => none }
def tourneyMatchesRow : OpenClaim := { program := "ytaffmkgbfgjgeaagreat", sum := "3e9875a305ebe4e70ada2c4715682f08acd122e93f1401b0d5431714dcd1b991", func := "orrery/orrerylaw19.TourneyMatches", spec := "tourneyMatches", unfollowed := true, recurses := true, plainKeys := false, apart := false }
def TourneyMatchesSaid : Prop := tourneyMatchesRow.holds Tryz.pinned (OpenSpec.ofChange tourneyMatchesSpec)

/-- ITS FALSE NEIGHBOUR: 'it returns false'. Refute it at one input. -/
def tourneyMatchesWrong : ChangeSpec := { name := "tourneyMatches", fn := fun _ => fun
  | [d1, d2, d3] => { results := [.lit (.bool false)], args := [d1, d2, d3] }
  | _ => none }
def TourneyMatchesWrongFalsely : Prop := tourneyMatchesRow.holds Tryz.pinned (OpenSpec.ofChange tourneyMatchesWrong)

/-- 'orrerylaw21.PairNews': WHATEVER THE INPUT: true; the input reads as it did. -/
def pairNewsSpec : ChangeSpec := { name := "pairNews", fn := fun _ => fun
  | [d1, d2] => { results := [.lit (.bool true)], args := [d1, d2] }
  | _ => none }
def pairNewsRow : OpenClaim := { program := "ytaffmkgbfgjgeaagreat", sum := "3e9875a305ebe4e70ada2c4715682f08acd122e93f1401b0d5431714dcd1b991", func := "orrery/orrerylaw21.PairNews", spec := "pairNews", unfollowed := true, recurses := true, plainKeys := false, apart := false }
def PairNewsSaid : Prop := pairNewsRow.holds Tryz.pinned (OpenSpec.ofChange pairNewsSpec)

/-- ITS FALSE NEIGHBOUR: 'it returns false'. Refute it at one input. -/
def pairNewsWrong : ChangeSpec := { name := "pairNews", fn := fun _ => fun
  | [d1, d2] => { results := [.lit (.bool false)], args := [d1, d2] }
  | _ => none }
def PairNewsWrongFalsely : Prop := pairNewsRow.holds Tryz.pinned (OpenSpec.ofChange pairNewsWrong)

/-- 'orrerylaw19.TourneyNews': WHATEVER THE INPUT: true; the input reads as it did. -/
def tourneyNewsSpec : ChangeSpec := { name := "tourneyNews", fn := fun _ => fun
  | [d1, d2] => { results := [.lit (.bool true)], args := [d1, d2] }
  | _ => none }
def tourneyNewsRow : OpenClaim := { program := "ytaffmkgbfgjgeaagreat", sum := "3e9875a305ebe4e70ada2c4715682f08acd122e93f1401b0d5431714dcd1b991", func := "orrery/orrerylaw19.TourneyNews", spec := "tourneyNews", unfollowed := true, recurses := true, plainKeys := false, apart := false }
def TourneyNewsSaid : Prop := tourneyNewsRow.holds Tryz.pinned (OpenSpec.ofChange tourneyNewsSpec)

/-- ITS FALSE NEIGHBOUR: 'it returns false'. Refute it at one input. -/
def tourneyNewsWrong : ChangeSpec := { name := "tourneyNews", fn := fun _ => fun
  | [d1, d2] => { results := [.lit (.bool false)], args := [d1, d2] }
  | _ => none }
def TourneyNewsWrongFalsely : Prop := tourneyNewsRow.holds Tryz.pinned (OpenSpec.ofChange tourneyNewsWrong)

/-- 'orrerylaw22.DelaunayEmpty': WHATEVER THE INPUT: true; the input reads as it did. -/
def delaunayEmptySpec : ChangeSpec := { name := "delaunayEmpty", fn := fun _ => fun
  | [d1, d2, d3] => { results := [.lit (.bool true)], args := [d1, d2, d3] }
  | _ => none }
def delaunayEmptyRow : OpenClaim := { program := "ytaffmkgbfgjgeaagreat", sum := "3e9875a305ebe4e70ada2c4715682f08acd122e93f1401b0d5431714dcd1b991", func := "orrery/orrerylaw22.DelaunayEmpty", spec := "delaunayEmpty", unfollowed := true, recurses := true, plainKeys := false, apart := false }
def DelaunayEmptySaid : Prop := delaunayEmptyRow.holds Tryz.pinned (OpenSpec.ofChange delaunayEmptySpec)

/-- ITS FALSE NEIGHBOUR: 'it returns false'. Refute it at one input. -/
def delaunayEmptyWrong : ChangeSpec := { name := "delaunayEmpty", fn := fun _ => fun
  | [d1, d2, d3] => { results := [.lit (.bool false)], args := [d1, d2, d3] }
  | _ => none }
def DelaunayEmptyWrongFalsely : Prop := delaunayEmptyRow.holds Tryz.pinned (OpenSpec.ofChange delaunayEmptyWrong)

/-- 'orrerylaw20.HullAround': WHATEVER THE INPUT: true; the input reads as it did. -/
def hullAroundSpec : ChangeSpec := { name := "hullAround", fn := fun _ => fun
  | [d1, d2, d3] => { results := [.lit (.bool true)], args := [d1, d2, d3] }
  | _ => none }
def hullAroundRow : OpenClaim := { program := "ytaffmkgbfgjgeaagreat", sum := "3e9875a305ebe4e70ada2c4715682f08acd122e93f1401b0d5431714dcd1b991", func := "orrery/orrerylaw20.HullAround", spec := "hullAround", unfollowed := true, recurses := true, plainKeys := false, apart := false }
def HullAroundSaid : Prop := hullAroundRow.holds Tryz.pinned (OpenSpec.ofChange hullAroundSpec)

/-- ITS FALSE NEIGHBOUR: 'it returns false'. Refute it at one input. -/
def hullAroundWrong : ChangeSpec := { name := "hullAround", fn := fun _ => fun
  | [d1, d2, d3] => { results := [.lit (.bool false)], args := [d1, d2, d3] }
  | _ => none }
def HullAroundWrongFalsely : Prop := hullAroundRow.holds Tryz.pinned (OpenSpec.ofChange hullAroundWrong)

/-- 'orrerylaw22.DelaunayNews': WHATEVER THE INPUT: true; the input reads as it did. -/
def delaunayNewsSpec : ChangeSpec := { name := "delaunayNews", fn := fun _ => fun
  | [d1, d2] => { results := [.lit (.bool true)], args := [d1, d2] }
  | _ => none }
def delaunayNewsRow : OpenClaim := { program := "ytaffmkgbfgjgeaagreat", sum := "3e9875a305ebe4e70ada2c4715682f08acd122e93f1401b0d5431714dcd1b991", func := "orrery/orrerylaw22.DelaunayNews", spec := "delaunayNews", unfollowed := true, recurses := true, plainKeys := false, apart := false }
def DelaunayNewsSaid : Prop := delaunayNewsRow.holds Tryz.pinned (OpenSpec.ofChange delaunayNewsSpec)

/-- ITS FALSE NEIGHBOUR: 'it returns false'. Refute it at one input. -/
def delaunayNewsWrong : ChangeSpec := { name := "delaunayNews", fn := fun _ => fun
  | [d1, d2] => { results := [.lit (.bool false)], args := [d1, d2] }
  | _ => none }
def DelaunayNewsWrongFalsely : Prop := delaunayNewsRow.holds Tryz.pinned (OpenSpec.ofChange delaunayNewsWrong)

/-- 'orrerylaw20.HullNews': WHATEVER THE INPUT: true; the input reads as it did. -/
def hullNewsSpec : ChangeSpec := { name := "hullNews", fn := fun _ => fun
  | [d1, d2] => { results := [.lit (.bool true)], args := [d1, d2] }
  | _ => none }
def hullNewsRow : OpenClaim := { program := "ytaffmkgbfgjgeaagreat", sum := "3e9875a305ebe4e70ada2c4715682f08acd122e93f1401b0d5431714dcd1b991", func := "orrery/orrerylaw20.HullNews", spec := "hullNews", unfollowed := true, recurses := true, plainKeys := false, apart := false }
def HullNewsSaid : Prop := hullNewsRow.holds Tryz.pinned (OpenSpec.ofChange hullNewsSpec)

/-- ITS FALSE NEIGHBOUR: 'it returns false'. Refute it at one input. -/
def hullNewsWrong : ChangeSpec := { name := "hullNews", fn := fun _ => fun
  | [d1, d2] => { results := [.lit (.bool false)], args := [d1, d2] }
  | _ => none }
def HullNewsWrongFalsely : Prop := hullNewsRow.holds Tryz.pinned (OpenSpec.ofChange hullNewsWrong)

/- THE SECOND FORM. 'bulk': how many values and letters a reading holds, each counted each time it is reached (what is shared counts as often as it is met; a slice's spare places count too). A statement '..UptoSaid' is the law's where the arguments, and the package variables that the reading takes, are together of bulk at most 1048576: NARROWER than '..Said'. Prove '..Said' where nothing that the law and all that it calls make is longer than what came in: it says more and counts as full. Else prove '..UptoSaid'. A law counts once. -/
mutual
def uptoBulk {H : Type} : DataW H → Nat
  | .lit (.string bytes) => bytes.length + 1
  | .lit _ => 1
  | .nil => 1
  | .ptr d => uptoBulk d + 1
  | .slice elems spare => uptoBulkAll elems + uptoBulkAll spare + 1
  | .agg parts => uptoBulkAll parts + 1
  | .iface _ d => uptoBulk d + 1
  | .map entries => uptoBulkEntries entries + 1
  | .held _ => 1
def uptoBulkAll {H : Type} : List (DataW H) → Nat
  | [] => 0
  | d :: r => uptoBulk d + uptoBulkAll r
def uptoBulkEntries {H : Type} : List (Lit × DataW H) → Nat
  | [] => 0
  | x :: r => uptoBulkEntry x + uptoBulkEntries r
def uptoBulkEntry {H : Type} : Lit × DataW H → Nat
  | (.string bytes, d) => bytes.length + uptoBulk d + 1
  | (_, d) => uptoBulk d + 1
 end
def uptoSmall : (H : Type) → List (DataW H) → Bool := fun _ ds => decide (uptoBulkAll ds ≤ 1048576)
def OpenSpec.upto (s : _root_.Go.ChangeSpec) : _root_.Go.OpenSpec := { _root_.Go.OpenSpec.ofChange s with cond := some uptoSmall }

/-- 'orrerylaw26.AuditCerts', WHERE WHAT IT READS IS OF BULK AT MOST 1048576: true; the input reads as it did. -/
def auditCertsUptoRow : OpenClaim := { program := "ytaffmkgbfgjgeaagreat", sum := "3e9875a305ebe4e70ada2c4715682f08acd122e93f1401b0d5431714dcd1b991", func := "orrery/orrerylaw26.AuditCerts", spec := "auditCerts", unfollowed := true, recurses := true, plainKeys := false, apart := false, narrowed := true }
def AuditCertsUptoSaid : Prop := auditCertsUptoRow.holds Tryz.pinned (OpenSpec.upto auditCertsSpec)

/-- 'orrerylaw26.AuditRight', WHERE WHAT IT READS IS OF BULK AT MOST 1048576: true; the input reads as it did. -/
def auditRightUptoRow : OpenClaim := { program := "ytaffmkgbfgjgeaagreat", sum := "3e9875a305ebe4e70ada2c4715682f08acd122e93f1401b0d5431714dcd1b991", func := "orrery/orrerylaw26.AuditRight", spec := "auditRight", unfollowed := true, recurses := true, plainKeys := false, apart := false, narrowed := true }
def AuditRightUptoSaid : Prop := auditRightUptoRow.holds Tryz.pinned (OpenSpec.upto auditRightSpec)

/-- 'orrerylaw26.AuditWrong', WHERE WHAT IT READS IS OF BULK AT MOST 1048576: true; the input reads as it did. -/
def auditWrongUptoRow : OpenClaim := { program := "ytaffmkgbfgjgeaagreat", sum := "3e9875a305ebe4e70ada2c4715682f08acd122e93f1401b0d5431714dcd1b991", func := "orrery/orrerylaw26.AuditWrong", spec := "auditWrong", unfollowed := true, recurses := true, plainKeys := false, apart := false, narrowed := true }
def AuditWrongUptoSaid : Prop := auditWrongUptoRow.holds Tryz.pinned (OpenSpec.upto auditWrongSpec)

/-- 'orrerylaw26.AuditAny', WHERE WHAT IT READS IS OF BULK AT MOST 1048576: true; the input reads as it did. -/
def auditAnyUptoRow : OpenClaim := { program := "ytaffmkgbfgjgeaagreat", sum := "3e9875a305ebe4e70ada2c4715682f08acd122e93f1401b0d5431714dcd1b991", func := "orrery/orrerylaw26.AuditAny", spec := "auditAny", unfollowed := true, recurses := true, plainKeys := false, apart := false, narrowed := true }
def AuditAnyUptoSaid : Prop := auditAnyUptoRow.holds Tryz.pinned (OpenSpec.upto auditAnySpec)

/-- 'orrerylaw21.PairLeast', WHERE WHAT IT READS IS OF BULK AT MOST 1048576: true; the input reads as it did. -/
def pairLeastUptoRow : OpenClaim := { program := "ytaffmkgbfgjgeaagreat", sum := "3e9875a305ebe4e70ada2c4715682f08acd122e93f1401b0d5431714dcd1b991", func := "orrery/orrerylaw21.PairLeast", spec := "pairLeast", unfollowed := true, recurses := true, plainKeys := false, apart := false, narrowed := true }
def PairLeastUptoSaid : Prop := pairLeastUptoRow.holds Tryz.pinned (OpenSpec.upto pairLeastSpec)

/-- 'orrerylaw19.TourneyMatches', WHERE WHAT IT READS IS OF BULK AT MOST 1048576: true; the input reads as it did. -/
def tourneyMatchesUptoRow : OpenClaim := { program := "ytaffmkgbfgjgeaagreat", sum := "3e9875a305ebe4e70ada2c4715682f08acd122e93f1401b0d5431714dcd1b991", func := "orrery/orrerylaw19.TourneyMatches", spec := "tourneyMatches", unfollowed := true, recurses := true, plainKeys := false, apart := false, narrowed := true }
def TourneyMatchesUptoSaid : Prop := tourneyMatchesUptoRow.holds Tryz.pinned (OpenSpec.upto tourneyMatchesSpec)

/-- 'orrerylaw21.PairNews', WHERE WHAT IT READS IS OF BULK AT MOST 1048576: true; the input reads as it did. -/
def pairNewsUptoRow : OpenClaim := { program := "ytaffmkgbfgjgeaagreat", sum := "3e9875a305ebe4e70ada2c4715682f08acd122e93f1401b0d5431714dcd1b991", func := "orrery/orrerylaw21.PairNews", spec := "pairNews", unfollowed := true, recurses := true, plainKeys := false, apart := false, narrowed := true }
def PairNewsUptoSaid : Prop := pairNewsUptoRow.holds Tryz.pinned (OpenSpec.upto pairNewsSpec)

/-- 'orrerylaw19.TourneyNews', WHERE WHAT IT READS IS OF BULK AT MOST 1048576: true; the input reads as it did. -/
def tourneyNewsUptoRow : OpenClaim := { program := "ytaffmkgbfgjgeaagreat", sum := "3e9875a305ebe4e70ada2c4715682f08acd122e93f1401b0d5431714dcd1b991", func := "orrery/orrerylaw19.TourneyNews", spec := "tourneyNews", unfollowed := true, recurses := true, plainKeys := false, apart := false, narrowed := true }
def TourneyNewsUptoSaid : Prop := tourneyNewsUptoRow.holds Tryz.pinned (OpenSpec.upto tourneyNewsSpec)

/-- 'orrerylaw22.DelaunayEmpty', WHERE WHAT IT READS IS OF BULK AT MOST 1048576: true; the input reads as it did. -/
def delaunayEmptyUptoRow : OpenClaim := { program := "ytaffmkgbfgjgeaagreat", sum := "3e9875a305ebe4e70ada2c4715682f08acd122e93f1401b0d5431714dcd1b991", func := "orrery/orrerylaw22.DelaunayEmpty", spec := "delaunayEmpty", unfollowed := true, recurses := true, plainKeys := false, apart := false, narrowed := true }
def DelaunayEmptyUptoSaid : Prop := delaunayEmptyUptoRow.holds Tryz.pinned (OpenSpec.upto delaunayEmptySpec)

/-- 'orrerylaw20.HullAround', WHERE WHAT IT READS IS OF BULK AT MOST 1048576: true; the input reads as it did. -/
def hullAroundUptoRow : OpenClaim := { program := "ytaffmkgbfgjgeaagreat", sum := "3e9875a305ebe4e70ada2c4715682f08acd122e93f1401b0d5431714dcd1b991", func := "orrery/orrerylaw20.HullAround", spec := "hullAround", unfollowed := true, recurses := true, plainKeys := false, apart := false, narrowed := true }
def HullAroundUptoSaid : Prop := hullAroundUptoRow.holds Tryz.pinned (OpenSpec.upto hullAroundSpec)

/-- 'orrerylaw22.DelaunayNews', WHERE WHAT IT READS IS OF BULK AT MOST 1048576: true; the input reads as it did. -/
def delaunayNewsUptoRow : OpenClaim := { program := "ytaffmkgbfgjgeaagreat", sum := "3e9875a305ebe4e70ada2c4715682f08acd122e93f1401b0d5431714dcd1b991", func := "orrery/orrerylaw22.DelaunayNews", spec := "delaunayNews", unfollowed := true, recurses := true, plainKeys := false, apart := false, narrowed := true }
def DelaunayNewsUptoSaid : Prop := delaunayNewsUptoRow.holds Tryz.pinned (OpenSpec.upto delaunayNewsSpec)

/-- 'orrerylaw20.HullNews', WHERE WHAT IT READS IS OF BULK AT MOST 1048576: true; the input reads as it did. -/
def hullNewsUptoRow : OpenClaim := { program := "ytaffmkgbfgjgeaagreat", sum := "3e9875a305ebe4e70ada2c4715682f08acd122e93f1401b0d5431714dcd1b991", func := "orrery/orrerylaw20.HullNews", spec := "hullNews", unfollowed := true, recurses := true, plainKeys := false, apart := false, narrowed := true }
def HullNewsUptoSaid : Prop := hullNewsUptoRow.holds Tryz.pinned (OpenSpec.upto hullNewsSpec)

end Rows
end Go.Proofs.YtaffmkgbfgjgeaaGreat
