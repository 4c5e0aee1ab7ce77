/-
  No cell of these rows narrows 'for every input' (looked for: loops, veiled, ifaces, maps, wideKeys, modest, calm, conditions, laid).
  DERIVED. THE GIVEN ROWS OF THIS SEAT. 9 by the template 'for every input the law returns true; each argument reads behind the call as it read before'; 0 by the template 'total and deterministic' (their statements: YtdcbpgmmopdelaaGreatTotals.lean).
  GIVEN WITH THE SEED: the statements are not yours to turn. If you find one false, say at which input.
  Laid BY PROGRAM, IN A SANDBOX (cutbox-rows.mjs): the forced cells as the released guide's own fill.sh prints them over the translation b51499842efeebd1… (all of the seat's roots in one cut). By AI agents, Wed Nov 11 2026. No macro, syntax, notation, axiom, sorry.
-/
import Derived.Test.YtdcbpgmmopdelaaGreatChecked
import GoSem.Claim
import GoSem.ClaimJoined
import GoSem.ClaimMapViews
import Derived.JoinedTies
import Derived.KernelRfl
namespace Go.Proofs.YtdcbpgmmopdelaaGreat
/- THE CELL 'sum', in the pinned program and in every row, IS THE sha256 OF THE DUMP (.gsa) THAT YtdcbpgmmopdelaaGreatProg.lean LOADS. Nothing in Lean hashes anything: it is a label: what it is worth is what the hold of that sum in a sandbox is worth. -/
noncomputable def Tryz.pinned : Pinned := { name := "ytdcbpgmmopdelaagreat", sum := "b51499842efeebd13427b56299290fbd4289388160c93bd4c55d3e594396d6a5", checked := Tryz.checked }
namespace Rows
def none {H : Type} : Left H := { results := [], args := [] }

/-- 'orrerylaw26.AuditCerts': WHATEVER THE INPUT: true; the input reads as it did. -/
def auditCertsSpec : ChangeSpec := { name := "auditCerts", fn := fun _ => fun
  | [d1, d2, d3, d4, d5, d6] => { results := [.lit (.bool true)], args := [d1, d2, d3, d4, d5, d6] }
  | _ => none }
def auditCertsRow : OpenClaim := { program := "ytdcbpgmmopdelaagreat", sum := "b51499842efeebd13427b56299290fbd4289388160c93bd4c55d3e594396d6a5", func := "orrery/orrerylaw26.AuditCerts", spec := "auditCerts", unfollowed := true, recurses := true, plainKeys := false, apart := false }
def AuditCertsSaid : Prop := auditCertsRow.holds Tryz.pinned (OpenSpec.ofChange auditCertsSpec)

/-- ITS FALSE NEIGHBOUR: 'it returns false'. Refute it at one input. -/
def auditCertsWrong : ChangeSpec := { name := "auditCerts", fn := fun _ => fun
  | [d1, d2, d3, d4, d5, d6] => { results := [.lit (.bool false)], args := [d1, d2, d3, d4, d5, d6] }
  | _ => none }
def AuditCertsWrongFalsely : Prop := auditCertsRow.holds Tryz.pinned (OpenSpec.ofChange auditCertsWrong)

/-- 'orrerylaw26.AuditRight': WHATEVER THE INPUT: true; the input reads as it did. -/
def auditRightSpec : ChangeSpec := { name := "auditRight", fn := fun _ => fun
  | [d1, d2, d3] => { results := [.lit (.bool true)], args := [d1, d2, d3] }
  | _ => none }
def auditRightRow : OpenClaim := { program := "ytdcbpgmmopdelaagreat", sum := "b51499842efeebd13427b56299290fbd4289388160c93bd4c55d3e594396d6a5", func := "orrery/orrerylaw26.AuditRight", spec := "auditRight", unfollowed := true, recurses := true, plainKeys := false, apart := false }
def AuditRightSaid : Prop := auditRightRow.holds Tryz.pinned (OpenSpec.ofChange auditRightSpec)

/-- ITS FALSE NEIGHBOUR: 'it returns false'. Refute it at one input. -/
def auditRightWrong : ChangeSpec := { name := "auditRight", fn := fun _ => fun
  | [d1, d2, d3] => { results := [.lit (.bool false)], args := [d1, d2, d3] }
  | _ => none }
def AuditRightWrongFalsely : Prop := auditRightRow.holds Tryz.pinned (OpenSpec.ofChange auditRightWrong)

/-- 'orrerylaw26.AuditWrong': WHATEVER THE INPUT: true; the input reads as it did. -/
def auditWrongSpec : ChangeSpec := { name := "auditWrong", fn := fun _ => fun
  | [d1, d2, d3, d4] => { results := [.lit (.bool true)], args := [d1, d2, d3, d4] }
  | _ => none }
def auditWrongRow : OpenClaim := { program := "ytdcbpgmmopdelaagreat", sum := "b51499842efeebd13427b56299290fbd4289388160c93bd4c55d3e594396d6a5", func := "orrery/orrerylaw26.AuditWrong", spec := "auditWrong", unfollowed := true, recurses := true, plainKeys := false, apart := false }
def AuditWrongSaid : Prop := auditWrongRow.holds Tryz.pinned (OpenSpec.ofChange auditWrongSpec)

/-- ITS FALSE NEIGHBOUR: 'it returns false'. Refute it at one input. -/
def auditWrongWrong : ChangeSpec := { name := "auditWrong", fn := fun _ => fun
  | [d1, d2, d3, d4] => { results := [.lit (.bool false)], args := [d1, d2, d3, d4] }
  | _ => none }
def AuditWrongWrongFalsely : Prop := auditWrongRow.holds Tryz.pinned (OpenSpec.ofChange auditWrongWrong)

/-- 'orrerylaw26.AuditAny': WHATEVER THE INPUT: true; the input reads as it did. -/
def auditAnySpec : ChangeSpec := { name := "auditAny", fn := fun _ => fun
  | [d1, d2, d3, d4, d5] => { results := [.lit (.bool true)], args := [d1, d2, d3, d4, d5] }
  | _ => none }
def auditAnyRow : OpenClaim := { program := "ytdcbpgmmopdelaagreat", sum := "b51499842efeebd13427b56299290fbd4289388160c93bd4c55d3e594396d6a5", func := "orrery/orrerylaw26.AuditAny", spec := "auditAny", unfollowed := true, recurses := true, plainKeys := false, apart := false }
def AuditAnySaid : Prop := auditAnyRow.holds Tryz.pinned (OpenSpec.ofChange auditAnySpec)

/-- ITS FALSE NEIGHBOUR: 'it returns false'. Refute it at one input. -/
def auditAnyWrong : ChangeSpec := { name := "auditAny", fn := fun _ => fun
  | [d1, d2, d3, d4, d5] => { results := [.lit (.bool false)], args := [d1, d2, d3, d4, d5] }
  | _ => none }
def AuditAnyWrongFalsely : Prop := auditAnyRow.holds Tryz.pinned (OpenSpec.ofChange auditAnyWrong)

/-- 'orrerylaw21.PairPlays': WHATEVER THE INPUT: true; the input reads as it did. -/
def pairPlaysSpec : ChangeSpec := { name := "pairPlays", fn := fun _ => fun
  | [d1, d2, d3, d4] => { results := [.lit (.bool true)], args := [d1, d2, d3, d4] }
  | _ => none }
def pairPlaysRow : OpenClaim := { program := "ytdcbpgmmopdelaagreat", sum := "b51499842efeebd13427b56299290fbd4289388160c93bd4c55d3e594396d6a5", func := "orrery/orrerylaw21.PairPlays", spec := "pairPlays", unfollowed := true, recurses := true, plainKeys := false, apart := false }
def PairPlaysSaid : Prop := pairPlaysRow.holds Tryz.pinned (OpenSpec.ofChange pairPlaysSpec)

/-- ITS FALSE NEIGHBOUR: 'it returns false'. Refute it at one input. -/
def pairPlaysWrong : ChangeSpec := { name := "pairPlays", fn := fun _ => fun
  | [d1, d2, d3, d4] => { results := [.lit (.bool false)], args := [d1, d2, d3, d4] }
  | _ => none }
def PairPlaysWrongFalsely : Prop := pairPlaysRow.holds Tryz.pinned (OpenSpec.ofChange pairPlaysWrong)

/-- 'orrerylaw19.TourneyPlays': WHATEVER THE INPUT: true; the input reads as it did. -/
def tourneyPlaysSpec : ChangeSpec := { name := "tourneyPlays", fn := fun _ => fun
  | [d1, d2, d3, d4] => { results := [.lit (.bool true)], args := [d1, d2, d3, d4] }
  | _ => none }
def tourneyPlaysRow : OpenClaim := { program := "ytdcbpgmmopdelaagreat", sum := "b51499842efeebd13427b56299290fbd4289388160c93bd4c55d3e594396d6a5", func := "orrery/orrerylaw19.TourneyPlays", spec := "tourneyPlays", unfollowed := true, recurses := true, plainKeys := false, apart := false }
def TourneyPlaysSaid : Prop := tourneyPlaysRow.holds Tryz.pinned (OpenSpec.ofChange tourneyPlaysSpec)

/-- ITS FALSE NEIGHBOUR: 'it returns false'. Refute it at one input. -/
def tourneyPlaysWrong : ChangeSpec := { name := "tourneyPlays", fn := fun _ => fun
  | [d1, d2, d3, d4] => { results := [.lit (.bool false)], args := [d1, d2, d3, d4] }
  | _ => none }
def TourneyPlaysWrongFalsely : Prop := tourneyPlaysRow.holds Tryz.pinned (OpenSpec.ofChange tourneyPlaysWrong)

/-- 'orrerylaw18.SortedPlays': WHATEVER THE INPUT: true; the input reads as it did. -/
def sortedPlaysSpec : ChangeSpec := { name := "sortedPlays", fn := fun _ => fun
  | [d1, d2, d3, d4] => { results := [.lit (.bool true)], args := [d1, d2, d3, d4] }
  | _ => none }
def sortedPlaysRow : OpenClaim := { program := "ytdcbpgmmopdelaagreat", sum := "b51499842efeebd13427b56299290fbd4289388160c93bd4c55d3e594396d6a5", func := "orrery/orrerylaw18.SortedPlays", spec := "sortedPlays", unfollowed := true, recurses := true, plainKeys := false, apart := false }
def SortedPlaysSaid : Prop := sortedPlaysRow.holds Tryz.pinned (OpenSpec.ofChange sortedPlaysSpec)

/-- ITS FALSE NEIGHBOUR: 'it returns false'. Refute it at one input. -/
def sortedPlaysWrong : ChangeSpec := { name := "sortedPlays", fn := fun _ => fun
  | [d1, d2, d3, d4] => { results := [.lit (.bool false)], args := [d1, d2, d3, d4] }
  | _ => none }
def SortedPlaysWrongFalsely : Prop := sortedPlaysRow.holds Tryz.pinned (OpenSpec.ofChange sortedPlaysWrong)

/-- 'orrerylaw22.DelaunayPlays': WHATEVER THE INPUT: true; the input reads as it did. -/
def delaunayPlaysSpec : ChangeSpec := { name := "delaunayPlays", fn := fun _ => fun
  | [d1, d2, d3, d4] => { results := [.lit (.bool true)], args := [d1, d2, d3, d4] }
  | _ => none }
def delaunayPlaysRow : OpenClaim := { program := "ytdcbpgmmopdelaagreat", sum := "b51499842efeebd13427b56299290fbd4289388160c93bd4c55d3e594396d6a5", func := "orrery/orrerylaw22.DelaunayPlays", spec := "delaunayPlays", unfollowed := true, recurses := true, plainKeys := false, apart := false }
def DelaunayPlaysSaid : Prop := delaunayPlaysRow.holds Tryz.pinned (OpenSpec.ofChange delaunayPlaysSpec)

/-- ITS FALSE NEIGHBOUR: 'it returns false'. Refute it at one input. -/
def delaunayPlaysWrong : ChangeSpec := { name := "delaunayPlays", fn := fun _ => fun
  | [d1, d2, d3, d4] => { results := [.lit (.bool false)], args := [d1, d2, d3, d4] }
  | _ => none }
def DelaunayPlaysWrongFalsely : Prop := delaunayPlaysRow.holds Tryz.pinned (OpenSpec.ofChange delaunayPlaysWrong)

/-- 'orrerylaw20.HullPlays': WHATEVER THE INPUT: true; the input reads as it did. -/
def hullPlaysSpec : ChangeSpec := { name := "hullPlays", fn := fun _ => fun
  | [d1, d2, d3, d4] => { results := [.lit (.bool true)], args := [d1, d2, d3, d4] }
  | _ => none }
def hullPlaysRow : OpenClaim := { program := "ytdcbpgmmopdelaagreat", sum := "b51499842efeebd13427b56299290fbd4289388160c93bd4c55d3e594396d6a5", func := "orrery/orrerylaw20.HullPlays", spec := "hullPlays", unfollowed := true, recurses := true, plainKeys := false, apart := false }
def HullPlaysSaid : Prop := hullPlaysRow.holds Tryz.pinned (OpenSpec.ofChange hullPlaysSpec)

/-- ITS FALSE NEIGHBOUR: 'it returns false'. Refute it at one input. -/
def hullPlaysWrong : ChangeSpec := { name := "hullPlays", fn := fun _ => fun
  | [d1, d2, d3, d4] => { results := [.lit (.bool false)], args := [d1, d2, d3, d4] }
  | _ => none }
def HullPlaysWrongFalsely : Prop := hullPlaysRow.holds Tryz.pinned (OpenSpec.ofChange hullPlaysWrong)

/- THE SECOND FORM. 'bulk': how many values and letters a reading holds, each counted each time it is reached (what is shared counts as often as it is met; a slice's spare places count too). A statement '..UptoSaid' is the law's where the arguments, and the package variables that the reading takes, are together of bulk at most 1048576: NARROWER than '..Said'. Prove '..Said' where nothing that the law and all that it calls make is longer than what came in: it says more and counts as full. Else prove '..UptoSaid'. A law counts once. -/
mutual
def uptoBulk {H : Type} : DataW H → Nat
  | .lit (.string bytes) => bytes.length + 1
  | .lit _ => 1
  | .nil => 1
  | .ptr d => uptoBulk d + 1
  | .slice elems spare => uptoBulkAll elems + uptoBulkAll spare + 1
  | .agg parts => uptoBulkAll parts + 1
  | .iface _ d => uptoBulk d + 1
  | .map entries => uptoBulkEntries entries + 1
  | .held _ => 1
def uptoBulkAll {H : Type} : List (DataW H) → Nat
  | [] => 0
  | d :: r => uptoBulk d + uptoBulkAll r
def uptoBulkEntries {H : Type} : List (Lit × DataW H) → Nat
  | [] => 0
  | x :: r => uptoBulkEntry x + uptoBulkEntries r
def uptoBulkEntry {H : Type} : Lit × DataW H → Nat
  | (.string bytes, d) => bytes.length + uptoBulk d + 1
  | (_, d) => uptoBulk d + 1
 end
def uptoSmall : (H : Type) → List (DataW H) → Bool := fun _ ds => decide (uptoBulkAll ds ≤ 1048576)
def OpenSpec.upto (s : _root_.Go.ChangeSpec) : _root_.Go.OpenSpec := { _root_.Go.OpenSpec.ofChange s with cond := some uptoSmall }

/-- 'orrerylaw26.AuditCerts', WHERE WHAT IT READS IS OF BULK AT MOST 1048576: true; the input reads as it did. -/
def auditCertsUptoRow : OpenClaim := { program := "ytdcbpgmmopdelaagreat", sum := "b51499842efeebd13427b56299290fbd4289388160c93bd4c55d3e594396d6a5", func := "orrery/orrerylaw26.AuditCerts", spec := "auditCerts", unfollowed := true, recurses := true, plainKeys := false, apart := false, narrowed := true }
def AuditCertsUptoSaid : Prop := auditCertsUptoRow.holds Tryz.pinned (OpenSpec.upto auditCertsSpec)

/-- 'orrerylaw26.AuditRight', WHERE WHAT IT READS IS OF BULK AT MOST 1048576: true; the input reads as it did. -/
def auditRightUptoRow : OpenClaim := { program := "ytdcbpgmmopdelaagreat", sum := "b51499842efeebd13427b56299290fbd4289388160c93bd4c55d3e594396d6a5", func := "orrery/orrerylaw26.AuditRight", spec := "auditRight", unfollowed := true, recurses := true, plainKeys := false, apart := false, narrowed := true }
def AuditRightUptoSaid : Prop := auditRightUptoRow.holds Tryz.pinned (OpenSpec.upto auditRightSpec)

/-- 'orrerylaw26.AuditWrong', WHERE WHAT IT READS IS OF BULK AT MOST 1048576: true; the input reads as it did. -/
def auditWrongUptoRow : OpenClaim := { program := "ytdcbpgmmopdelaagreat", sum := "b51499842efeebd13427b56299290fbd4289388160c93bd4c55d3e594396d6a5", func := "orrery/orrerylaw26.AuditWrong", spec := "auditWrong", unfollowed := true, recurses := true, plainKeys := false, apart := false, narrowed := true }
def AuditWrongUptoSaid : Prop := auditWrongUptoRow.holds Tryz.pinned (OpenSpec.upto auditWrongSpec)

/-- 'orrerylaw26.AuditAny', WHERE WHAT IT READS IS OF BULK AT MOST 1048576: true; the input reads as it did. -/
def auditAnyUptoRow : OpenClaim := { program := "ytdcbpgmmopdelaagreat", sum := "b51499842efeebd13427b56299290fbd4289388160c93bd4c55d3e594396d6a5", func := "orrery/orrerylaw26.AuditAny", spec := "auditAny", unfollowed := true, recurses := true, plainKeys := false, apart := false, narrowed := true }
def AuditAnyUptoSaid : Prop := auditAnyUptoRow.holds Tryz.pinned (OpenSpec.upto auditAnySpec)

/-- 'orrerylaw21.PairPlays', WHERE WHAT IT READS IS OF BULK AT MOST 1048576: true; the input reads as it did. -/
def pairPlaysUptoRow : OpenClaim := { program := "ytdcbpgmmopdelaagreat", sum := "b51499842efeebd13427b56299290fbd4289388160c93bd4c55d3e594396d6a5", func := "orrery/orrerylaw21.PairPlays", spec := "pairPlays", unfollowed := true, recurses := true, plainKeys := false, apart := false, narrowed := true }
def PairPlaysUptoSaid : Prop := pairPlaysUptoRow.holds Tryz.pinned (OpenSpec.upto pairPlaysSpec)

/-- 'orrerylaw19.TourneyPlays', WHERE WHAT IT READS IS OF BULK AT MOST 1048576: true; the input reads as it did. -/
def tourneyPlaysUptoRow : OpenClaim := { program := "ytdcbpgmmopdelaagreat", sum := "b51499842efeebd13427b56299290fbd4289388160c93bd4c55d3e594396d6a5", func := "orrery/orrerylaw19.TourneyPlays", spec := "tourneyPlays", unfollowed := true, recurses := true, plainKeys := false, apart := false, narrowed := true }
def TourneyPlaysUptoSaid : Prop := tourneyPlaysUptoRow.holds Tryz.pinned (OpenSpec.upto tourneyPlaysSpec)

/-- 'orrerylaw18.SortedPlays', WHERE WHAT IT READS IS OF BULK AT MOST 1048576: true; the input reads as it did. -/
def sortedPlaysUptoRow : OpenClaim := { program := "ytdcbpgmmopdelaagreat", sum := "b51499842efeebd13427b56299290fbd4289388160c93bd4c55d3e594396d6a5", func := "orrery/orrerylaw18.SortedPlays", spec := "sortedPlays", unfollowed := true, recurses := true, plainKeys := false, apart := false, narrowed := true }
def SortedPlaysUptoSaid : Prop := sortedPlaysUptoRow.holds Tryz.pinned (OpenSpec.upto sortedPlaysSpec)

/-- 'orrerylaw22.DelaunayPlays', WHERE WHAT IT READS IS OF BULK AT MOST 1048576: true; the input reads as it did. -/
def delaunayPlaysUptoRow : OpenClaim := { program := "ytdcbpgmmopdelaagreat", sum := "b51499842efeebd13427b56299290fbd4289388160c93bd4c55d3e594396d6a5", func := "orrery/orrerylaw22.DelaunayPlays", spec := "delaunayPlays", unfollowed := true, recurses := true, plainKeys := false, apart := false, narrowed := true }
def DelaunayPlaysUptoSaid : Prop := delaunayPlaysUptoRow.holds Tryz.pinned (OpenSpec.upto delaunayPlaysSpec)

/-- 'orrerylaw20.HullPlays', WHERE WHAT IT READS IS OF BULK AT MOST 1048576: true; the input reads as it did. -/
def hullPlaysUptoRow : OpenClaim := { program := "ytdcbpgmmopdelaagreat", sum := "b51499842efeebd13427b56299290fbd4289388160c93bd4c55d3e594396d6a5", func := "orrery/orrerylaw20.HullPlays", spec := "hullPlays", unfollowed := true, recurses := true, plainKeys := false, apart := false, narrowed := true }
def HullPlaysUptoSaid : Prop := hullPlaysUptoRow.holds Tryz.pinned (OpenSpec.upto hullPlaysSpec)

end Rows
end Go.Proofs.YtdcbpgmmopdelaaGreat
