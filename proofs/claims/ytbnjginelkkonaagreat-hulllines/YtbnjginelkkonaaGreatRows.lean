/-
  No cell of these rows narrows 'for every input' (looked for: loops, veiled, ifaces, maps, wideKeys, modest, calm, conditions, laid).
  DERIVED. THE GIVEN ROWS OF THIS SEAT. 12 by the template 'for every input the law returns true; each argument reads behind the call as it read before'; 0 by the template 'total and deterministic' (their statements: YtbnjginelkkonaaGreatTotals.lean).
  GIVEN WITH THE SEED: the statements are not yours to turn. If you find one false, say at which input.
  Laid BY PROGRAM, IN A SANDBOX (cutbox-rows.mjs): the forced cells as the released guide's own fill.sh prints them over the translation e1b3dbc635eeb35e… (all of the seat's roots in one cut). By AI agents, Wed Nov 11 2026. No macro, syntax, notation, axiom, sorry.
-/
import Derived.Test.YtbnjginelkkonaaGreatChecked
import GoSem.Claim
import GoSem.ClaimJoined
import GoSem.ClaimMapViews
import Derived.JoinedTies
import Derived.KernelRfl
namespace Go.Proofs.YtbnjginelkkonaaGreat
/- THE CELL 'sum', in the pinned program and in every row, IS THE sha256 OF THE DUMP (.gsa) THAT YtbnjginelkkonaaGreatProg.lean LOADS. Nothing in Lean hashes anything: it is a label: what it is worth is what the hold of that sum in a sandbox is worth. -/
noncomputable def Tryz.pinned : Pinned := { name := "ytbnjginelkkonaagreat", sum := "e1b3dbc635eeb35ea141727aab630026d9c3b2a35e49c0f26283328a19125a1f", checked := Tryz.checked }
namespace Rows
def none {H : Type} : Left H := { results := [], args := [] }

/-- 'orrerylaw21.PairOnLine': WHATEVER THE INPUT: true; the input reads as it did. -/
def pairOnLineSpec : ChangeSpec := { name := "pairOnLine", fn := fun _ => fun
  | [d1, d2] => { results := [.lit (.bool true)], args := [d1, d2] }
  | _ => none }
def pairOnLineRow : OpenClaim := { program := "ytbnjginelkkonaagreat", sum := "e1b3dbc635eeb35ea141727aab630026d9c3b2a35e49c0f26283328a19125a1f", func := "orrery/orrerylaw21.PairOnLine", spec := "pairOnLine", unfollowed := true, recurses := true, apart := false }
def PairOnLineSaid : Prop := pairOnLineRow.holds Tryz.pinned (OpenSpec.ofChange pairOnLineSpec)

/-- ITS FALSE NEIGHBOUR: 'it returns false'. Refute it at one input. -/
def pairOnLineWrong : ChangeSpec := { name := "pairOnLine", fn := fun _ => fun
  | [d1, d2] => { results := [.lit (.bool false)], args := [d1, d2] }
  | _ => none }
def PairOnLineWrongFalsely : Prop := pairOnLineRow.holds Tryz.pinned (OpenSpec.ofChange pairOnLineWrong)

/-- 'orrerylaw19.TourneyRises': WHATEVER THE INPUT: true; the input reads as it did. -/
def tourneyRisesSpec : ChangeSpec := { name := "tourneyRises", fn := fun _ => fun
  | [d1, d2] => { results := [.lit (.bool true)], args := [d1, d2] }
  | _ => none }
def tourneyRisesRow : OpenClaim := { program := "ytbnjginelkkonaagreat", sum := "e1b3dbc635eeb35ea141727aab630026d9c3b2a35e49c0f26283328a19125a1f", func := "orrery/orrerylaw19.TourneyRises", spec := "tourneyRises", unfollowed := true, recurses := true, apart := false }
def TourneyRisesSaid : Prop := tourneyRisesRow.holds Tryz.pinned (OpenSpec.ofChange tourneyRisesSpec)

/-- ITS FALSE NEIGHBOUR: 'it returns false'. Refute it at one input. -/
def tourneyRisesWrong : ChangeSpec := { name := "tourneyRises", fn := fun _ => fun
  | [d1, d2] => { results := [.lit (.bool false)], args := [d1, d2] }
  | _ => none }
def TourneyRisesWrongFalsely : Prop := tourneyRisesRow.holds Tryz.pinned (OpenSpec.ofChange tourneyRisesWrong)

/-- 'orrerylaw21.PairSplits': WHATEVER THE INPUT: true; the input reads as it did. -/
def pairSplitsSpec : ChangeSpec := { name := "pairSplits", fn := fun _ => fun
  | [d1, d2] => { results := [.lit (.bool true)], args := [d1, d2] }
  | _ => none }
def pairSplitsRow : OpenClaim := { program := "ytbnjginelkkonaagreat", sum := "e1b3dbc635eeb35ea141727aab630026d9c3b2a35e49c0f26283328a19125a1f", func := "orrery/orrerylaw21.PairSplits", spec := "pairSplits", unfollowed := true, recurses := true, apart := false }
def PairSplitsSaid : Prop := pairSplitsRow.holds Tryz.pinned (OpenSpec.ofChange pairSplitsSpec)

/-- ITS FALSE NEIGHBOUR: 'it returns false'. Refute it at one input. -/
def pairSplitsWrong : ChangeSpec := { name := "pairSplits", fn := fun _ => fun
  | [d1, d2] => { results := [.lit (.bool false)], args := [d1, d2] }
  | _ => none }
def PairSplitsWrongFalsely : Prop := pairSplitsRow.holds Tryz.pinned (OpenSpec.ofChange pairSplitsWrong)

/-- 'orrerylaw19.TourneySplits': WHATEVER THE INPUT: true; the input reads as it did. -/
def tourneySplitsSpec : ChangeSpec := { name := "tourneySplits", fn := fun _ => fun
  | [d1, d2] => { results := [.lit (.bool true)], args := [d1, d2] }
  | _ => none }
def tourneySplitsRow : OpenClaim := { program := "ytbnjginelkkonaagreat", sum := "e1b3dbc635eeb35ea141727aab630026d9c3b2a35e49c0f26283328a19125a1f", func := "orrery/orrerylaw19.TourneySplits", spec := "tourneySplits", unfollowed := true, recurses := true, apart := false }
def TourneySplitsSaid : Prop := tourneySplitsRow.holds Tryz.pinned (OpenSpec.ofChange tourneySplitsSpec)

/-- ITS FALSE NEIGHBOUR: 'it returns false'. Refute it at one input. -/
def tourneySplitsWrong : ChangeSpec := { name := "tourneySplits", fn := fun _ => fun
  | [d1, d2] => { results := [.lit (.bool false)], args := [d1, d2] }
  | _ => none }
def TourneySplitsWrongFalsely : Prop := tourneySplitsRow.holds Tryz.pinned (OpenSpec.ofChange tourneySplitsWrong)

/-- 'orrerylaw18.SortedMeets': WHATEVER THE INPUT: true; the input reads as it did. -/
def sortedMeetsSpec : ChangeSpec := { name := "sortedMeets", fn := fun _ => fun
  | [d1, d2] => { results := [.lit (.bool true)], args := [d1, d2] }
  | _ => none }
def sortedMeetsRow : OpenClaim := { program := "ytbnjginelkkonaagreat", sum := "e1b3dbc635eeb35ea141727aab630026d9c3b2a35e49c0f26283328a19125a1f", func := "orrery/orrerylaw18.SortedMeets", spec := "sortedMeets", unfollowed := true, recurses := true, apart := false }
def SortedMeetsSaid : Prop := sortedMeetsRow.holds Tryz.pinned (OpenSpec.ofChange sortedMeetsSpec)

/-- ITS FALSE NEIGHBOUR: 'it returns false'. Refute it at one input. -/
def sortedMeetsWrong : ChangeSpec := { name := "sortedMeets", fn := fun _ => fun
  | [d1, d2] => { results := [.lit (.bool false)], args := [d1, d2] }
  | _ => none }
def SortedMeetsWrongFalsely : Prop := sortedMeetsRow.holds Tryz.pinned (OpenSpec.ofChange sortedMeetsWrong)

/-- 'orrerylaw21.PairTurns': WHATEVER THE INPUT: true; the input reads as it did. -/
def pairTurnsSpec : ChangeSpec := { name := "pairTurns", fn := fun _ => fun
  | [d1, d2, d3, d4] => { results := [.lit (.bool true)], args := [d1, d2, d3, d4] }
  | _ => none }
def pairTurnsRow : OpenClaim := { program := "ytbnjginelkkonaagreat", sum := "e1b3dbc635eeb35ea141727aab630026d9c3b2a35e49c0f26283328a19125a1f", func := "orrery/orrerylaw21.PairTurns", spec := "pairTurns", unfollowed := true, recurses := true, apart := false }
def PairTurnsSaid : Prop := pairTurnsRow.holds Tryz.pinned (OpenSpec.ofChange pairTurnsSpec)

/-- ITS FALSE NEIGHBOUR: 'it returns false'. Refute it at one input. -/
def pairTurnsWrong : ChangeSpec := { name := "pairTurns", fn := fun _ => fun
  | [d1, d2, d3, d4] => { results := [.lit (.bool false)], args := [d1, d2, d3, d4] }
  | _ => none }
def PairTurnsWrongFalsely : Prop := pairTurnsRow.holds Tryz.pinned (OpenSpec.ofChange pairTurnsWrong)

/-- 'orrerylaw18.SortedSplits': WHATEVER THE INPUT: true; the input reads as it did. -/
def sortedSplitsSpec : ChangeSpec := { name := "sortedSplits", fn := fun _ => fun
  | [d1, d2] => { results := [.lit (.bool true)], args := [d1, d2] }
  | _ => none }
def sortedSplitsRow : OpenClaim := { program := "ytbnjginelkkonaagreat", sum := "e1b3dbc635eeb35ea141727aab630026d9c3b2a35e49c0f26283328a19125a1f", func := "orrery/orrerylaw18.SortedSplits", spec := "sortedSplits", unfollowed := true, recurses := true, apart := false }
def SortedSplitsSaid : Prop := sortedSplitsRow.holds Tryz.pinned (OpenSpec.ofChange sortedSplitsSpec)

/-- ITS FALSE NEIGHBOUR: 'it returns false'. Refute it at one input. -/
def sortedSplitsWrong : ChangeSpec := { name := "sortedSplits", fn := fun _ => fun
  | [d1, d2] => { results := [.lit (.bool false)], args := [d1, d2] }
  | _ => none }
def SortedSplitsWrongFalsely : Prop := sortedSplitsRow.holds Tryz.pinned (OpenSpec.ofChange sortedSplitsWrong)

/-- 'orrerylaw18.SortedRanks': WHATEVER THE INPUT: true; the input reads as it did. -/
def sortedRanksSpec : ChangeSpec := { name := "sortedRanks", fn := fun _ => fun
  | [d1, d2, d3] => { results := [.lit (.bool true)], args := [d1, d2, d3] }
  | _ => none }
def sortedRanksRow : OpenClaim := { program := "ytbnjginelkkonaagreat", sum := "e1b3dbc635eeb35ea141727aab630026d9c3b2a35e49c0f26283328a19125a1f", func := "orrery/orrerylaw18.SortedRanks", spec := "sortedRanks", unfollowed := true, recurses := true, apart := false }
def SortedRanksSaid : Prop := sortedRanksRow.holds Tryz.pinned (OpenSpec.ofChange sortedRanksSpec)

/-- ITS FALSE NEIGHBOUR: 'it returns false'. Refute it at one input. -/
def sortedRanksWrong : ChangeSpec := { name := "sortedRanks", fn := fun _ => fun
  | [d1, d2, d3] => { results := [.lit (.bool false)], args := [d1, d2, d3] }
  | _ => none }
def SortedRanksWrongFalsely : Prop := sortedRanksRow.holds Tryz.pinned (OpenSpec.ofChange sortedRanksWrong)

/-- 'orrerylaw18.SortedNews': WHATEVER THE INPUT: true; the input reads as it did. -/
def sortedNewsSpec : ChangeSpec := { name := "sortedNews", fn := fun _ => fun
  | [d1, d2] => { results := [.lit (.bool true)], args := [d1, d2] }
  | _ => none }
def sortedNewsRow : OpenClaim := { program := "ytbnjginelkkonaagreat", sum := "e1b3dbc635eeb35ea141727aab630026d9c3b2a35e49c0f26283328a19125a1f", func := "orrery/orrerylaw18.SortedNews", spec := "sortedNews", unfollowed := true, recurses := true, apart := false }
def SortedNewsSaid : Prop := sortedNewsRow.holds Tryz.pinned (OpenSpec.ofChange sortedNewsSpec)

/-- ITS FALSE NEIGHBOUR: 'it returns false'. Refute it at one input. -/
def sortedNewsWrong : ChangeSpec := { name := "sortedNews", fn := fun _ => fun
  | [d1, d2] => { results := [.lit (.bool false)], args := [d1, d2] }
  | _ => none }
def SortedNewsWrongFalsely : Prop := sortedNewsRow.holds Tryz.pinned (OpenSpec.ofChange sortedNewsWrong)

/-- 'orrerylaw19.TourneyTurns': WHATEVER THE INPUT: true; the input reads as it did. -/
def tourneyTurnsSpec : ChangeSpec := { name := "tourneyTurns", fn := fun _ => fun
  | [d1, d2, d3, d4] => { results := [.lit (.bool true)], args := [d1, d2, d3, d4] }
  | _ => none }
def tourneyTurnsRow : OpenClaim := { program := "ytbnjginelkkonaagreat", sum := "e1b3dbc635eeb35ea141727aab630026d9c3b2a35e49c0f26283328a19125a1f", func := "orrery/orrerylaw19.TourneyTurns", spec := "tourneyTurns", unfollowed := true, recurses := true, apart := false }
def TourneyTurnsSaid : Prop := tourneyTurnsRow.holds Tryz.pinned (OpenSpec.ofChange tourneyTurnsSpec)

/-- ITS FALSE NEIGHBOUR: 'it returns false'. Refute it at one input. -/
def tourneyTurnsWrong : ChangeSpec := { name := "tourneyTurns", fn := fun _ => fun
  | [d1, d2, d3, d4] => { results := [.lit (.bool false)], args := [d1, d2, d3, d4] }
  | _ => none }
def TourneyTurnsWrongFalsely : Prop := tourneyTurnsRow.holds Tryz.pinned (OpenSpec.ofChange tourneyTurnsWrong)

/-- 'orrerylaw20.HullLines': WHATEVER THE INPUT: true; the input reads as it did. -/
def hullLinesSpec : ChangeSpec := { name := "hullLines", fn := fun _ => fun
  | [d1, d2, d3] => { results := [.lit (.bool true)], args := [d1, d2, d3] }
  | _ => none }
def hullLinesRow : OpenClaim := { program := "ytbnjginelkkonaagreat", sum := "e1b3dbc635eeb35ea141727aab630026d9c3b2a35e49c0f26283328a19125a1f", func := "orrery/orrerylaw20.HullLines", spec := "hullLines", unfollowed := true, recurses := true, apart := false }
def HullLinesSaid : Prop := hullLinesRow.holds Tryz.pinned (OpenSpec.ofChange hullLinesSpec)

/-- ITS FALSE NEIGHBOUR: 'it returns false'. Refute it at one input. -/
def hullLinesWrong : ChangeSpec := { name := "hullLines", fn := fun _ => fun
  | [d1, d2, d3] => { results := [.lit (.bool false)], args := [d1, d2, d3] }
  | _ => none }
def HullLinesWrongFalsely : Prop := hullLinesRow.holds Tryz.pinned (OpenSpec.ofChange hullLinesWrong)

/-- 'orrerylaw18.SortedTurns': WHATEVER THE INPUT: true; the input reads as it did. -/
def sortedTurnsSpec : ChangeSpec := { name := "sortedTurns", fn := fun _ => fun
  | [d1, d2, d3, d4] => { results := [.lit (.bool true)], args := [d1, d2, d3, d4] }
  | _ => none }
def sortedTurnsRow : OpenClaim := { program := "ytbnjginelkkonaagreat", sum := "e1b3dbc635eeb35ea141727aab630026d9c3b2a35e49c0f26283328a19125a1f", func := "orrery/orrerylaw18.SortedTurns", spec := "sortedTurns", unfollowed := true, recurses := true, apart := false }
def SortedTurnsSaid : Prop := sortedTurnsRow.holds Tryz.pinned (OpenSpec.ofChange sortedTurnsSpec)

/-- ITS FALSE NEIGHBOUR: 'it returns false'. Refute it at one input. -/
def sortedTurnsWrong : ChangeSpec := { name := "sortedTurns", fn := fun _ => fun
  | [d1, d2, d3, d4] => { results := [.lit (.bool false)], args := [d1, d2, d3, d4] }
  | _ => none }
def SortedTurnsWrongFalsely : Prop := sortedTurnsRow.holds Tryz.pinned (OpenSpec.ofChange sortedTurnsWrong)

/- THE SECOND FORM. 'bulk': how many values and letters a reading holds, each counted each time it is reached (what is shared counts as often as it is met; a slice's spare places count too). A statement '..UptoSaid' is the law's where the arguments, and the package variables that the reading takes, are together of bulk at most 1048576: NARROWER than '..Said'. Prove '..Said' where nothing that the law and all that it calls make is longer than what came in: it says more and counts as full. Else prove '..UptoSaid'. A law counts once. -/
mutual
def uptoBulk {H : Type} : DataW H → Nat
  | .lit (.string bytes) => bytes.length + 1
  | .lit _ => 1
  | .nil => 1
  | .ptr d => uptoBulk d + 1
  | .slice elems spare => uptoBulkAll elems + uptoBulkAll spare + 1
  | .agg parts => uptoBulkAll parts + 1
  | .iface _ d => uptoBulk d + 1
  | .map entries => uptoBulkEntries entries + 1
  | .held _ => 1
def uptoBulkAll {H : Type} : List (DataW H) → Nat
  | [] => 0
  | d :: r => uptoBulk d + uptoBulkAll r
def uptoBulkEntries {H : Type} : List (Lit × DataW H) → Nat
  | [] => 0
  | x :: r => uptoBulkEntry x + uptoBulkEntries r
def uptoBulkEntry {H : Type} : Lit × DataW H → Nat
  | (.string bytes, d) => bytes.length + uptoBulk d + 1
  | (_, d) => uptoBulk d + 1
 end
def uptoSmall : (H : Type) → List (DataW H) → Bool := fun _ ds => decide (uptoBulkAll ds ≤ 1048576)
def OpenSpec.upto (s : _root_.Go.ChangeSpec) : _root_.Go.OpenSpec := { _root_.Go.OpenSpec.ofChange s with cond := some uptoSmall }

/-- 'orrerylaw21.PairOnLine', WHERE WHAT IT READS IS OF BULK AT MOST 1048576: true; the input reads as it did. -/
def pairOnLineUptoRow : OpenClaim := { program := "ytbnjginelkkonaagreat", sum := "e1b3dbc635eeb35ea141727aab630026d9c3b2a35e49c0f26283328a19125a1f", func := "orrery/orrerylaw21.PairOnLine", spec := "pairOnLine", unfollowed := true, recurses := true, apart := false, narrowed := true }
def PairOnLineUptoSaid : Prop := pairOnLineUptoRow.holds Tryz.pinned (OpenSpec.upto pairOnLineSpec)

/-- 'orrerylaw19.TourneyRises', WHERE WHAT IT READS IS OF BULK AT MOST 1048576: true; the input reads as it did. -/
def tourneyRisesUptoRow : OpenClaim := { program := "ytbnjginelkkonaagreat", sum := "e1b3dbc635eeb35ea141727aab630026d9c3b2a35e49c0f26283328a19125a1f", func := "orrery/orrerylaw19.TourneyRises", spec := "tourneyRises", unfollowed := true, recurses := true, apart := false, narrowed := true }
def TourneyRisesUptoSaid : Prop := tourneyRisesUptoRow.holds Tryz.pinned (OpenSpec.upto tourneyRisesSpec)

/-- 'orrerylaw21.PairSplits', WHERE WHAT IT READS IS OF BULK AT MOST 1048576: true; the input reads as it did. -/
def pairSplitsUptoRow : OpenClaim := { program := "ytbnjginelkkonaagreat", sum := "e1b3dbc635eeb35ea141727aab630026d9c3b2a35e49c0f26283328a19125a1f", func := "orrery/orrerylaw21.PairSplits", spec := "pairSplits", unfollowed := true, recurses := true, apart := false, narrowed := true }
def PairSplitsUptoSaid : Prop := pairSplitsUptoRow.holds Tryz.pinned (OpenSpec.upto pairSplitsSpec)

/-- 'orrerylaw19.TourneySplits', WHERE WHAT IT READS IS OF BULK AT MOST 1048576: true; the input reads as it did. -/
def tourneySplitsUptoRow : OpenClaim := { program := "ytbnjginelkkonaagreat", sum := "e1b3dbc635eeb35ea141727aab630026d9c3b2a35e49c0f26283328a19125a1f", func := "orrery/orrerylaw19.TourneySplits", spec := "tourneySplits", unfollowed := true, recurses := true, apart := false, narrowed := true }
def TourneySplitsUptoSaid : Prop := tourneySplitsUptoRow.holds Tryz.pinned (OpenSpec.upto tourneySplitsSpec)

/-- 'orrerylaw18.SortedMeets', WHERE WHAT IT READS IS OF BULK AT MOST 1048576: true; the input reads as it did. -/
def sortedMeetsUptoRow : OpenClaim := { program := "ytbnjginelkkonaagreat", sum := "e1b3dbc635eeb35ea141727aab630026d9c3b2a35e49c0f26283328a19125a1f", func := "orrery/orrerylaw18.SortedMeets", spec := "sortedMeets", unfollowed := true, recurses := true, apart := false, narrowed := true }
def SortedMeetsUptoSaid : Prop := sortedMeetsUptoRow.holds Tryz.pinned (OpenSpec.upto sortedMeetsSpec)

/-- 'orrerylaw21.PairTurns', WHERE WHAT IT READS IS OF BULK AT MOST 1048576: true; the input reads as it did. -/
def pairTurnsUptoRow : OpenClaim := { program := "ytbnjginelkkonaagreat", sum := "e1b3dbc635eeb35ea141727aab630026d9c3b2a35e49c0f26283328a19125a1f", func := "orrery/orrerylaw21.PairTurns", spec := "pairTurns", unfollowed := true, recurses := true, apart := false, narrowed := true }
def PairTurnsUptoSaid : Prop := pairTurnsUptoRow.holds Tryz.pinned (OpenSpec.upto pairTurnsSpec)

/-- 'orrerylaw18.SortedSplits', WHERE WHAT IT READS IS OF BULK AT MOST 1048576: true; the input reads as it did. -/
def sortedSplitsUptoRow : OpenClaim := { program := "ytbnjginelkkonaagreat", sum := "e1b3dbc635eeb35ea141727aab630026d9c3b2a35e49c0f26283328a19125a1f", func := "orrery/orrerylaw18.SortedSplits", spec := "sortedSplits", unfollowed := true, recurses := true, apart := false, narrowed := true }
def SortedSplitsUptoSaid : Prop := sortedSplitsUptoRow.holds Tryz.pinned (OpenSpec.upto sortedSplitsSpec)

/-- 'orrerylaw18.SortedRanks', WHERE WHAT IT READS IS OF BULK AT MOST 1048576: true; the input reads as it did. -/
def sortedRanksUptoRow : OpenClaim := { program := "ytbnjginelkkonaagreat", sum := "e1b3dbc635eeb35ea141727aab630026d9c3b2a35e49c0f26283328a19125a1f", func := "orrery/orrerylaw18.SortedRanks", spec := "sortedRanks", unfollowed := true, recurses := true, apart := false, narrowed := true }
def SortedRanksUptoSaid : Prop := sortedRanksUptoRow.holds Tryz.pinned (OpenSpec.upto sortedRanksSpec)

/-- 'orrerylaw18.SortedNews', WHERE WHAT IT READS IS OF BULK AT MOST 1048576: true; the input reads as it did. -/
def sortedNewsUptoRow : OpenClaim := { program := "ytbnjginelkkonaagreat", sum := "e1b3dbc635eeb35ea141727aab630026d9c3b2a35e49c0f26283328a19125a1f", func := "orrery/orrerylaw18.SortedNews", spec := "sortedNews", unfollowed := true, recurses := true, apart := false, narrowed := true }
def SortedNewsUptoSaid : Prop := sortedNewsUptoRow.holds Tryz.pinned (OpenSpec.upto sortedNewsSpec)

/-- 'orrerylaw19.TourneyTurns', WHERE WHAT IT READS IS OF BULK AT MOST 1048576: true; the input reads as it did. -/
def tourneyTurnsUptoRow : OpenClaim := { program := "ytbnjginelkkonaagreat", sum := "e1b3dbc635eeb35ea141727aab630026d9c3b2a35e49c0f26283328a19125a1f", func := "orrery/orrerylaw19.TourneyTurns", spec := "tourneyTurns", unfollowed := true, recurses := true, apart := false, narrowed := true }
def TourneyTurnsUptoSaid : Prop := tourneyTurnsUptoRow.holds Tryz.pinned (OpenSpec.upto tourneyTurnsSpec)

/-- 'orrerylaw20.HullLines', WHERE WHAT IT READS IS OF BULK AT MOST 1048576: true; the input reads as it did. -/
def hullLinesUptoRow : OpenClaim := { program := "ytbnjginelkkonaagreat", sum := "e1b3dbc635eeb35ea141727aab630026d9c3b2a35e49c0f26283328a19125a1f", func := "orrery/orrerylaw20.HullLines", spec := "hullLines", unfollowed := true, recurses := true, apart := false, narrowed := true }
def HullLinesUptoSaid : Prop := hullLinesUptoRow.holds Tryz.pinned (OpenSpec.upto hullLinesSpec)

/-- 'orrerylaw18.SortedTurns', WHERE WHAT IT READS IS OF BULK AT MOST 1048576: true; the input reads as it did. -/
def sortedTurnsUptoRow : OpenClaim := { program := "ytbnjginelkkonaagreat", sum := "e1b3dbc635eeb35ea141727aab630026d9c3b2a35e49c0f26283328a19125a1f", func := "orrery/orrerylaw18.SortedTurns", spec := "sortedTurns", unfollowed := true, recurses := true, apart := false, narrowed := true }
def SortedTurnsUptoSaid : Prop := sortedTurnsUptoRow.holds Tryz.pinned (OpenSpec.upto sortedTurnsSpec)

end Rows
end Go.Proofs.YtbnjginelkkonaaGreat
