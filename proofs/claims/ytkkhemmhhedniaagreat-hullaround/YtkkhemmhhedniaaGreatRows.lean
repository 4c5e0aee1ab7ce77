/-
  No cell of these rows narrows 'for every input' (looked for: loops, veiled, ifaces, maps, wideKeys, modest, calm, conditions, laid).
  DERIVED. THE GIVEN ROWS OF THIS SEAT. 6 by the template 'for every input the law returns true; each argument reads behind the call as it read before'; 0 by the template 'total and deterministic' (their statements: YtkkhemmhhedniaaGreatTotals.lean).
  GIVEN WITH THE SEED: the statements are not yours to turn. If you find one false, say at which input.
  Laid BY PROGRAM, IN A SANDBOX (cutbox-rows.mjs): the forced cells as the released guide's own fill.sh prints them over the translation 7a9fd491aa72df0e… (all of the seat's roots in one cut). By AI agents, Wed Nov 11 2026. No macro, syntax, notation, axiom, sorry.
-/
import Derived.Test.YtkkhemmhhedniaaGreatChecked
import GoSem.Claim
import GoSem.ClaimJoined
import GoSem.ClaimMapViews
import Derived.JoinedTies
import Derived.KernelRfl
namespace Go.Proofs.YtkkhemmhhedniaaGreat
/- THE CELL 'sum', in the pinned program and in every row, IS THE sha256 OF THE DUMP (.gsa) THAT YtkkhemmhhedniaaGreatProg.lean LOADS. Nothing in Lean hashes anything: it is a label: what it is worth is what the hold of that sum in a sandbox is worth. -/
noncomputable def Tryz.pinned : Pinned := { name := "ytkkhemmhhedniaagreat", sum := "7a9fd491aa72df0ef2197bd5fcacf619832e463e98d06c96256970deec4c706d", checked := Tryz.checked }
namespace Rows
def none {H : Type} : Left H := { results := [], args := [] }

/-- 'orrerylaw20.HullAround': WHATEVER THE INPUT: true; the input reads as it did. -/
def hullAroundSpec : ChangeSpec := { name := "hullAround", fn := fun _ => fun
  | [d1, d2, d3] => { results := [.lit (.bool true)], args := [d1, d2, d3] }
  | _ => none }
def hullAroundRow : OpenClaim := { program := "ytkkhemmhhedniaagreat", sum := "7a9fd491aa72df0ef2197bd5fcacf619832e463e98d06c96256970deec4c706d", func := "orrery/orrerylaw20.HullAround", spec := "hullAround", unfollowed := true, recurses := true, apart := false }
def HullAroundSaid : Prop := hullAroundRow.holds Tryz.pinned (OpenSpec.ofChange hullAroundSpec)

/-- ITS FALSE NEIGHBOUR: 'it returns false'. Refute it at one input. -/
def hullAroundWrong : ChangeSpec := { name := "hullAround", fn := fun _ => fun
  | [d1, d2, d3] => { results := [.lit (.bool false)], args := [d1, d2, d3] }
  | _ => none }
def HullAroundWrongFalsely : Prop := hullAroundRow.holds Tryz.pinned (OpenSpec.ofChange hullAroundWrong)

/-- 'orrerylaw21.PairHolds': WHATEVER THE INPUT: true; the input reads as it did. -/
def pairHoldsSpec : ChangeSpec := { name := "pairHolds", fn := fun _ => fun
  | [d1, d2, d3] => { results := [.lit (.bool true)], args := [d1, d2, d3] }
  | _ => none }
def pairHoldsRow : OpenClaim := { program := "ytkkhemmhhedniaagreat", sum := "7a9fd491aa72df0ef2197bd5fcacf619832e463e98d06c96256970deec4c706d", func := "orrery/orrerylaw21.PairHolds", spec := "pairHolds", unfollowed := true, recurses := true, apart := false }
def PairHoldsSaid : Prop := pairHoldsRow.holds Tryz.pinned (OpenSpec.ofChange pairHoldsSpec)

/-- ITS FALSE NEIGHBOUR: 'it returns false'. Refute it at one input. -/
def pairHoldsWrong : ChangeSpec := { name := "pairHolds", fn := fun _ => fun
  | [d1, d2, d3] => { results := [.lit (.bool false)], args := [d1, d2, d3] }
  | _ => none }
def PairHoldsWrongFalsely : Prop := pairHoldsRow.holds Tryz.pinned (OpenSpec.ofChange pairHoldsWrong)

/-- 'orrerylaw19.TourneyHolds': WHATEVER THE INPUT: true; the input reads as it did. -/
def tourneyHoldsSpec : ChangeSpec := { name := "tourneyHolds", fn := fun _ => fun
  | [d1, d2, d3] => { results := [.lit (.bool true)], args := [d1, d2, d3] }
  | _ => none }
def tourneyHoldsRow : OpenClaim := { program := "ytkkhemmhhedniaagreat", sum := "7a9fd491aa72df0ef2197bd5fcacf619832e463e98d06c96256970deec4c706d", func := "orrery/orrerylaw19.TourneyHolds", spec := "tourneyHolds", unfollowed := true, recurses := true, apart := false }
def TourneyHoldsSaid : Prop := tourneyHoldsRow.holds Tryz.pinned (OpenSpec.ofChange tourneyHoldsSpec)

/-- ITS FALSE NEIGHBOUR: 'it returns false'. Refute it at one input. -/
def tourneyHoldsWrong : ChangeSpec := { name := "tourneyHolds", fn := fun _ => fun
  | [d1, d2, d3] => { results := [.lit (.bool false)], args := [d1, d2, d3] }
  | _ => none }
def TourneyHoldsWrongFalsely : Prop := tourneyHoldsRow.holds Tryz.pinned (OpenSpec.ofChange tourneyHoldsWrong)

/-- 'orrerylaw18.SortedHolds': WHATEVER THE INPUT: true; the input reads as it did. -/
def sortedHoldsSpec : ChangeSpec := { name := "sortedHolds", fn := fun _ => fun
  | [d1, d2, d3] => { results := [.lit (.bool true)], args := [d1, d2, d3] }
  | _ => none }
def sortedHoldsRow : OpenClaim := { program := "ytkkhemmhhedniaagreat", sum := "7a9fd491aa72df0ef2197bd5fcacf619832e463e98d06c96256970deec4c706d", func := "orrery/orrerylaw18.SortedHolds", spec := "sortedHolds", unfollowed := true, recurses := true, apart := false }
def SortedHoldsSaid : Prop := sortedHoldsRow.holds Tryz.pinned (OpenSpec.ofChange sortedHoldsSpec)

/-- ITS FALSE NEIGHBOUR: 'it returns false'. Refute it at one input. -/
def sortedHoldsWrong : ChangeSpec := { name := "sortedHolds", fn := fun _ => fun
  | [d1, d2, d3] => { results := [.lit (.bool false)], args := [d1, d2, d3] }
  | _ => none }
def SortedHoldsWrongFalsely : Prop := sortedHoldsRow.holds Tryz.pinned (OpenSpec.ofChange sortedHoldsWrong)

/-- 'orrerylaw20.HullHolds': WHATEVER THE INPUT: true; the input reads as it did. -/
def hullHoldsSpec : ChangeSpec := { name := "hullHolds", fn := fun _ => fun
  | [d1, d2, d3] => { results := [.lit (.bool true)], args := [d1, d2, d3] }
  | _ => none }
def hullHoldsRow : OpenClaim := { program := "ytkkhemmhhedniaagreat", sum := "7a9fd491aa72df0ef2197bd5fcacf619832e463e98d06c96256970deec4c706d", func := "orrery/orrerylaw20.HullHolds", spec := "hullHolds", unfollowed := true, recurses := true, apart := false }
def HullHoldsSaid : Prop := hullHoldsRow.holds Tryz.pinned (OpenSpec.ofChange hullHoldsSpec)

/-- ITS FALSE NEIGHBOUR: 'it returns false'. Refute it at one input. -/
def hullHoldsWrong : ChangeSpec := { name := "hullHolds", fn := fun _ => fun
  | [d1, d2, d3] => { results := [.lit (.bool false)], args := [d1, d2, d3] }
  | _ => none }
def HullHoldsWrongFalsely : Prop := hullHoldsRow.holds Tryz.pinned (OpenSpec.ofChange hullHoldsWrong)

/-- 'orrerylaw20.HullTurns': WHATEVER THE INPUT: true; the input reads as it did. -/
def hullTurnsSpec : ChangeSpec := { name := "hullTurns", fn := fun _ => fun
  | [d1, d2, d3, d4] => { results := [.lit (.bool true)], args := [d1, d2, d3, d4] }
  | _ => none }
def hullTurnsRow : OpenClaim := { program := "ytkkhemmhhedniaagreat", sum := "7a9fd491aa72df0ef2197bd5fcacf619832e463e98d06c96256970deec4c706d", func := "orrery/orrerylaw20.HullTurns", spec := "hullTurns", unfollowed := true, recurses := true, apart := false }
def HullTurnsSaid : Prop := hullTurnsRow.holds Tryz.pinned (OpenSpec.ofChange hullTurnsSpec)

/-- ITS FALSE NEIGHBOUR: 'it returns false'. Refute it at one input. -/
def hullTurnsWrong : ChangeSpec := { name := "hullTurns", fn := fun _ => fun
  | [d1, d2, d3, d4] => { results := [.lit (.bool false)], args := [d1, d2, d3, d4] }
  | _ => none }
def HullTurnsWrongFalsely : Prop := hullTurnsRow.holds Tryz.pinned (OpenSpec.ofChange hullTurnsWrong)

/- THE SECOND FORM. 'bulk': how many values and letters a reading holds, each counted each time it is reached (what is shared counts as often as it is met; a slice's spare places count too). A statement '..UptoSaid' is the law's where the arguments, and the package variables that the reading takes, are together of bulk at most 1048576: NARROWER than '..Said'. Prove '..Said' where nothing that the law and all that it calls make is longer than what came in: it says more and counts as full. Else prove '..UptoSaid'. A law counts once. -/
mutual
def uptoBulk {H : Type} : DataW H → Nat
  | .lit (.string bytes) => bytes.length + 1
  | .lit _ => 1
  | .nil => 1
  | .ptr d => uptoBulk d + 1
  | .slice elems spare => uptoBulkAll elems + uptoBulkAll spare + 1
  | .agg parts => uptoBulkAll parts + 1
  | .iface _ d => uptoBulk d + 1
  | .map entries => uptoBulkEntries entries + 1
  | .held _ => 1
def uptoBulkAll {H : Type} : List (DataW H) → Nat
  | [] => 0
  | d :: r => uptoBulk d + uptoBulkAll r
def uptoBulkEntries {H : Type} : List (Lit × DataW H) → Nat
  | [] => 0
  | x :: r => uptoBulkEntry x + uptoBulkEntries r
def uptoBulkEntry {H : Type} : Lit × DataW H → Nat
  | (.string bytes, d) => bytes.length + uptoBulk d + 1
  | (_, d) => uptoBulk d + 1
 end
def uptoSmall : (H : Type) → List (DataW H) → Bool := fun _ ds => decide (uptoBulkAll ds ≤ 1048576)
def OpenSpec.upto (s : _root_.Go.ChangeSpec) : _root_.Go.OpenSpec := { _root_.Go.OpenSpec.ofChange s with cond := some uptoSmall }

/-- 'orrerylaw20.HullAround', WHERE WHAT IT READS IS OF BULK AT MOST 1048576: true; the input reads as it did. -/
def hullAroundUptoRow : OpenClaim := { program := "ytkkhemmhhedniaagreat", sum := "7a9fd491aa72df0ef2197bd5fcacf619832e463e98d06c96256970deec4c706d", func := "orrery/orrerylaw20.HullAround", spec := "hullAround", unfollowed := true, recurses := true, apart := false, narrowed := true }
def HullAroundUptoSaid : Prop := hullAroundUptoRow.holds Tryz.pinned (OpenSpec.upto hullAroundSpec)

/-- 'orrerylaw21.PairHolds', WHERE WHAT IT READS IS OF BULK AT MOST 1048576: true; the input reads as it did. -/
def pairHoldsUptoRow : OpenClaim := { program := "ytkkhemmhhedniaagreat", sum := "7a9fd491aa72df0ef2197bd5fcacf619832e463e98d06c96256970deec4c706d", func := "orrery/orrerylaw21.PairHolds", spec := "pairHolds", unfollowed := true, recurses := true, apart := false, narrowed := true }
def PairHoldsUptoSaid : Prop := pairHoldsUptoRow.holds Tryz.pinned (OpenSpec.upto pairHoldsSpec)

/-- 'orrerylaw19.TourneyHolds', WHERE WHAT IT READS IS OF BULK AT MOST 1048576: true; the input reads as it did. -/
def tourneyHoldsUptoRow : OpenClaim := { program := "ytkkhemmhhedniaagreat", sum := "7a9fd491aa72df0ef2197bd5fcacf619832e463e98d06c96256970deec4c706d", func := "orrery/orrerylaw19.TourneyHolds", spec := "tourneyHolds", unfollowed := true, recurses := true, apart := false, narrowed := true }
def TourneyHoldsUptoSaid : Prop := tourneyHoldsUptoRow.holds Tryz.pinned (OpenSpec.upto tourneyHoldsSpec)

/-- 'orrerylaw18.SortedHolds', WHERE WHAT IT READS IS OF BULK AT MOST 1048576: true; the input reads as it did. -/
def sortedHoldsUptoRow : OpenClaim := { program := "ytkkhemmhhedniaagreat", sum := "7a9fd491aa72df0ef2197bd5fcacf619832e463e98d06c96256970deec4c706d", func := "orrery/orrerylaw18.SortedHolds", spec := "sortedHolds", unfollowed := true, recurses := true, apart := false, narrowed := true }
def SortedHoldsUptoSaid : Prop := sortedHoldsUptoRow.holds Tryz.pinned (OpenSpec.upto sortedHoldsSpec)

/-- 'orrerylaw20.HullHolds', WHERE WHAT IT READS IS OF BULK AT MOST 1048576: true; the input reads as it did. -/
def hullHoldsUptoRow : OpenClaim := { program := "ytkkhemmhhedniaagreat", sum := "7a9fd491aa72df0ef2197bd5fcacf619832e463e98d06c96256970deec4c706d", func := "orrery/orrerylaw20.HullHolds", spec := "hullHolds", unfollowed := true, recurses := true, apart := false, narrowed := true }
def HullHoldsUptoSaid : Prop := hullHoldsUptoRow.holds Tryz.pinned (OpenSpec.upto hullHoldsSpec)

/-- 'orrerylaw20.HullTurns', WHERE WHAT IT READS IS OF BULK AT MOST 1048576: true; the input reads as it did. -/
def hullTurnsUptoRow : OpenClaim := { program := "ytkkhemmhhedniaagreat", sum := "7a9fd491aa72df0ef2197bd5fcacf619832e463e98d06c96256970deec4c706d", func := "orrery/orrerylaw20.HullTurns", spec := "hullTurns", unfollowed := true, recurses := true, apart := false, narrowed := true }
def HullTurnsUptoSaid : Prop := hullTurnsUptoRow.holds Tryz.pinned (OpenSpec.upto hullTurnsSpec)

end Rows
end Go.Proofs.YtkkhemmhhedniaaGreat
