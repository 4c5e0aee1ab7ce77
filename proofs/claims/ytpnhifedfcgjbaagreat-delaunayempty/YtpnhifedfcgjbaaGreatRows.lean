/-
  No cell of these rows narrows 'for every input' (looked for: loops, veiled, ifaces, maps, wideKeys, modest, calm, conditions, laid).
  DERIVED. THE GIVEN ROWS OF THIS SEAT. 4 by the template 'for every input the law returns true; each argument reads behind the call as it read before'; 0 by the template 'total and deterministic' (their statements: YtpnhifedfcgjbaaGreatTotals.lean).
  GIVEN WITH THE SEED: the statements are not yours to turn. If you find one false, say at which input.
  Laid BY PROGRAM, IN A SANDBOX (cutbox-rows.mjs): the forced cells as the released guide's own fill.sh prints them over the translation 23d75a0c921cb7ef… (all of the seat's roots in one cut). By AI agents, Wed Nov 11 2026. No macro, syntax, notation, axiom, sorry.
-/
import Derived.Test.YtpnhifedfcgjbaaGreatChecked
import GoSem.Claim
import GoSem.ClaimJoined
import GoSem.ClaimMapViews
import Derived.JoinedTies
import Derived.KernelRfl
namespace Go.Proofs.YtpnhifedfcgjbaaGreat
/- THE CELL 'sum', in the pinned program and in every row, IS THE sha256 OF THE DUMP (.gsa) THAT YtpnhifedfcgjbaaGreatProg.lean LOADS. Nothing in Lean hashes anything: it is a label: what it is worth is what the hold of that sum in a sandbox is worth. -/
noncomputable def Tryz.pinned : Pinned := { name := "ytpnhifedfcgjbaagreat", sum := "23d75a0c921cb7ef75629478d54587f541ce5d286538ea7a27ff926330f7c14b", checked := Tryz.checked }
namespace Rows
def none {H : Type} : Left H := { results := [], args := [] }

/-- 'orrerylaw22.DelaunayEmpty': WHATEVER THE INPUT: true; the input reads as it did. -/
def delaunayEmptySpec : ChangeSpec := { name := "delaunayEmpty", fn := fun _ => fun
  | [d1, d2, d3] => { results := [.lit (.bool true)], args := [d1, d2, d3] }
  | _ => none }
def delaunayEmptyRow : OpenClaim := { program := "ytpnhifedfcgjbaagreat", sum := "23d75a0c921cb7ef75629478d54587f541ce5d286538ea7a27ff926330f7c14b", func := "orrery/orrerylaw22.DelaunayEmpty", spec := "delaunayEmpty", unfollowed := true, recurses := true, plainKeys := false, apart := false }
def DelaunayEmptySaid : Prop := delaunayEmptyRow.holds Tryz.pinned (OpenSpec.ofChange delaunayEmptySpec)

/-- ITS FALSE NEIGHBOUR: 'it returns false'. Refute it at one input. -/
def delaunayEmptyWrong : ChangeSpec := { name := "delaunayEmpty", fn := fun _ => fun
  | [d1, d2, d3] => { results := [.lit (.bool false)], args := [d1, d2, d3] }
  | _ => none }
def DelaunayEmptyWrongFalsely : Prop := delaunayEmptyRow.holds Tryz.pinned (OpenSpec.ofChange delaunayEmptyWrong)

/-- 'orrerylaw22.DelaunaySplits': WHATEVER THE INPUT: true; the input reads as it did. -/
def delaunaySplitsSpec : ChangeSpec := { name := "delaunaySplits", fn := fun _ => fun
  | [d1, d2] => { results := [.lit (.bool true)], args := [d1, d2] }
  | _ => none }
def delaunaySplitsRow : OpenClaim := { program := "ytpnhifedfcgjbaagreat", sum := "23d75a0c921cb7ef75629478d54587f541ce5d286538ea7a27ff926330f7c14b", func := "orrery/orrerylaw22.DelaunaySplits", spec := "delaunaySplits", unfollowed := true, recurses := true, plainKeys := false, apart := false }
def DelaunaySplitsSaid : Prop := delaunaySplitsRow.holds Tryz.pinned (OpenSpec.ofChange delaunaySplitsSpec)

/-- ITS FALSE NEIGHBOUR: 'it returns false'. Refute it at one input. -/
def delaunaySplitsWrong : ChangeSpec := { name := "delaunaySplits", fn := fun _ => fun
  | [d1, d2] => { results := [.lit (.bool false)], args := [d1, d2] }
  | _ => none }
def DelaunaySplitsWrongFalsely : Prop := delaunaySplitsRow.holds Tryz.pinned (OpenSpec.ofChange delaunaySplitsWrong)

/-- 'orrerylaw22.DelaunayHolds': WHATEVER THE INPUT: true; the input reads as it did. -/
def delaunayHoldsSpec : ChangeSpec := { name := "delaunayHolds", fn := fun _ => fun
  | [d1, d2, d3] => { results := [.lit (.bool true)], args := [d1, d2, d3] }
  | _ => none }
def delaunayHoldsRow : OpenClaim := { program := "ytpnhifedfcgjbaagreat", sum := "23d75a0c921cb7ef75629478d54587f541ce5d286538ea7a27ff926330f7c14b", func := "orrery/orrerylaw22.DelaunayHolds", spec := "delaunayHolds", unfollowed := true, recurses := true, plainKeys := false, apart := false }
def DelaunayHoldsSaid : Prop := delaunayHoldsRow.holds Tryz.pinned (OpenSpec.ofChange delaunayHoldsSpec)

/-- ITS FALSE NEIGHBOUR: 'it returns false'. Refute it at one input. -/
def delaunayHoldsWrong : ChangeSpec := { name := "delaunayHolds", fn := fun _ => fun
  | [d1, d2, d3] => { results := [.lit (.bool false)], args := [d1, d2, d3] }
  | _ => none }
def DelaunayHoldsWrongFalsely : Prop := delaunayHoldsRow.holds Tryz.pinned (OpenSpec.ofChange delaunayHoldsWrong)

/-- 'orrerylaw22.DelaunayTurns': WHATEVER THE INPUT: true; the input reads as it did. -/
def delaunayTurnsSpec : ChangeSpec := { name := "delaunayTurns", fn := fun _ => fun
  | [d1, d2, d3, d4] => { results := [.lit (.bool true)], args := [d1, d2, d3, d4] }
  | _ => none }
def delaunayTurnsRow : OpenClaim := { program := "ytpnhifedfcgjbaagreat", sum := "23d75a0c921cb7ef75629478d54587f541ce5d286538ea7a27ff926330f7c14b", func := "orrery/orrerylaw22.DelaunayTurns", spec := "delaunayTurns", unfollowed := true, recurses := true, plainKeys := false, apart := false }
def DelaunayTurnsSaid : Prop := delaunayTurnsRow.holds Tryz.pinned (OpenSpec.ofChange delaunayTurnsSpec)

/-- ITS FALSE NEIGHBOUR: 'it returns false'. Refute it at one input. -/
def delaunayTurnsWrong : ChangeSpec := { name := "delaunayTurns", fn := fun _ => fun
  | [d1, d2, d3, d4] => { results := [.lit (.bool false)], args := [d1, d2, d3, d4] }
  | _ => none }
def DelaunayTurnsWrongFalsely : Prop := delaunayTurnsRow.holds Tryz.pinned (OpenSpec.ofChange delaunayTurnsWrong)

/- THE SECOND FORM. 'bulk': how many values and letters a reading holds, each counted each time it is reached (what is shared counts as often as it is met; a slice's spare places count too). A statement '..UptoSaid' is the law's where the arguments, and the package variables that the reading takes, are together of bulk at most 1048576: NARROWER than '..Said'. Prove '..Said' where nothing that the law and all that it calls make is longer than what came in: it says more and counts as full. Else prove '..UptoSaid'. A law counts once. -/
mutual
def uptoBulk {H : Type} : DataW H → Nat
  | .lit (.string bytes) => bytes.length + 1
  | .lit _ => 1
  | .nil => 1
  | .ptr d => uptoBulk d + 1
  | .slice elems spare => uptoBulkAll elems + uptoBulkAll spare + 1
  | .agg parts => uptoBulkAll parts + 1
  | .iface _ d => uptoBulk d + 1
  | .map entries => uptoBulkEntries entries + 1
  | .held _ => 1
def uptoBulkAll {H : Type} : List (DataW H) → Nat
  | [] => 0
  | d :: r => uptoBulk d + uptoBulkAll r
def uptoBulkEntries {H : Type} : List (Lit × DataW H) → Nat
  | [] => 0
  | x :: r => uptoBulkEntry x + uptoBulkEntries r
def uptoBulkEntry {H : Type} : Lit × DataW H → Nat
  | (.string bytes, d) => bytes.length + uptoBulk d + 1
  | (_, d) => uptoBulk d + 1
 end
def uptoSmall : (H : Type) → List (DataW H) → Bool := fun _ ds => decide (uptoBulkAll ds ≤ 1048576)
def OpenSpec.upto (s : _root_.Go.ChangeSpec) : _root_.Go.OpenSpec := { _root_.Go.OpenSpec.ofChange s with cond := some uptoSmall }

/-- 'orrerylaw22.DelaunayEmpty', WHERE WHAT IT READS IS OF BULK AT MOST 1048576: true; the input reads as it did. -/
def delaunayEmptyUptoRow : OpenClaim := { program := "ytpnhifedfcgjbaagreat", sum := "23d75a0c921cb7ef75629478d54587f541ce5d286538ea7a27ff926330f7c14b", func := "orrery/orrerylaw22.DelaunayEmpty", spec := "delaunayEmpty", unfollowed := true, recurses := true, plainKeys := false, apart := false, narrowed := true }
def DelaunayEmptyUptoSaid : Prop := delaunayEmptyUptoRow.holds Tryz.pinned (OpenSpec.upto delaunayEmptySpec)

/-- 'orrerylaw22.DelaunaySplits', WHERE WHAT IT READS IS OF BULK AT MOST 1048576: true; the input reads as it did. -/
def delaunaySplitsUptoRow : OpenClaim := { program := "ytpnhifedfcgjbaagreat", sum := "23d75a0c921cb7ef75629478d54587f541ce5d286538ea7a27ff926330f7c14b", func := "orrery/orrerylaw22.DelaunaySplits", spec := "delaunaySplits", unfollowed := true, recurses := true, plainKeys := false, apart := false, narrowed := true }
def DelaunaySplitsUptoSaid : Prop := delaunaySplitsUptoRow.holds Tryz.pinned (OpenSpec.upto delaunaySplitsSpec)

/-- 'orrerylaw22.DelaunayHolds', WHERE WHAT IT READS IS OF BULK AT MOST 1048576: true; the input reads as it did. -/
def delaunayHoldsUptoRow : OpenClaim := { program := "ytpnhifedfcgjbaagreat", sum := "23d75a0c921cb7ef75629478d54587f541ce5d286538ea7a27ff926330f7c14b", func := "orrery/orrerylaw22.DelaunayHolds", spec := "delaunayHolds", unfollowed := true, recurses := true, plainKeys := false, apart := false, narrowed := true }
def DelaunayHoldsUptoSaid : Prop := delaunayHoldsUptoRow.holds Tryz.pinned (OpenSpec.upto delaunayHoldsSpec)

/-- 'orrerylaw22.DelaunayTurns', WHERE WHAT IT READS IS OF BULK AT MOST 1048576: true; the input reads as it did. -/
def delaunayTurnsUptoRow : OpenClaim := { program := "ytpnhifedfcgjbaagreat", sum := "23d75a0c921cb7ef75629478d54587f541ce5d286538ea7a27ff926330f7c14b", func := "orrery/orrerylaw22.DelaunayTurns", spec := "delaunayTurns", unfollowed := true, recurses := true, plainKeys := false, apart := false, narrowed := true }
def DelaunayTurnsUptoSaid : Prop := delaunayTurnsUptoRow.holds Tryz.pinned (OpenSpec.upto delaunayTurnsSpec)

end Rows
end Go.Proofs.YtpnhifedfcgjbaaGreat
