/-
  No cell of these rows narrows 'for every input' (looked for: loops, veiled, ifaces, maps, wideKeys, modest, calm, conditions, laid).
  DERIVED. THE GIVEN ROWS OF THIS SEAT. 6 by the template 'for every input the law returns true; each argument reads behind the call as it read before'; 0 by the template 'total and deterministic' (their statements: YtbhhcpcpionelaaGreatTotals.lean).
  GIVEN WITH THE SEED: the statements are not yours to turn. If you find one false, say at which input.
  Laid BY PROGRAM, IN A SANDBOX (cutbox-rows.mjs): the forced cells as the released guide's own fill.sh prints them over the translation 85f20386ca53648f… (all of the seat's roots in one cut). By AI agents, Wed Nov 11 2026. No macro, syntax, notation, axiom, sorry.
-/
import Derived.Test.YtbhhcpcpionelaaGreatChecked
import GoSem.Claim
import GoSem.ClaimJoined
import GoSem.ClaimMapViews
import Derived.JoinedTies
import Derived.KernelRfl
namespace Go.Proofs.YtbhhcpcpionelaaGreat
/- THE CELL 'sum', in the pinned program and in every row, IS THE sha256 OF THE DUMP (.gsa) THAT YtbhhcpcpionelaaGreatProg.lean LOADS. Nothing in Lean hashes anything: it is a label: what it is worth is what the hold of that sum in a sandbox is worth. -/
noncomputable def Tryz.pinned : Pinned := { name := "ytbhhcpcpionelaagreat", sum := "85f20386ca53648f8909b5b3ae7210d3283a0d05035ad569b9e752512bf7db71", checked := Tryz.checked }
namespace Rows
def none {H : Type} : Left H := { results := [], args := [] }

/-- 'orrerytop.TopEnds': WHATEVER THE INPUT: true; the input reads as it did. -/
def topEndsSpec : ChangeSpec := { name := "topEnds", fn := fun _ => fun
  | [d1, d2, d3] => { results := [.lit (.bool true)], args := [d1, d2, d3] }
  | _ => none }
def topEndsRow : OpenClaim := { program := "ytbhhcpcpionelaagreat", sum := "85f20386ca53648f8909b5b3ae7210d3283a0d05035ad569b9e752512bf7db71", func := "orrery/orrerytop.TopEnds", spec := "topEnds", unfollowed := true, recurses := true, plainKeys := false, apart := false }
def TopEndsSaid : Prop := topEndsRow.holds Tryz.pinned (OpenSpec.ofChange topEndsSpec)

/-- ITS FALSE NEIGHBOUR: 'it returns false'. Refute it at one input. -/
def topEndsWrong : ChangeSpec := { name := "topEnds", fn := fun _ => fun
  | [d1, d2, d3] => { results := [.lit (.bool false)], args := [d1, d2, d3] }
  | _ => none }
def TopEndsWrongFalsely : Prop := topEndsRow.holds Tryz.pinned (OpenSpec.ofChange topEndsWrong)

/-- 'orrerytop.TopErrors': WHATEVER THE INPUT: true; the input reads as it did. -/
def topErrorsSpec : ChangeSpec := { name := "topErrors", fn := fun _ => fun
  | [d1, d2, d3] => { results := [.lit (.bool true)], args := [d1, d2, d3] }
  | _ => none }
def topErrorsRow : OpenClaim := { program := "ytbhhcpcpionelaagreat", sum := "85f20386ca53648f8909b5b3ae7210d3283a0d05035ad569b9e752512bf7db71", func := "orrery/orrerytop.TopErrors", spec := "topErrors", unfollowed := true, recurses := true, plainKeys := false, apart := false }
def TopErrorsSaid : Prop := topErrorsRow.holds Tryz.pinned (OpenSpec.ofChange topErrorsSpec)

/-- ITS FALSE NEIGHBOUR: 'it returns false'. Refute it at one input. -/
def topErrorsWrong : ChangeSpec := { name := "topErrors", fn := fun _ => fun
  | [d1, d2, d3] => { results := [.lit (.bool false)], args := [d1, d2, d3] }
  | _ => none }
def TopErrorsWrongFalsely : Prop := topErrorsRow.holds Tryz.pinned (OpenSpec.ofChange topErrorsWrong)

/-- 'orrerytop.TopSplits': WHATEVER THE INPUT: true; the input reads as it did. -/
def topSplitsSpec : ChangeSpec := { name := "topSplits", fn := fun _ => fun
  | [d1, d2, d3, d4] => { results := [.lit (.bool true)], args := [d1, d2, d3, d4] }
  | _ => none }
def topSplitsRow : OpenClaim := { program := "ytbhhcpcpionelaagreat", sum := "85f20386ca53648f8909b5b3ae7210d3283a0d05035ad569b9e752512bf7db71", func := "orrery/orrerytop.TopSplits", spec := "topSplits", unfollowed := true, recurses := true, plainKeys := false, apart := false }
def TopSplitsSaid : Prop := topSplitsRow.holds Tryz.pinned (OpenSpec.ofChange topSplitsSpec)

/-- ITS FALSE NEIGHBOUR: 'it returns false'. Refute it at one input. -/
def topSplitsWrong : ChangeSpec := { name := "topSplits", fn := fun _ => fun
  | [d1, d2, d3, d4] => { results := [.lit (.bool false)], args := [d1, d2, d3, d4] }
  | _ => none }
def TopSplitsWrongFalsely : Prop := topSplitsRow.holds Tryz.pinned (OpenSpec.ofChange topSplitsWrong)

/-- 'orrerylaw24.EngineFroms': WHATEVER THE INPUT: true; the input reads as it did. -/
def engineFromsSpec : ChangeSpec := { name := "engineFroms", fn := fun _ => fun
  | [d1, d2, d3, d4, d5, d6, d7] => { results := [.lit (.bool true)], args := [d1, d2, d3, d4, d5, d6, d7] }
  | _ => none }
def engineFromsRow : OpenClaim := { program := "ytbhhcpcpionelaagreat", sum := "85f20386ca53648f8909b5b3ae7210d3283a0d05035ad569b9e752512bf7db71", func := "orrery/orrerylaw24.EngineFroms", spec := "engineFroms", unfollowed := true, recurses := true, plainKeys := false, apart := false }
def EngineFromsSaid : Prop := engineFromsRow.holds Tryz.pinned (OpenSpec.ofChange engineFromsSpec)

/-- ITS FALSE NEIGHBOUR: 'it returns false'. Refute it at one input. -/
def engineFromsWrong : ChangeSpec := { name := "engineFroms", fn := fun _ => fun
  | [d1, d2, d3, d4, d5, d6, d7] => { results := [.lit (.bool false)], args := [d1, d2, d3, d4, d5, d6, d7] }
  | _ => none }
def EngineFromsWrongFalsely : Prop := engineFromsRow.holds Tryz.pinned (OpenSpec.ofChange engineFromsWrong)

/-- 'orrerylaw24.EngineRooms': WHATEVER THE INPUT: true; the input reads as it did. -/
def engineRoomsSpec : ChangeSpec := { name := "engineRooms", fn := fun _ => fun
  | [d1, d2, d3] => { results := [.lit (.bool true)], args := [d1, d2, d3] }
  | _ => none }
def engineRoomsRow : OpenClaim := { program := "ytbhhcpcpionelaagreat", sum := "85f20386ca53648f8909b5b3ae7210d3283a0d05035ad569b9e752512bf7db71", func := "orrery/orrerylaw24.EngineRooms", spec := "engineRooms", unfollowed := true, recurses := true, plainKeys := false, apart := false }
def EngineRoomsSaid : Prop := engineRoomsRow.holds Tryz.pinned (OpenSpec.ofChange engineRoomsSpec)

/-- ITS FALSE NEIGHBOUR: 'it returns false'. Refute it at one input. -/
def engineRoomsWrong : ChangeSpec := { name := "engineRooms", fn := fun _ => fun
  | [d1, d2, d3] => { results := [.lit (.bool false)], args := [d1, d2, d3] }
  | _ => none }
def EngineRoomsWrongFalsely : Prop := engineRoomsRow.holds Tryz.pinned (OpenSpec.ofChange engineRoomsWrong)

/-- 'orrerylaw24.EngineParts': WHATEVER THE INPUT: true; the input reads as it did. -/
def enginePartsSpec : ChangeSpec := { name := "engineParts", fn := fun _ => fun
  | [d1, d2, d3] => { results := [.lit (.bool true)], args := [d1, d2, d3] }
  | _ => none }
def enginePartsRow : OpenClaim := { program := "ytbhhcpcpionelaagreat", sum := "85f20386ca53648f8909b5b3ae7210d3283a0d05035ad569b9e752512bf7db71", func := "orrery/orrerylaw24.EngineParts", spec := "engineParts", unfollowed := true, recurses := true, plainKeys := false, apart := false }
def EnginePartsSaid : Prop := enginePartsRow.holds Tryz.pinned (OpenSpec.ofChange enginePartsSpec)

/-- ITS FALSE NEIGHBOUR: 'it returns false'. Refute it at one input. -/
def enginePartsWrong : ChangeSpec := { name := "engineParts", fn := fun _ => fun
  | [d1, d2, d3] => { results := [.lit (.bool false)], args := [d1, d2, d3] }
  | _ => none }
def EnginePartsWrongFalsely : Prop := enginePartsRow.holds Tryz.pinned (OpenSpec.ofChange enginePartsWrong)

/- THE SECOND FORM. 'bulk': how many values and letters a reading holds, each counted each time it is reached (what is shared counts as often as it is met; a slice's spare places count too). A statement '..UptoSaid' is the law's where the arguments, and the package variables that the reading takes, are together of bulk at most 1048576: NARROWER than '..Said'. Prove '..Said' where nothing that the law and all that it calls make is longer than what came in: it says more and counts as full. Else prove '..UptoSaid'. A law counts once. -/
mutual
def uptoBulk {H : Type} : DataW H → Nat
  | .lit (.string bytes) => bytes.length + 1
  | .lit _ => 1
  | .nil => 1
  | .ptr d => uptoBulk d + 1
  | .slice elems spare => uptoBulkAll elems + uptoBulkAll spare + 1
  | .agg parts => uptoBulkAll parts + 1
  | .iface _ d => uptoBulk d + 1
  | .map entries => uptoBulkEntries entries + 1
  | .held _ => 1
def uptoBulkAll {H : Type} : List (DataW H) → Nat
  | [] => 0
  | d :: r => uptoBulk d + uptoBulkAll r
def uptoBulkEntries {H : Type} : List (Lit × DataW H) → Nat
  | [] => 0
  | x :: r => uptoBulkEntry x + uptoBulkEntries r
def uptoBulkEntry {H : Type} : Lit × DataW H → Nat
  | (.string bytes, d) => bytes.length + uptoBulk d + 1
  | (_, d) => uptoBulk d + 1
 end
def uptoSmall : (H : Type) → List (DataW H) → Bool := fun _ ds => decide (uptoBulkAll ds ≤ 1048576)
def OpenSpec.upto (s : _root_.Go.ChangeSpec) : _root_.Go.OpenSpec := { _root_.Go.OpenSpec.ofChange s with cond := some uptoSmall }

/-- 'orrerytop.TopEnds', WHERE WHAT IT READS IS OF BULK AT MOST 1048576: true; the input reads as it did. -/
def topEndsUptoRow : OpenClaim := { program := "ytbhhcpcpionelaagreat", sum := "85f20386ca53648f8909b5b3ae7210d3283a0d05035ad569b9e752512bf7db71", func := "orrery/orrerytop.TopEnds", spec := "topEnds", unfollowed := true, recurses := true, plainKeys := false, apart := false, narrowed := true }
def TopEndsUptoSaid : Prop := topEndsUptoRow.holds Tryz.pinned (OpenSpec.upto topEndsSpec)

/-- 'orrerytop.TopErrors', WHERE WHAT IT READS IS OF BULK AT MOST 1048576: true; the input reads as it did. -/
def topErrorsUptoRow : OpenClaim := { program := "ytbhhcpcpionelaagreat", sum := "85f20386ca53648f8909b5b3ae7210d3283a0d05035ad569b9e752512bf7db71", func := "orrery/orrerytop.TopErrors", spec := "topErrors", unfollowed := true, recurses := true, plainKeys := false, apart := false, narrowed := true }
def TopErrorsUptoSaid : Prop := topErrorsUptoRow.holds Tryz.pinned (OpenSpec.upto topErrorsSpec)

/-- 'orrerytop.TopSplits', WHERE WHAT IT READS IS OF BULK AT MOST 1048576: true; the input reads as it did. -/
def topSplitsUptoRow : OpenClaim := { program := "ytbhhcpcpionelaagreat", sum := "85f20386ca53648f8909b5b3ae7210d3283a0d05035ad569b9e752512bf7db71", func := "orrery/orrerytop.TopSplits", spec := "topSplits", unfollowed := true, recurses := true, plainKeys := false, apart := false, narrowed := true }
def TopSplitsUptoSaid : Prop := topSplitsUptoRow.holds Tryz.pinned (OpenSpec.upto topSplitsSpec)

/-- 'orrerylaw24.EngineFroms', WHERE WHAT IT READS IS OF BULK AT MOST 1048576: true; the input reads as it did. -/
def engineFromsUptoRow : OpenClaim := { program := "ytbhhcpcpionelaagreat", sum := "85f20386ca53648f8909b5b3ae7210d3283a0d05035ad569b9e752512bf7db71", func := "orrery/orrerylaw24.EngineFroms", spec := "engineFroms", unfollowed := true, recurses := true, plainKeys := false, apart := false, narrowed := true }
def EngineFromsUptoSaid : Prop := engineFromsUptoRow.holds Tryz.pinned (OpenSpec.upto engineFromsSpec)

/-- 'orrerylaw24.EngineRooms', WHERE WHAT IT READS IS OF BULK AT MOST 1048576: true; the input reads as it did. -/
def engineRoomsUptoRow : OpenClaim := { program := "ytbhhcpcpionelaagreat", sum := "85f20386ca53648f8909b5b3ae7210d3283a0d05035ad569b9e752512bf7db71", func := "orrery/orrerylaw24.EngineRooms", spec := "engineRooms", unfollowed := true, recurses := true, plainKeys := false, apart := false, narrowed := true }
def EngineRoomsUptoSaid : Prop := engineRoomsUptoRow.holds Tryz.pinned (OpenSpec.upto engineRoomsSpec)

/-- 'orrerylaw24.EngineParts', WHERE WHAT IT READS IS OF BULK AT MOST 1048576: true; the input reads as it did. -/
def enginePartsUptoRow : OpenClaim := { program := "ytbhhcpcpionelaagreat", sum := "85f20386ca53648f8909b5b3ae7210d3283a0d05035ad569b9e752512bf7db71", func := "orrery/orrerylaw24.EngineParts", spec := "engineParts", unfollowed := true, recurses := true, plainKeys := false, apart := false, narrowed := true }
def EnginePartsUptoSaid : Prop := enginePartsUptoRow.holds Tryz.pinned (OpenSpec.upto enginePartsSpec)

end Rows
end Go.Proofs.YtbhhcpcpionelaaGreat
