/- ClaimTT -/
import Derived.Test.YtbnjginelkkonaaGreatPart10
import Derived.Test.YtbnjginelkkonaaGreatRows
import Derived.JoinedCond
set_option linter.all false

namespace Go.Proofs.YtbnjginelkkonaaGreat.tourneyTurns
open Go Go.Proofs Go.ChangeShapes Go.WideShapes Go.ChangeAt Go.RowKit Orr
theorem own : ownKnob Tryz.prog.godebug = none := by kernel_rfl
theorem laid : laidOutB Tryz.prog = true := by kernel_rfl
theorem Zak : Tryz.prog.readableRec 24 = true := by kernel_rfl
theorem Zc5 : Tryz.prog.readableRec 3 = true := by kernel_rfl
theorem Q8f : 24 < Tryz.prog.types.size := of_decide_eq_true (by kernel_rfl)
theorem Zar : 3 < Tryz.prog.types.size := of_decide_eq_true (by kernel_rfl)
set_option maxRecDepth 100000 in
theorem lifted (os : Os) (started : os.Started) (H : Type) (enc : TypeId × Value → H) :
    ReturnsInHanded {} Tryz.checked os 12 .any (Rows.tourneyTurnsSpec.pre6 enc Tryz.prog Tryz.f12 [] false) (Rows.tourneyTurnsSpec.post enc Tryz.prog Tryz.f12 false true false false) := by
  refine returnsInHanded_of_change_sized (C := Tryz.checked) own started (by kernel_rfl) Tryz.func12
    (ChangeSpec.witness6 (enc := enc) (C := Tryz.checked) (s := Rows.tourneyTurnsSpec) false ⟨#[], #[.slice none 0 0, .int .i64 0, .int .i64 0, .int .i64 0], []⟩ 8 (by kernel_rfl) (by kernel_rfl) (by kernel_rfl) (by kernel_rfl)) ?_
  intro W base args ds gs Qke hval hW _ hz _
  exact Qil Tryz.params12 (by kernel_rfl) rfl (fun _ _ _ _ _ => rfl) laid Zak Zc5 Q8f Zar (fun zs n d k h1 h2 h3 h4 => Qb2 h1 (by omega) (by omega) (by omega)) hval hW hz
set_option maxRecDepth 100000 in
set_option maxHeartbeats 8000000 in
theorem closed : joinedFacts Tryz.pinned.checked.prog 12 Tryz.f12 Rows.tourneyTurnsSpec Rows.tourneyTurnsRow = true := by
  unfold joinedFacts
  simp only [Bool.and_eq_true]
  repeat' apply And.intro
  all_goals as_aux_lemma => kernel_rfl
theorem named : Tryz.pinned.checked.prog.funcNamed Rows.tourneyTurnsRow.func = some 12 := by kernel_rfl
theorem inst : Tryz.f12.isInstance Tryz.pinned.checked.prog Rows.tourneyTurnsRow.origin Rows.tourneyTurnsRow.targs := of_decide_eq_true (by kernel_rfl)
theorem wrap : Tryz.f12.isWrapper Tryz.pinned.checked.prog Rows.tourneyTurnsRow.wrapper Rows.tourneyTurnsRow.mainSum := by
  unfold Func.isWrapper
  first | (rw [if_pos (by decide +kernel)]; kernel_rfl) | (rw [if_neg (by decide +kernel)]; exact ⟨rfl, rfl⟩)
theorem over : Rows.tourneyTurnsRow.holds Tryz.pinned (OpenSpec.ofChange Rows.tourneyTurnsSpec) :=
  OpenClaim.holds_of_wide 12 Tryz.f12 rfl rfl rfl rfl rfl rfl rfl ⟨rfl, rfl, rfl, rfl, rfl⟩ rfl rfl rfl rfl rfl named Tryz.func12 closed inst wrap
    (fun os started H enc _ => lifted os started H enc)
theorem proved : Rows.TourneyTurnsSaid :=
  over
end Go.Proofs.YtbnjginelkkonaaGreat.tourneyTurns
