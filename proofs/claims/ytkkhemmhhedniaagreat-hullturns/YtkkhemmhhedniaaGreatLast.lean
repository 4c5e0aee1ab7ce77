/- ClaimHT -/
import Derived.Test.YtkkhemmhhedniaaGreatPart10
import Derived.Test.YtkkhemmhhedniaaGreatRows
import Derived.JoinedCond
import Derived.Test.YtkkhemmhhedniaaGreatPart00
set_option linter.all false
namespace Go.Proofs.YtkkhemmhhedniaaGreat.hullTurns
open Go Go.Proofs Go.ChangeShapes Go.WideShapes Go.ChangeAt Go.RowKit Orr
theorem own : ownKnob Tryz.prog.godebug = none := by kernel_rfl
theorem laid : laidOutB Tryz.prog = true := by kernel_rfl
theorem Znq : Tryz.prog.readableRec 22 = true := by kernel_rfl
theorem Zp9 : Tryz.prog.readableRec 3 = true := by kernel_rfl
theorem Zlf : 22 < Tryz.prog.types.size := of_decide_eq_true (by kernel_rfl)
theorem Znw : 3 < Tryz.prog.types.size := of_decide_eq_true (by kernel_rfl)
set_option maxRecDepth 100000 in
theorem lifted (os : Os) (started : os.Started) (H : Type) (enc : TypeId × Value → H) :
    ReturnsInHanded {} Tryz.checked os 8 .any (Rows.hullTurnsSpec.pre6 enc Tryz.prog Tryz.f8 [] false) (Rows.hullTurnsSpec.post enc Tryz.prog Tryz.f8 false true false false) := by
  refine returnsInHanded_of_change_sized (C := Tryz.checked) own started (by kernel_rfl) Tryz.func8
    (ChangeSpec.witness6 (enc := enc) (C := Tryz.checked) (s := Rows.hullTurnsSpec) false ⟨#[], #[.slice none 0 0, .int .i64 0, .int .i64 0, .int .i64 0], []⟩ 8 (by kernel_rfl) (by kernel_rfl) (by kernel_rfl) (by kernel_rfl)) ?_
  intro W base args ds gs Te hval hW _ hz _
  exact Qt7 Tryz.params8 (by kernel_rfl) rfl (fun _ _ _ _ _ => rfl) laid Znq Zp9 Zlf Znw (fun zs n d k h1 h2 h3 h4 => Qmx h1 (by omega) (by omega) (by omega)) hval hW hz
set_option maxRecDepth 100000 in
set_option maxHeartbeats 8000000 in
theorem closed : joinedFacts Tryz.pinned.checked.prog 8 Tryz.f8 Rows.hullTurnsSpec Rows.hullTurnsRow = true := by
  unfold joinedFacts
  simp only [Bool.and_eq_true]
  repeat' apply And.intro
  all_goals as_aux_lemma => kernel_rfl
theorem named : Tryz.pinned.checked.prog.funcNamed Rows.hullTurnsRow.func = some 8 := by kernel_rfl
theorem inst : Tryz.f8.isInstance Tryz.pinned.checked.prog Rows.hullTurnsRow.origin Rows.hullTurnsRow.targs := of_decide_eq_true (by kernel_rfl)
theorem wrap : Tryz.f8.isWrapper Tryz.pinned.checked.prog Rows.hullTurnsRow.wrapper Rows.hullTurnsRow.mainSum := by
  unfold Func.isWrapper
  first | (rw [if_pos (by decide +kernel)]; kernel_rfl) | (rw [if_neg (by decide +kernel)]; exact ⟨rfl, rfl⟩)
theorem over : Rows.hullTurnsRow.holds Tryz.pinned (OpenSpec.ofChange Rows.hullTurnsSpec) :=
  OpenClaim.holds_of_wide 8 Tryz.f8 rfl rfl rfl rfl rfl rfl rfl ⟨rfl, rfl, rfl, rfl, rfl⟩ rfl rfl rfl rfl rfl named Tryz.func8 closed inst wrap
    (fun os started H enc _ => lifted os started H enc)
theorem proved : Rows.HullTurnsSaid :=
  over
end Go.Proofs.YtkkhemmhhedniaaGreat.hullTurns
