/- ClaimTH -/
import Derived.Test.YtkkhemmhhedniaaGreatPart09
import Derived.Test.YtkkhemmhhedniaaGreatRows
import Derived.JoinedCond
import Derived.Test.YtkkhemmhhedniaaGreatPart00
set_option linter.all false
namespace Go.Proofs.YtkkhemmhhedniaaGreat.tourneyHolds
open Go Go.Proofs Go.ChangeShapes Go.WideShapes Go.ChangeAt Go.RowKit Orr
theorem own : ownKnob Tryz.prog.godebug = none := by kernel_rfl
theorem laid : laidOutB Tryz.prog = true := by kernel_rfl
theorem Zj1 : Tryz.prog.readableRec 22 = true := by kernel_rfl
theorem Zmm : Tryz.prog.readableRec 3 = true := by kernel_rfl
theorem Zhq : 22 < Tryz.prog.types.size := of_decide_eq_true (by kernel_rfl)
theorem Zj8 : 3 < Tryz.prog.types.size := of_decide_eq_true (by kernel_rfl)
set_option maxRecDepth 100000 in
theorem lifted (os : Os) (started : os.Started) (H : Type) (enc : TypeId × Value → H) :
    ReturnsInHanded {} Tryz.checked os 5 .any (Rows.tourneyHoldsSpec.pre6 enc Tryz.prog Tryz.f5 [] false) (Rows.tourneyHoldsSpec.post enc Tryz.prog Tryz.f5 false true false false) := by
  refine returnsInHanded_of_change_sized (C := Tryz.checked) own started (by kernel_rfl) Tryz.func5
    (ChangeSpec.witness6 (enc := enc) (C := Tryz.checked) (s := Rows.tourneyHoldsSpec) false ⟨#[], #[.slice none 0 0, .int .i64 0, .int .i64 0], []⟩ 8 (by kernel_rfl) (by kernel_rfl) (by kernel_rfl) (by kernel_rfl)) ?_
  intro W base args ds gs Qtb hval hW _ hz _
  exact Quk Tryz.params5 (by kernel_rfl) rfl (fun _ _ _ _ => rfl) laid Zj1 Zmm Zhq Zj8 (fun zs n d h1 h2 h3 => Qj3 h1 (by omega) (by omega)) hval hW hz
set_option maxRecDepth 100000 in
set_option maxHeartbeats 8000000 in
theorem closed : joinedFacts Tryz.pinned.checked.prog 5 Tryz.f5 Rows.tourneyHoldsSpec Rows.tourneyHoldsRow = true := by
  unfold joinedFacts
  simp only [Bool.and_eq_true]
  repeat' apply And.intro
  all_goals as_aux_lemma => kernel_rfl
theorem named : Tryz.pinned.checked.prog.funcNamed Rows.tourneyHoldsRow.func = some 5 := by kernel_rfl
theorem inst : Tryz.f5.isInstance Tryz.pinned.checked.prog Rows.tourneyHoldsRow.origin Rows.tourneyHoldsRow.targs := of_decide_eq_true (by kernel_rfl)
theorem wrap : Tryz.f5.isWrapper Tryz.pinned.checked.prog Rows.tourneyHoldsRow.wrapper Rows.tourneyHoldsRow.mainSum := by
  unfold Func.isWrapper
  first | (rw [if_pos (by decide +kernel)]; kernel_rfl) | (rw [if_neg (by decide +kernel)]; exact ⟨rfl, rfl⟩)
theorem over : Rows.tourneyHoldsRow.holds Tryz.pinned (OpenSpec.ofChange Rows.tourneyHoldsSpec) :=
  OpenClaim.holds_of_wide 5 Tryz.f5 rfl rfl rfl rfl rfl rfl rfl ⟨rfl, rfl, rfl, rfl, rfl⟩ rfl rfl rfl rfl rfl named Tryz.func5 closed inst wrap
    (fun os started H enc _ => lifted os started H enc)
theorem proved : Rows.TourneyHoldsSaid :=
  over
end Go.Proofs.YtkkhemmhhedniaaGreat.tourneyHolds
