/- ClaimEC -/
import Derived.Test.YtbhhcpcpionelabGreatPart10
import Derived.Test.YtbhhcpcpionelabGreatRows
import Derived.JoinedCond
import Derived.Test.YtbhhcpcpionelabGreatPart00
set_option linter.all false
namespace Go.Proofs.YtbhhcpcpionelabGreat.engineCurves
open Go Go.Proofs Go.ChangeShapes Go.WideShapes Go.ChangeAt Go.RowKit Orr
theorem own : ownKnob Tryz.prog.godebug = none := by kernel_rfl
theorem laid : laidOutB Tryz.prog = true := by kernel_rfl
theorem yJ : Tryz.prog.readableRec 3 = true := by kernel_rfl
theorem LP : 3 < Tryz.prog.types.size := of_decide_eq_true (by kernel_rfl)
theorem Qou : Tryz.prog.readableRec 74 = true := by kernel_rfl
theorem Qjk : 74 < Tryz.prog.types.size := of_decide_eq_true (by kernel_rfl)
abbrev ps : List (TypeId × (TV → Prop)) := [(74, Qv2), (3, Qkx), (3, Qkx), (3, Qkx)]
theorem rds : ∀ q ∈ ps, AX q.1 q.2 := fun q hq => by
  simp only [ps, List.mem_cons, List.not_mem_nil, or_false] at hq
  rcases hq with rfl | rfl | rfl | rfl
  · exact Qb7
  · exact RG
  · exact RG
  · exact RG
theorem Qzn : ∀ q ∈ ps, Tryz.prog.readableRec q.1 = true ∧ q.1 < Tryz.prog.types.size := fun q hq => by
  simp only [ps, List.mem_cons, List.not_mem_nil, or_false] at hq
  rcases hq with rfl | rfl | rfl | rfl
  · exact ⟨Qou, Qjk⟩
  · exact ⟨yJ, LP⟩
  · exact ⟨yJ, LP⟩
  · exact ⟨yJ, LP⟩
theorem Qzg (us : List TV) (h : F2 (fun u (q : TypeId × (TV → Prop)) => q.2 u) us ps) : EF Tryz.prog 6 us [.one (.bool true)] := by
  unfold ps at h
  cases h with
  | cons x0 h =>
    obtain ⟨a0, h0, rfl⟩ := x0
    cases h with
    | cons x1 h =>
      obtain ⟨a1, h1, rfl⟩ := x1
      cases h with
      | cons x2 h =>
        obtain ⟨a2, h2, rfl⟩ := x2
        cases h with
        | cons x3 h =>
          obtain ⟨a3, h3, rfl⟩ := x3
          cases h
          exact BV h0 h1 h2 h3
theorem Qxr (H : Type) (ds : List (DataW H)) (h : ds.length = ps.length) : (Rows.engineCurvesSpec).fn H ds = { results := [.lit (.bool true)], args := ds } := by
  match ds, h with
  | [_, _, _, _], _ => rfl
set_option maxRecDepth 100000 in
theorem lifted (os : Os) (started : os.Started) (H : Type) (enc : TypeId × Value → H) :
    ReturnsInHanded {} Tryz.checked os 6 .any (Rows.engineCurvesSpec.pre6 enc Tryz.prog Tryz.f6 [] false) (Rows.engineCurvesSpec.post enc Tryz.prog Tryz.f6 false true false false) := by
  refine returnsInHanded_of_change_sized (C := Tryz.checked) own started (by kernel_rfl) Tryz.func6
    (ChangeSpec.witness6 (enc := enc) (C := Tryz.checked) (s := Rows.engineCurvesSpec) false ⟨#[], #[.slice none 0 0, .int .i64 0, .int .i64 0, .int .i64 0], []⟩ 8 (by kernel_rfl) (by kernel_rfl) (by kernel_rfl) (by kernel_rfl)) ?_
  intro W base args ds gs Tg hval hW _ hz _
  exact Qg9 (ps := ps) Tryz.params6 (by kernel_rfl) rfl Qxr laid Qzn rds Qzg hval hW hz
set_option maxRecDepth 100000 in
set_option maxHeartbeats 8000000 in
theorem closed : joinedFacts Tryz.pinned.checked.prog 6 Tryz.f6 Rows.engineCurvesSpec Rows.engineCurvesRow = true := by
  unfold joinedFacts
  simp only [Bool.and_eq_true]
  repeat' apply And.intro
  all_goals as_aux_lemma => kernel_rfl
theorem named : Tryz.pinned.checked.prog.funcNamed Rows.engineCurvesRow.func = some 6 := by kernel_rfl
theorem inst : Tryz.f6.isInstance Tryz.pinned.checked.prog Rows.engineCurvesRow.origin Rows.engineCurvesRow.targs := of_decide_eq_true (by kernel_rfl)
theorem wrap : Tryz.f6.isWrapper Tryz.pinned.checked.prog Rows.engineCurvesRow.wrapper Rows.engineCurvesRow.mainSum := by
  unfold Func.isWrapper
  first | (rw [if_pos (by decide +kernel)]; kernel_rfl) | (rw [if_neg (by decide +kernel)]; exact ⟨rfl, rfl⟩)
theorem over : Rows.engineCurvesRow.holds Tryz.pinned (OpenSpec.ofChange Rows.engineCurvesSpec) :=
  OpenClaim.holds_of_wide 6 Tryz.f6 rfl rfl rfl rfl rfl rfl rfl ⟨rfl, rfl, rfl, rfl, rfl⟩ rfl rfl rfl rfl rfl named Tryz.func6 closed inst wrap
    (fun os started H enc _ => lifted os started H enc)
theorem proved : Rows.EngineCurvesSaid :=
  over
end Go.Proofs.YtbhhcpcpionelabGreat.engineCurves
