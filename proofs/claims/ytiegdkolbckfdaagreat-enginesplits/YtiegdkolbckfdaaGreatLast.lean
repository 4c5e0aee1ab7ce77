/- ClaimES -/
import Derived.Test.YtiegdkolbckfdaaGreatPart10
import Derived.Test.YtiegdkolbckfdaaGreatRows
import Derived.JoinedCond
import Derived.Test.YtiegdkolbckfdaaGreatPart00
set_option linter.all false
namespace Go.Proofs.YtiegdkolbckfdaaGreat.engineSplits
open Go Go.Proofs Go.ChangeShapes Go.WideShapes Go.ChangeAt Go.RowKit Orr
theorem own : ownKnob Tryz.prog.godebug = none := by kernel_rfl
theorem laid : laidOutB Tryz.prog = true := by kernel_rfl
theorem Qox : Tryz.prog.readableRec 3 = true := by kernel_rfl
theorem Qjl : 3 < Tryz.prog.types.size := of_decide_eq_true (by kernel_rfl)
theorem Qiu : Tryz.prog.readableRec 54 = true := by kernel_rfl
theorem Qb9 : 54 < Tryz.prog.types.size := of_decide_eq_true (by kernel_rfl)
theorem Qoy : Tryz.prog.readableRec 22 = true := by kernel_rfl
theorem Qjm : 22 < Tryz.prog.types.size := of_decide_eq_true (by kernel_rfl)
abbrev ps : List (TypeId × (TV → Prop)) := [(3, Qvz), (22, Qv0), (54, Qqc)]
theorem rds : ∀ q ∈ ps, NV q.1 q.2 := fun q hq => by
  simp only [ps, List.mem_cons, List.not_mem_nil, or_false] at hq
  rcases hq with rfl | rfl | rfl
  · exact Qb3
  · exact Qb4
  · exact nN
theorem Qzn : ∀ q ∈ ps, Tryz.prog.readableRec q.1 = true ∧ q.1 < Tryz.prog.types.size := fun q hq => by
  simp only [ps, List.mem_cons, List.not_mem_nil, or_false] at hq
  rcases hq with rfl | rfl | rfl
  · exact ⟨Qox, Qjl⟩
  · exact ⟨Qoy, Qjm⟩
  · exact ⟨Qiu, Qb9⟩
theorem Qzh (us : List TV) (h : F2 (fun u (q : TypeId × (TV → Prop)) => q.2 u) us ps) : EN Tryz.prog 7 us [.one (.bool true)] := by
  unfold ps at h
  cases h with
  | cons x0 h =>
    obtain ⟨a0, h0, rfl⟩ := x0
    cases h with
    | cons x1 h =>
      obtain ⟨a1, h1, rfl⟩ := x1
      cases h with
      | cons x2 h =>
        obtain ⟨a2, h2, rfl⟩ := x2
        cases h
        exact BN h0 h1 h2
theorem Qxs (H : Type) (ds : List (DataW H)) (h : ds.length = ps.length) : (Rows.engineSplitsSpec).fn H ds = { results := [.lit (.bool true)], args := ds } := by
  match ds, h with
  | [_, _, _], _ => rfl
set_option maxRecDepth 100000 in
theorem lifted (os : Os) (started : os.Started) (H : Type) (enc : TypeId × Value → H) :
    ReturnsInHanded {} Tryz.checked os 7 .any (Rows.engineSplitsSpec.pre6 enc Tryz.prog Tryz.f7 [] false) (Rows.engineSplitsSpec.post enc Tryz.prog Tryz.f7 false true false false) := by
  refine returnsInHanded_of_change_sized (C := Tryz.checked) own started (by kernel_rfl) Tryz.func7
    (ChangeSpec.witness6 (enc := enc) (C := Tryz.checked) (s := Rows.engineSplitsSpec) false ⟨#[], #[.int .i64 0, .slice none 0 0, .slice none 0 0], []⟩ 8 (by kernel_rfl) (by kernel_rfl) (by kernel_rfl) (by kernel_rfl)) ?_
  intro W base args ds gs Tk hval hW _ hz _
  exact Qg6 (ps := ps) Tryz.params7 (by kernel_rfl) rfl Qxs laid Qzn rds Qzh hval hW hz
set_option maxRecDepth 100000 in
set_option maxHeartbeats 8000000 in
theorem closed : joinedFacts Tryz.pinned.checked.prog 7 Tryz.f7 Rows.engineSplitsSpec Rows.engineSplitsRow = true := by
  unfold joinedFacts
  simp only [Bool.and_eq_true]
  repeat' apply And.intro
  all_goals as_aux_lemma => kernel_rfl
theorem named : Tryz.pinned.checked.prog.funcNamed Rows.engineSplitsRow.func = some 7 := by kernel_rfl
theorem inst : Tryz.f7.isInstance Tryz.pinned.checked.prog Rows.engineSplitsRow.origin Rows.engineSplitsRow.targs := of_decide_eq_true (by kernel_rfl)
theorem wrap : Tryz.f7.isWrapper Tryz.pinned.checked.prog Rows.engineSplitsRow.wrapper Rows.engineSplitsRow.mainSum := by
  unfold Func.isWrapper
  first | (rw [if_pos (by decide +kernel)]; kernel_rfl) | (rw [if_neg (by decide +kernel)]; exact ⟨rfl, rfl⟩)
theorem over : Rows.engineSplitsRow.holds Tryz.pinned (OpenSpec.ofChange Rows.engineSplitsSpec) :=
  OpenClaim.holds_of_wide 7 Tryz.f7 rfl rfl rfl rfl rfl rfl rfl ⟨rfl, rfl, rfl, rfl, rfl⟩ rfl rfl rfl rfl rfl named Tryz.func7 closed inst wrap
    (fun os started H enc _ => lifted os started H enc)
theorem proved : Rows.EngineSplitsSaid :=
  over
end Go.Proofs.YtiegdkolbckfdaaGreat.engineSplits
