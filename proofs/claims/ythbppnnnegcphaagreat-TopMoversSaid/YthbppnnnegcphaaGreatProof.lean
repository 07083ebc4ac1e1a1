/- Part 6 of a proof: what the functions of the program compute, and at the end that the law answers true for every input. No conditions beyond the statement's own. -/
import Derived.Test.YthbppnnnegcphaaGreatT5
import Derived.WalkKit
import Derived.ProofKit
import Derived.OpenShut
set_option linter.unusedVariables false
set_option linter.unusedSimpArgs false
namespace Go.Proofs.YthbppnnnegcphaaGreat.topMovers
open Go.Sl Go.Proofs Go.ChangeShapes Go.WideShapes Go.ChangeAt Go.RowKit Go.Deep
theorem own : ownKnob Tryz.prog.godebug = none := by kernel_rfl
set_option maxRecDepth 100000 in
theorem lifted (os : Os) (started : os.Started) (H : Type) (enc : TypeId × Value → H) :
    ReturnsInHanded {} Tryz.checked os 5 .any (Rows.topMoversSpec.pre6 enc Tryz.prog Tryz.f5 Rows.topMoversRow.domain false) (Rows.topMoversSpec.post enc Tryz.prog Tryz.f5 false true false false) := by
  refine returnsInHanded_of_change (C := Tryz.checked) own started (by kernel_rfl) Tryz.func5
    (ChangeSpec.witness6 (enc := enc) (C := Tryz.checked) false ⟨#[], #[.slice none 0 0, .int .u8 0, .int .u8 0], []⟩ 8 (by kernel_rfl) (by kernel_rfl) (by kernel_rfl) (by kernel_rfl)) ?_
  intro W base args ds gs before hval hW _ _
  exact movers_contract Rows.topMoversSpec rfl (fun _ _ _ _ => rfl) H enc W base args ds gs before hval hW
theorem named : Tryz.prog.funcNamed Rows.topMoversRow.func = some 5 := by kernel_rfl
theorem wrap1 : Tryz.f5.isWrapper Tryz.pinned.checked.prog Rows.topMoversRow.wrapper Rows.topMoversRow.mainSum := by unfold Func.isWrapper; first | (rw [if_pos (by decide +kernel)]; kernel_rfl) | (rw [if_neg (by decide +kernel)]; exact ⟨rfl, rfl⟩)
theorem inst1 : Tryz.f5.isInstance Tryz.pinned.checked.prog Rows.topMoversRow.origin Rows.topMoversRow.targs := of_decide_eq_true (by kernel_rfl)
theorem over : Rows.topMoversRow.holds Tryz.pinned (OpenSpec.ofChange Rows.topMoversSpec) :=
  OpenClaim.holds_of_wide (p := Tryz.pinned) (s := Rows.topMoversSpec) (c := Rows.topMoversRow) 5 Tryz.f5 rfl rfl rfl rfl rfl rfl rfl ⟨rfl, rfl, rfl, rfl, rfl⟩ rfl rfl rfl rfl rfl named Tryz.func5 closed inst1 wrap1
    (fun os started H enc _ => lifted os started H enc)
theorem proved : Rows.TopMoversSaid := over
end Go.Proofs.YthbppnnnegcphaaGreat.topMovers
