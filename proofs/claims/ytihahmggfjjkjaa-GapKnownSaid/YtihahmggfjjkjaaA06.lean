/- The examples of the document hold -/
import Derived.Test.YtihahmggfjjkjaaRows
import Derived.Test.YtihahmggfjjkjaaA05
set_option linter.unusedVariables false
set_option linter.unusedSimpArgs false
namespace Go.Proofs.Ytihahmggfjjkjaa
open Go.AM Go.ChangeShapes Go.WideShapes Go.ChangeAt Go.RowKit
set_option maxHeartbeats 1600000 in
set_option maxRecDepth 100000 in
theorem gapKnown_lifted (os : Os) (started : os.Started) (H : Type) (enc : TypeId × Value → H) :
    ReturnsInHanded {} Try.checked os 6 .any (Rows.gapKnownSpec.pre6 enc Try.prog Try.f6 Rows.gapKnownRow.domain false) (Rows.gapKnownSpec.post enc Try.prog Try.f6 false true false false) := by
  refine row_lifted (C := Try.checked) (tb := 4) (k := 4) (shs := []) progOk own started (by kernel_rfl) Try.func6
    (ChangeSpec.witness6 (enc := enc) (C := Try.checked) false ⟨#[], #[], []⟩ 8 (by kernel_rfl) (by kernel_rfl) (by kernel_rfl) (by kernel_rfl))
    laidOut (by kernel_rfl) zeroR rfl (by kernel_rfl) (by kernel_rfl) (by kernel_rfl) (fun ds hd => ?_) (fun Ds hD => ?_)
  · have : ds = [] := List.length_eq_zero_iff.1 hd
    subst this; rfl
  · have : Ds = [] := by cases Ds with
      | nil => rfl
      | cons => exact hD.elim
    subst this
    obtain ⟨n, v, H', h1, h2⟩ := Known_run (H := (injAll [] [] H0).2) (R := fun v _ => v = .bool true) fun _ _ => rfl
    exact ⟨n, H', by rw [← h2]; exact h1⟩
theorem gapKnown_holds : Rows.GapKnownSaid :=
  OpenClaim.holds_of_wide 6 Try.f6 rfl rfl rfl rfl rfl rfl rfl ⟨rfl, rfl, rfl, rfl, rfl⟩ rfl rfl rfl rfl rfl (by kernel_rfl) Try.func6 (by kernel_rfl)
    (of_decide_eq_true (by kernel_rfl)) (by unfold Func.isWrapper; first | (rw [if_pos (by decide +kernel)]; kernel_rfl) | (rw [if_neg (by decide +kernel)]; exact ⟨rfl, rfl⟩))
    (fun os started H enc _ => gapKnown_lifted os started H enc)
#print axioms gapKnown_holds
end Go.Proofs.Ytihahmggfjjkjaa
