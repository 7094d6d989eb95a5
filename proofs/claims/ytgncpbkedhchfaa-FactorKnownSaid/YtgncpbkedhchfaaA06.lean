/- The row FactorKnown: the law of the examples returns true, for every start. -/
import Derived.Test.YtgncpbkedhchfaaRows
import Derived.Test.YtgncpbkedhchfaaA05
set_option linter.unusedVariables false
set_option linter.unusedSimpArgs false
namespace Go.Proofs.Ytgncpbkedhchfaa
open Go.AM Go.ChangeShapes Go.WideShapes Go.ChangeAt Go.RowKit
set_option maxHeartbeats 1600000 in
set_option maxRecDepth 100000 in
theorem known_lifted (os : Os) (started : os.Started) (H : Type) (enc : TypeId × Value → H) :
    ReturnsInHanded {} Try.checked os 7 .any (Rows.factorKnownSpec.pre6 enc Try.prog Try.f7 Rows.factorKnownRow.domain false) (Rows.factorKnownSpec.post enc Try.prog Try.f7 false true false false) := by
  refine row_lifted (C := Try.checked) (tb := 4) (k := 4) (shs := []) progOk own started (by kernel_rfl) Try.func7
    (ChangeSpec.witness6 (enc := enc) (C := Try.checked) false ⟨#[], #[], []⟩ 8 (by kernel_rfl) (by kernel_rfl) (by kernel_rfl) (by kernel_rfl))
    laidOut (by kernel_rfl) zeroR rfl (by kernel_rfl) (by kernel_rfl) (by kernel_rfl) (fun ds hd => ?_) (fun Ds hD => ?_)
  · have : ds = [] := List.length_eq_zero_iff.1 hd
    subst this; rfl
  · have : Ds = [] := by cases Ds with
      | nil => rfl
      | cons => exact hD.elim
    subst this
    obtain ⟨n, v, H', h1, h2⟩ := Known_run (H := (injAll [] [] H0).2) (R := fun v _ => v = .bool true) fun _ _ => rfl
    exact ⟨n, H', by rw [← h2]; exact h1⟩
theorem known_holds : Rows.FactorKnownSaid :=
  OpenClaim.holds_of_wide 7 Try.f7 rfl rfl rfl rfl rfl rfl rfl ⟨rfl, rfl, rfl, rfl, rfl⟩ rfl rfl rfl rfl rfl (by kernel_rfl) Try.func7 (by kernel_rfl)
    (of_decide_eq_true (by kernel_rfl)) (by unfold Func.isWrapper; first | (rw [if_pos (by decide +kernel)]; kernel_rfl) | (rw [if_neg (by decide +kernel)]; exact ⟨rfl, rfl⟩))
    (fun os started H enc _ => known_lifted os started H enc)
#print axioms known_holds
end Go.Proofs.Ytgncpbkedhchfaa
