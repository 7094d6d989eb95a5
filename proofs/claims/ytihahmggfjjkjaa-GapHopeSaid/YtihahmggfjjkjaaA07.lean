/- A number that no groups allow is found -/
import Derived.Test.YtihahmggfjjkjaaRows
import Derived.Test.YtihahmggfjjkjaaA05
import Derived.Test.YtihahmggfjjkjaaA06
set_option linter.unusedVariables false
set_option linter.unusedSimpArgs false
namespace Go.Proofs.Ytihahmggfjjkjaa
open Go.AM Go.ChangeShapes Go.WideShapes Go.ChangeAt Go.RowKit
set_option maxHeartbeats 1600000 in
set_option maxRecDepth 100000 in
theorem gapHope_lifted (os : Os) (started : os.Started) (H : Type) (enc : TypeId × Value → H) :
    ReturnsInHanded {} Try.checked os 8 .any (Rows.gapHopeSpec.pre6 enc Try.prog Try.f8 Rows.gapHopeRow.domain false) (Rows.gapHopeSpec.post enc Try.prog Try.f8 false true false false) := by
  refine row_lifted_b (C := Try.checked) (tb := 4) (k := 9) (shs := [shSer, shPair]) progOk own started (by kernel_rfl) Try.func8
    (ChangeSpec.witness6 (enc := enc) (C := Try.checked) false ⟨#[], #[.agg #[.slice none 0 0, .int .i64 0, .int .i64 0, .slice none 0 0, .bool false, .slice none 0 0], .agg #[.int .i64 0, .int .i64 0]], []⟩ 8 (by kernel_rfl) (by kernel_rfl) (by kernel_rfl) (by kernel_rfl))
    laidOut (by kernel_rfl) zeroR rfl (by kernel_rfl) (by kernel_rfl) (by kernel_rfl) (fun ds hd => ?_) (fun Ds hD hC => ?_)
  · match ds, hd with
    | [_, _], _ => rfl
  · obtain ⟨H1, vl, vg, vf, s, a, b, e, hi, hs, ha, hb⟩ := ser_pair hD
    rw [e] at hC
    have hfl := hC.cap (i := 4) (off := 5) (bytes := 16) (by kernel_rfl) (v := vf) rfl hi.f.lenA
    obtain ⟨n, v, H', h1, h2⟩ := Hope_run (H := H1) (R := fun v _ => v = .bool true) vl vg vf s (a, b) hi hs hfl fun _ _ => rfl
    rw [e]
    exact ⟨n, H', by rw [← h2]; exact h1⟩
theorem gapHope_holds : Rows.GapHopeSaid :=
  OpenClaim.holds_of_wide 8 Try.f8 rfl rfl rfl rfl rfl rfl rfl ⟨rfl, rfl, rfl, rfl, rfl⟩ rfl rfl rfl rfl rfl (by kernel_rfl) Try.func8 (by kernel_rfl)
    (of_decide_eq_true (by kernel_rfl)) (by unfold Func.isWrapper; first | (rw [if_pos (by decide +kernel)]; kernel_rfl) | (rw [if_neg (by decide +kernel)]; exact ⟨rfl, rfl⟩))
    (fun os started H enc _ => gapHope_lifted os started H enc)
#print axioms gapHope_holds
end Go.Proofs.Ytihahmggfjjkjaa
