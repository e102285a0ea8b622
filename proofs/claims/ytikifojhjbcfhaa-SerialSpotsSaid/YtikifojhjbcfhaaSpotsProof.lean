/-
  The law SerialSpots returns true, whatever the input: blind spots and twins are those that all pairs of digits have.
-/
import Derived.Test.YtikifojhjbcfhaaRows
import Derived.Test.YtikifojhjbcfhaaSpotsF1
import Derived.Test.YtikifojhjbcfhaaVc3
import Derived.Test.YtikifojhjbcfhaaSpotsF2
namespace Go.Proofs.Ytikifojhjbcfhaa
open Go.ChangeShapes Go.WideShapes Go.ChangeAt Go.RowKit Go.Vc
theorem Try.own : ownKnob Try.prog.godebug = none := by kernel_rfl
theorem Try.laidOut : laidOutB Try.prog = true := by kernel_rfl
set_option maxRecDepth 100000 in
theorem serialSpots_lifted (os : Os) (started : os.Started) (H : Type) (enc : TypeId × Value → H) :
    ReturnsInHanded {} Try.checked os 11 .any (Rows.serialSpotsSpec.pre6 enc Try.prog Try.f11 Rows.serialSpotsRow.domain false) (Rows.serialSpotsSpec.post enc Try.prog Try.f11 false true false false) :=
  law_lifted (C := Try.checked) Try.own started (by kernel_rfl) Try.func11
    (ChangeSpec.witness6 (enc := enc) (C := Try.checked) false ⟨#[], #[.agg #[.int .u8 0, .int .u8 0, .int .u8 0, .int .u8 0, .int .u8 0, .int .u8 0, .int .u8 0, .int .u8 0, .int .u8 0, .int .u8 0, .int .u8 0, .int .u8 0, .int .u8 0, .int .u8 0, .int .u8 0, .int .u8 0, .int .u8 0]], []⟩ 8 (by kernel_rfl) (by kernel_rfl) (by kernel_rfl) (by kernel_rfl))
    [tPlate] P11 Try.laidOut (by kernel_rfl) rfl rfl (by kernel_rfl)
    (fun ds h => match ds, h with | [_], _ => rfl)
    (fun xs h => by
      simp only [Ty.hasAll] at h
      obtain ⟨x0, r0, rfl, h0, rfl⟩ := h
      obtain ⟨a, rfl, pa⟩ := Plate.ofD h0
      exact ⟨2000, a, true, rfl, f11_true (N := 0) pa, rfl⟩)
theorem serialSpots_holds : Rows.SerialSpotsSaid :=
  OpenClaim.holds_of_wide 11 Try.f11 rfl rfl rfl rfl rfl rfl rfl ⟨rfl, rfl, rfl, rfl, rfl⟩ rfl rfl rfl rfl rfl (by kernel_rfl) Try.func11 (by kernel_rfl)
    (of_decide_eq_true (by kernel_rfl)) (by unfold Func.isWrapper; first | (rw [if_pos (by decide +kernel)]; kernel_rfl) | (rw [if_neg (by decide +kernel)]; exact ⟨rfl, rfl⟩))
    (fun os started H enc _ => serialSpots_lifted os started H enc)
#print axioms serialSpots_holds
end Go.Proofs.Ytikifojhjbcfhaa
