/-
  The law SerialNoticed returns true, whatever the input: in all right codes each wrong digit is noticed, and exchanged neighbours are not just at blind spots, changed twins not just at twins.
-/
import Derived.Test.YtikifojhjbcfhaaRows
import Derived.Test.YtikifojhjbcfhaaNoticedF1
import Derived.Test.YtikifojhjbcfhaaVc3
import Derived.Test.YtikifojhjbcfhaaNoticedF2
namespace Go.Proofs.Ytikifojhjbcfhaa
open Go.ChangeShapes Go.WideShapes Go.ChangeAt Go.RowKit Go.Vc
theorem Try.own : ownKnob Try.prog.godebug = none := by kernel_rfl
theorem Try.laidOut : laidOutB Try.prog = true := by kernel_rfl
set_option maxRecDepth 100000 in
theorem serialNoticed_lifted (os : Os) (started : os.Started) (H : Type) (enc : TypeId × Value → H) :
    ReturnsInHanded {} Try.checked os 10 .any (Rows.serialNoticedSpec.pre6 enc Try.prog Try.f10 Rows.serialNoticedRow.domain false) (Rows.serialNoticedSpec.post enc Try.prog Try.f10 false true false false) :=
  law_lifted (C := Try.checked) Try.own started (by kernel_rfl) Try.func10
    (ChangeSpec.witness6 (enc := enc) (C := Try.checked) false ⟨#[], #[.agg #[.int .u8 0, .int .u8 0, .int .u8 0, .int .u8 0, .int .u8 0, .int .u8 0, .int .u8 0, .int .u8 0, .int .u8 0, .int .u8 0, .int .u8 0, .int .u8 0, .int .u8 0, .int .u8 0, .int .u8 0, .int .u8 0, .int .u8 0], .int .u8 0], []⟩ 8 (by kernel_rfl) (by kernel_rfl) (by kernel_rfl) (by kernel_rfl))
    [tPlate, tB] P10 Try.laidOut (by kernel_rfl) rfl rfl (by kernel_rfl)
    (fun ds h => match ds, h with | [_, _], _ => rfl)
    (fun xs h => by
      simp only [Ty.hasAll] at h
      obtain ⟨x0, r0, rfl, h0, x1, r1, rfl, h1, rfl⟩ := h
      obtain ⟨a, rfl, pa⟩ := Plate.ofD h0
      obtain ⟨b, rfl, pb⟩ := tB_ofD h1
      exact ⟨2000, a, b, true, rfl, f10_true (N := 0) pa pb, rfl⟩)
theorem serialNoticed_holds : Rows.SerialNoticedSaid :=
  OpenClaim.holds_of_wide 10 Try.f10 rfl rfl rfl rfl rfl rfl rfl ⟨rfl, rfl, rfl, rfl, rfl⟩ rfl rfl rfl rfl rfl (by kernel_rfl) Try.func10 (by kernel_rfl)
    (of_decide_eq_true (by kernel_rfl)) (by unfold Func.isWrapper; first | (rw [if_pos (by decide +kernel)]; kernel_rfl) | (rw [if_neg (by decide +kernel)]; exact ⟨rfl, rfl⟩))
    (fun os started H enc _ => serialNoticed_lifted os started H enc)
#print axioms serialNoticed_holds
end Go.Proofs.Ytikifojhjbcfhaa
