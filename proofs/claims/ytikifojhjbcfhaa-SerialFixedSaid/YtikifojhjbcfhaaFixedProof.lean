/-
  The law SerialFixed returns true, whatever the input: a wrong code has one fix for each index; a lost digit is restored.
-/
import Derived.Test.YtikifojhjbcfhaaRows
import Derived.Test.YtikifojhjbcfhaaFixedF1
import Derived.Test.YtikifojhjbcfhaaVc3
namespace Go.Proofs.Ytikifojhjbcfhaa
open Go.ChangeShapes Go.WideShapes Go.ChangeAt Go.RowKit Go.Vc
theorem Try.own : ownKnob Try.prog.godebug = none := by kernel_rfl
theorem Try.laidOut : laidOutB Try.prog = true := by kernel_rfl
set_option maxRecDepth 100000 in
theorem serialFixed_lifted (os : Os) (started : os.Started) (H : Type) (enc : TypeId × Value → H) :
    ReturnsInHanded {} Try.checked os 7 .any (Rows.serialFixedSpec.pre6 enc Try.prog Try.f7 Rows.serialFixedRow.domain false) (Rows.serialFixedSpec.post enc Try.prog Try.f7 false true false false) :=
  law_lifted (C := Try.checked) Try.own started (by kernel_rfl) Try.func7
    (ChangeSpec.witness6 (enc := enc) (C := Try.checked) false ⟨#[], #[.agg #[.int .u8 0, .int .u8 0, .int .u8 0, .int .u8 0, .int .u8 0, .int .u8 0, .int .u8 0, .int .u8 0, .int .u8 0, .int .u8 0, .int .u8 0, .int .u8 0, .int .u8 0, .int .u8 0, .int .u8 0, .int .u8 0, .int .u8 0], .slice none 0 0, .int .u8 0], []⟩ 8 (by kernel_rfl) (by kernel_rfl) (by kernel_rfl) (by kernel_rfl))
    [tPlate, tBytes, tB] P7 Try.laidOut (by kernel_rfl) rfl rfl (by kernel_rfl)
    (fun ds h => match ds, h with | [_, _, _], _ => rfl)
    (fun xs h => by
      simp only [Ty.hasAll] at h
      obtain ⟨x0, r0, rfl, h0, x1, r1, rfl, h1, x2, r2, rfl, h2, rfl⟩ := h
      obtain ⟨a, rfl, pa⟩ := Plate.ofD h0
      obtain ⟨b, rfl, pb⟩ := bytes_ofD h1
      obtain ⟨c, rfl, pc⟩ := tB_ofD h2
      exact ⟨2000, a, b, c, true, rfl, f7_true (N := 0) pa (fun x hx => (pb x hx).1) pc.1, rfl⟩)
theorem serialFixed_holds : Rows.SerialFixedSaid :=
  OpenClaim.holds_of_wide 7 Try.f7 rfl rfl rfl rfl rfl rfl rfl ⟨rfl, rfl, rfl, rfl, rfl⟩ rfl rfl rfl rfl rfl (by kernel_rfl) Try.func7 (by kernel_rfl)
    (of_decide_eq_true (by kernel_rfl)) (by unfold Func.isWrapper; first | (rw [if_pos (by decide +kernel)]; kernel_rfl) | (rw [if_neg (by decide +kernel)]; exact ⟨rfl, rfl⟩))
    (fun os started H enc _ => serialFixed_lifted os started H enc)
#print axioms serialFixed_holds
end Go.Proofs.Ytikifojhjbcfhaa
