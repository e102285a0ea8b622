/-
  The law SerialLines returns true, whatever the input: computed tables have blind spots and twins just by common divisors.
-/
import Derived.Test.YtikifojhjbcfhaaRows
import Derived.Test.YtikifojhjbcfhaaLinesF1
import Derived.Test.YtikifojhjbcfhaaVc3
import Derived.Test.YtikifojhjbcfhaaLinesF2
namespace Go.Proofs.Ytikifojhjbcfhaa
open Go.ChangeShapes Go.WideShapes Go.ChangeAt Go.RowKit Go.Vc
theorem Try.own : ownKnob Try.prog.godebug = none := by kernel_rfl
theorem Try.laidOut : laidOutB Try.prog = true := by kernel_rfl
set_option maxRecDepth 100000 in
theorem serialLines_lifted (os : Os) (started : os.Started) (H : Type) (enc : TypeId × Value → H) :
    ReturnsInHanded {} Try.checked os 12 .any (Rows.serialLinesSpec.pre6 enc Try.prog Try.f12 Rows.serialLinesRow.domain false) (Rows.serialLinesSpec.post enc Try.prog Try.f12 false true false false) :=
  law_lifted (C := Try.checked) Try.own started (by kernel_rfl) Try.func12
    (ChangeSpec.witness6 (enc := enc) (C := Try.checked) false ⟨#[], #[.int .u8 0, .int .u8 0], []⟩ 8 (by kernel_rfl) (by kernel_rfl) (by kernel_rfl) (by kernel_rfl))
    [tB, tB] P12 Try.laidOut (by kernel_rfl) rfl rfl (by kernel_rfl)
    (fun ds h => match ds, h with | [_, _], _ => rfl)
    (fun xs h => by
      simp only [Ty.hasAll] at h
      obtain ⟨x0, r0, rfl, h0, x1, r1, rfl, h1, rfl⟩ := h
      obtain ⟨a, rfl, pa⟩ := tB_ofD h0
      obtain ⟨b, rfl, pb⟩ := tB_ofD h1
      exact ⟨2000, a, b, true, rfl, f12_true (N := 0) pa pb, rfl⟩)
theorem serialLines_holds : Rows.SerialLinesSaid :=
  OpenClaim.holds_of_wide 12 Try.f12 rfl rfl rfl rfl rfl rfl rfl ⟨rfl, rfl, rfl, rfl, rfl⟩ rfl rfl rfl rfl rfl (by kernel_rfl) Try.func12 (by kernel_rfl)
    (of_decide_eq_true (by kernel_rfl)) (by unfold Func.isWrapper; first | (rw [if_pos (by decide +kernel)]; kernel_rfl) | (rw [if_neg (by decide +kernel)]; exact ⟨rfl, rfl⟩))
    (fun os started H enc _ => serialLines_lifted os started H enc)
#print axioms serialLines_holds
end Go.Proofs.Ytikifojhjbcfhaa
