/-
  The law RepeatRingCount returns true, whatever the input: as many rings are counted as there are: all borders are turned to their first forms.
-/
import Derived.Test.YtnbefdolkolaiaaRows
import Derived.Test.YtnbefdolkolaiaaRRcF1
import Derived.Test.YtnbefdolkolaiaaVc3
namespace Go.Proofs.Ytnbefdolkolaiaa
open Go.ChangeShapes Go.WideShapes Go.ChangeAt Go.RowKit Go.Vc
theorem Try.own : ownKnob Try.prog.godebug = none := by kernel_rfl
theorem Try.laidOut : laidOutB Try.prog = true := by kernel_rfl
set_option maxRecDepth 100000 in
theorem repeatRingCount_lifted (os : Os) (started : os.Started) (H : Type) (enc : TypeId × Value → H) :
    ReturnsInHanded {} Try.checked os 12 .any (Rows.repeatRingCountSpec.pre6 enc Try.prog Try.f12 Rows.repeatRingCountRow.domain false) (Rows.repeatRingCountSpec.post enc Try.prog Try.f12 false true false false) :=
  law_lifted (C := Try.checked) Try.own started (by kernel_rfl) Try.func12
    (ChangeSpec.witness6 (enc := enc) (C := Try.checked) false ⟨#[], #[.agg #[.int .u8 0, .int .u8 0]], []⟩ 8 (by kernel_rfl) (by kernel_rfl) (by kernel_rfl) (by kernel_rfl))
    [tA2] P12 Try.laidOut (by kernel_rfl) rfl rfl (by kernel_rfl)
    (fun ds h => match ds, h with | [_], _ => rfl)
    (fun xs h => by
      simp only [Ty.hasAll] at h
      obtain ⟨x0, r0, rfl, h0, rfl⟩ := h
      obtain ⟨a, rfl, pa⟩ := A2_ofD h0
      exact ⟨3000, a, true, rfl, f12_true a pa.1 pa.2, rfl⟩)
theorem repeatRingCount_holds : Rows.RepeatRingCountSaid :=
  OpenClaim.holds_of_wide 12 Try.f12 rfl rfl rfl rfl rfl rfl rfl ⟨rfl, rfl, rfl, rfl, rfl⟩ rfl rfl rfl rfl rfl (by kernel_rfl) Try.func12 (by kernel_rfl)
    (of_decide_eq_true (by kernel_rfl)) (by unfold Func.isWrapper; first | (rw [if_pos (by decide +kernel)]; kernel_rfl) | (rw [if_neg (by decide +kernel)]; exact ⟨rfl, rfl⟩))
    (fun os started H enc _ => repeatRingCount_lifted os started H enc)
#print axioms repeatRingCount_holds
end Go.Proofs.Ytnbefdolkolaiaa
