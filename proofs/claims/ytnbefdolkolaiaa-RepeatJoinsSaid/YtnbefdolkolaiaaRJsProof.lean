/-
  The law RepeatJoins returns true, whatever the input: the smallest of the shortest joint rows is as stated.
-/
import Derived.Test.YtnbefdolkolaiaaRows
import Derived.Test.YtnbefdolkolaiaaRJsF1
import Derived.Test.YtnbefdolkolaiaaVc3
namespace Go.Proofs.Ytnbefdolkolaiaa
open Go.ChangeShapes Go.WideShapes Go.ChangeAt Go.RowKit Go.Vc
theorem Try.own : ownKnob Try.prog.godebug = none := by kernel_rfl
theorem Try.laidOut : laidOutB Try.prog = true := by kernel_rfl
set_option maxRecDepth 100000 in
theorem repeatJoins_lifted (os : Os) (started : os.Started) (H : Type) (enc : TypeId × Value → H) :
    ReturnsInHanded {} Try.checked os 6 .any (Rows.repeatJoinsSpec.pre6 enc Try.prog Try.f6 Rows.repeatJoinsRow.domain false) (Rows.repeatJoinsSpec.post enc Try.prog Try.f6 false true false false) :=
  law_lifted (C := Try.checked) Try.own started (by kernel_rfl) Try.func6
    (ChangeSpec.witness6 (enc := enc) (C := Try.checked) false ⟨#[], #[.slice none 0 0], []⟩ 8 (by kernel_rfl) (by kernel_rfl) (by kernel_rfl) (by kernel_rfl))
    [tStrs] P6 Try.laidOut (by kernel_rfl) rfl rfl (by kernel_rfl)
    (fun ds h => match ds, h with | [_], _ => rfl)
    (fun xs h => by
      simp only [Ty.hasAll] at h
      obtain ⟨x0, r0, rfl, h0, rfl⟩ := h
      obtain ⟨a, rfl⟩ := strs_ofD h0
      exact ⟨200, a, true, rfl, f6_true a, rfl⟩)
theorem repeatJoins_holds : Rows.RepeatJoinsSaid :=
  OpenClaim.holds_of_wide 6 Try.f6 rfl rfl rfl rfl rfl rfl rfl ⟨rfl, rfl, rfl, rfl, rfl⟩ rfl rfl rfl rfl rfl (by kernel_rfl) Try.func6 (by kernel_rfl)
    (of_decide_eq_true (by kernel_rfl)) (by unfold Func.isWrapper; first | (rw [if_pos (by decide +kernel)]; kernel_rfl) | (rw [if_neg (by decide +kernel)]; exact ⟨rfl, rfl⟩))
    (fun os started H enc _ => repeatJoins_lifted os started H enc)
#print axioms repeatJoins_holds
end Go.Proofs.Ytnbefdolkolaiaa
