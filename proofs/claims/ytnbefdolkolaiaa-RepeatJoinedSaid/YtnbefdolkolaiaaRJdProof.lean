/-
  The law RepeatJoined returns true, whatever the input: a joint row has each border as a piece, and no shorter row has.
-/
import Derived.Test.YtnbefdolkolaiaaRows
import Derived.Test.YtnbefdolkolaiaaRJdF1
import Derived.Test.YtnbefdolkolaiaaVc3
namespace Go.Proofs.Ytnbefdolkolaiaa
open Go.ChangeShapes Go.WideShapes Go.ChangeAt Go.RowKit Go.Vc
theorem Try.own : ownKnob Try.prog.godebug = none := by kernel_rfl
theorem Try.laidOut : laidOutB Try.prog = true := by kernel_rfl
set_option maxRecDepth 100000 in
theorem repeatJoined_lifted (os : Os) (started : os.Started) (H : Type) (enc : TypeId × Value → H) :
    ReturnsInHanded {} Try.checked os 13 .any (Rows.repeatJoinedSpec.pre6 enc Try.prog Try.f13 Rows.repeatJoinedRow.domain false) (Rows.repeatJoinedSpec.post enc Try.prog Try.f13 false true false false) :=
  law_lifted (C := Try.checked) Try.own started (by kernel_rfl) Try.func13
    (ChangeSpec.witness6 (enc := enc) (C := Try.checked) false ⟨#[], #[.slice none 0 0, .int .u8 0], []⟩ 8 (by kernel_rfl) (by kernel_rfl) (by kernel_rfl) (by kernel_rfl))
    [tWalls, tB] P13 Try.laidOut (by kernel_rfl) rfl rfl (by kernel_rfl)
    (fun ds h => match ds, h with | [_, _], _ => rfl)
    (fun xs h => by
      simp only [Ty.hasAll] at h
      obtain ⟨x0, r0, rfl, h0, x1, r1, rfl, h1, rfl⟩ := h
      obtain ⟨a, rfl, pa⟩ := walls_ofD h0
      obtain ⟨b, rfl, pb⟩ := tB_ofD h1
      exact ⟨300, a, b, true, rfl, f13_true a b (fun w hw x hx => (pa w hw x hx).1) pb.1, rfl⟩)
theorem repeatJoined_holds : Rows.RepeatJoinedSaid :=
  OpenClaim.holds_of_wide 13 Try.f13 rfl rfl rfl rfl rfl rfl rfl ⟨rfl, rfl, rfl, rfl, rfl⟩ rfl rfl rfl rfl rfl (by kernel_rfl) Try.func13 (by kernel_rfl)
    (of_decide_eq_true (by kernel_rfl)) (by unfold Func.isWrapper; first | (rw [if_pos (by decide +kernel)]; kernel_rfl) | (rw [if_neg (by decide +kernel)]; exact ⟨rfl, rfl⟩))
    (fun os started H enc _ => repeatJoined_lifted os started H enc)
#print axioms repeatJoined_holds
end Go.Proofs.Ytnbefdolkolaiaa
