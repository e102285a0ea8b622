/-
  The law CutPlans returns true, whatever the input: plans, blocked pieces and the acceptance of plans agree with the document.
-/
import Derived.Test.YtifcnocpjdmaiaaRows
import Derived.Test.YtifcnocpjdmaiaaPlansF3
import Derived.Test.YtifcnocpjdmaiaaVc2
import Derived.Test.YtifcnocpjdmaiaaPlansF4
namespace Go.Proofs.Ytifcnocpjdmaiaa
open Go.ChangeShapes Go.WideShapes Go.ChangeAt Go.RowKit Go.Vc
theorem Try.own : ownKnob Try.prog.godebug = none := by kernel_rfl
theorem Try.laidOut : laidOutB Try.prog = true := by kernel_rfl
theorem works_true : f13 61 = some true := by kernel_rfl
set_option maxRecDepth 100000 in
theorem cutPlans_lifted (os : Os) (started : os.Started) (H : Type) (enc : TypeId × Value → H) :
    ReturnsInHanded {} Try.checked os 4 .any (Rows.cutPlansSpec.pre6 enc Try.prog Try.f4 Rows.cutPlansRow.domain false) (Rows.cutPlansSpec.post enc Try.prog Try.f4 false true false false) :=
  law_lifted (C := Try.checked) Try.own started (by kernel_rfl) Try.func4
    (ChangeSpec.witness6 (enc := enc) (C := Try.checked) false ⟨#[], #[.agg #[.int .i64 0, .int .i64 0, .slice none 0 0], .slice none 0 0], []⟩ 8 (by kernel_rfl) (by kernel_rfl) (by kernel_rfl) (by kernel_rfl))
    [tLayout, tCuts] P4 Try.laidOut (by kernel_rfl) rfl rfl (by kernel_rfl)
    (fun ds h => match ds, h with | [_, _], _ => rfl)
    (fun xs h => by
      simp only [Ty.hasAll] at h
      obtain ⟨x, r, rfl, h1, y, r2, rfl, h2, rfl⟩ := h
      obtain ⟨a, rfl⟩ := Layout.of h1
      obtain ⟨b, rfl⟩ := cuts_of h2
      exact ⟨61, a, b, true, rfl, f4_true a b works_true, rfl⟩)
theorem cutPlans_holds : Rows.CutPlansSaid :=
  OpenClaim.holds_of_wide 4 Try.f4 rfl rfl rfl rfl rfl rfl rfl ⟨rfl, rfl, rfl, rfl, rfl⟩ rfl rfl rfl rfl rfl (by kernel_rfl) Try.func4 (by kernel_rfl)
    (of_decide_eq_true (by kernel_rfl)) (by unfold Func.isWrapper; first | (rw [if_pos (by decide +kernel)]; kernel_rfl) | (rw [if_neg (by decide +kernel)]; exact ⟨rfl, rfl⟩))
    (fun os started H enc _ => cutPlans_lifted os started H enc)
#print axioms cutPlans_holds
end Go.Proofs.Ytifcnocpjdmaiaa
