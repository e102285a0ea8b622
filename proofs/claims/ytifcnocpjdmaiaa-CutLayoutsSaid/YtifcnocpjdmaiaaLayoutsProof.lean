/-
  The law CutLayouts returns true, whatever the input: checks, cuts and worths of both programs are computed alike.
-/
import Derived.Test.YtifcnocpjdmaiaaRows
import Derived.Test.YtifcnocpjdmaiaaLayoutsF3
import Derived.Test.YtifcnocpjdmaiaaVc2
namespace Go.Proofs.Ytifcnocpjdmaiaa
open Go.ChangeShapes Go.WideShapes Go.ChangeAt Go.RowKit Go.Vc
theorem Try.own : ownKnob Try.prog.godebug = none := by kernel_rfl
theorem Try.laidOut : laidOutB Try.prog = true := by kernel_rfl
theorem works_true : f13 40 = some true := by kernel_rfl
set_option maxRecDepth 100000 in
theorem cutLayouts_lifted (os : Os) (started : os.Started) (H : Type) (enc : TypeId × Value → H) :
    ReturnsInHanded {} Try.checked os 3 .any (Rows.cutLayoutsSpec.pre6 enc Try.prog Try.f3 Rows.cutLayoutsRow.domain false) (Rows.cutLayoutsSpec.post enc Try.prog Try.f3 false true false false) :=
  law_lifted (C := Try.checked) Try.own started (by kernel_rfl) Try.func3
    (ChangeSpec.witness6 (enc := enc) (C := Try.checked) false ⟨#[], #[.agg #[.int .i64 0, .int .i64 0, .slice none 0 0], .slice none 0 0], []⟩ 8 (by kernel_rfl) (by kernel_rfl) (by kernel_rfl) (by kernel_rfl))
    [tLayout, tKinds] P3 Try.laidOut (by kernel_rfl) rfl rfl (by kernel_rfl)
    (fun ds h => match ds, h with | [_, _], _ => rfl)
    (fun xs h => by
      simp only [Ty.hasAll] at h
      obtain ⟨x, r, rfl, h1, y, r2, rfl, h2, rfl⟩ := h
      obtain ⟨a, rfl⟩ := Layout.of h1
      obtain ⟨b, rfl⟩ := kinds_of h2
      exact ⟨40, a, b, true, rfl, f3_true a b works_true, rfl⟩)
theorem cutLayouts_holds : Rows.CutLayoutsSaid :=
  OpenClaim.holds_of_wide 3 Try.f3 rfl rfl rfl rfl rfl rfl rfl ⟨rfl, rfl, rfl, rfl, rfl⟩ rfl rfl rfl rfl rfl (by kernel_rfl) Try.func3 (by kernel_rfl)
    (of_decide_eq_true (by kernel_rfl)) (by unfold Func.isWrapper; first | (rw [if_pos (by decide +kernel)]; kernel_rfl) | (rw [if_neg (by decide +kernel)]; exact ⟨rfl, rfl⟩))
    (fun os started H enc _ => cutLayouts_lifted os started H enc)
#print axioms cutLayouts_holds
end Go.Proofs.Ytifcnocpjdmaiaa
