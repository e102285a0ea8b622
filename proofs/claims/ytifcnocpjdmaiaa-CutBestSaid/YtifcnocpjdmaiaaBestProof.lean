/-
  The law CutBest returns true, whatever the input: the tables of best worths agree, and the layout that is returned can be cut and is worth as much.
-/
import Derived.Test.YtifcnocpjdmaiaaRows
import Derived.Test.YtifcnocpjdmaiaaBestF3
import Derived.Test.YtifcnocpjdmaiaaVc2
namespace Go.Proofs.Ytifcnocpjdmaiaa
open Go.ChangeShapes Go.WideShapes Go.ChangeAt Go.RowKit Go.Vc
theorem Try.own : ownKnob Try.prog.godebug = none := by kernel_rfl
theorem Try.laidOut : laidOutB Try.prog = true := by kernel_rfl
theorem works_true : f13 61 = some true := by kernel_rfl
set_option maxRecDepth 100000 in
theorem cutBest_lifted (os : Os) (started : os.Started) (H : Type) (enc : TypeId × Value → H) :
    ReturnsInHanded {} Try.checked os 5 .any (Rows.cutBestSpec.pre6 enc Try.prog Try.f5 Rows.cutBestRow.domain false) (Rows.cutBestSpec.post enc Try.prog Try.f5 false true false false) :=
  law_lifted (C := Try.checked) Try.own started (by kernel_rfl) Try.func5
    (ChangeSpec.witness6 (enc := enc) (C := Try.checked) false ⟨#[], #[.int .i64 0, .int .i64 0, .slice none 0 0], []⟩ 8 (by kernel_rfl) (by kernel_rfl) (by kernel_rfl) (by kernel_rfl))
    [tI, tI, tKinds] P5 Try.laidOut (by kernel_rfl) rfl rfl (by kernel_rfl)
    (fun ds h => match ds, h with | [_, _, _], _ => rfl)
    (fun xs h => by
      simp only [Ty.hasAll] at h
      obtain ⟨x, r, rfl, h1, y, r2, rfl, h2, z, r3, rfl, h3, rfl⟩ := h
      obtain ⟨a, rfl, _⟩ := int_of h1
      obtain ⟨b, rfl, _⟩ := int_of h2
      obtain ⟨c, rfl⟩ := kinds_of h3
      exact ⟨61, a, b, c, true, rfl, f5_true a b c works_true, rfl⟩)
theorem cutBest_holds : Rows.CutBestSaid :=
  OpenClaim.holds_of_wide 5 Try.f5 rfl rfl rfl rfl rfl rfl rfl ⟨rfl, rfl, rfl, rfl, rfl⟩ rfl rfl rfl rfl rfl (by kernel_rfl) Try.func5 (by kernel_rfl)
    (of_decide_eq_true (by kernel_rfl)) (by unfold Func.isWrapper; first | (rw [if_pos (by decide +kernel)]; kernel_rfl) | (rw [if_neg (by decide +kernel)]; exact ⟨rfl, rfl⟩))
    (fun os started H enc _ => cutBest_lifted os started H enc)
#print axioms cutBest_holds
end Go.Proofs.Ytifcnocpjdmaiaa
