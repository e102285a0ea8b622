/-
  The law CutApart returns true, whatever the input: a layout can be cut just if some lines separate all labels.
-/
import Derived.Test.YtifcnocpjdmaiaaRows
import Derived.Test.YtifcnocpjdmaiaaApartF2
import Derived.Test.YtifcnocpjdmaiaaVc2
import Derived.Test.YtifcnocpjdmaiaaApartF3
namespace Go.Proofs.Ytifcnocpjdmaiaa
open Go.ChangeShapes Go.WideShapes Go.ChangeAt Go.RowKit Go.Vc
theorem Try.own : ownKnob Try.prog.godebug = none := by kernel_rfl
theorem Try.laidOut : laidOutB Try.prog = true := by kernel_rfl
theorem works_true (n : Nat) : f13 (n + 31) = some true := (f13_any n).trans (by kernel_rfl)
set_option maxRecDepth 100000 in
theorem cutApart_lifted (os : Os) (started : os.Started) (H : Type) (enc : TypeId × Value → H) :
    ReturnsInHanded {} Try.checked os 6 .any (Rows.cutApartSpec.pre6 enc Try.prog Try.f6 Rows.cutApartRow.domain false) (Rows.cutApartSpec.post enc Try.prog Try.f6 false true false false) :=
  law_lifted (C := Try.checked) Try.own started (by kernel_rfl) Try.func6
    (ChangeSpec.witness6 (enc := enc) (C := Try.checked) false ⟨#[], #[.agg #[.int .u8 0, .int .u8 0, .slice none 0 0]], []⟩ 8 (by kernel_rfl) (by kernel_rfl) (by kernel_rfl) (by kernel_rfl))
    [tPage] P6 Try.laidOut (by kernel_rfl) rfl rfl (by kernel_rfl)
    (fun ds h => match ds, h with | [_], _ => rfl)
    (fun xs h => by
      simp only [Ty.hasAll] at h
      obtain ⟨x, r, rfl, h1, rfl⟩ := h
      obtain ⟨a, rfl, pa⟩ := Page.of h1
      exact ⟨a.Labels.length + 101 + 31, a, true, rfl, f6_true a pa _ (by omega) (works_true _), rfl⟩)
theorem cutApart_holds : Rows.CutApartSaid :=
  OpenClaim.holds_of_wide 6 Try.f6 rfl rfl rfl rfl rfl rfl rfl ⟨rfl, rfl, rfl, rfl, rfl⟩ rfl rfl rfl rfl rfl (by kernel_rfl) Try.func6 (by kernel_rfl)
    (of_decide_eq_true (by kernel_rfl)) (by unfold Func.isWrapper; first | (rw [if_pos (by decide +kernel)]; kernel_rfl) | (rw [if_neg (by decide +kernel)]; exact ⟨rfl, rfl⟩))
    (fun os started H enc _ => cutApart_lifted os started H enc)
#print axioms cutApart_holds
end Go.Proofs.Ytifcnocpjdmaiaa
