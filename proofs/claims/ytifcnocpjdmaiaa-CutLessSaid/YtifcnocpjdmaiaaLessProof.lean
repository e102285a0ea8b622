/-
  The law CutLess returns true, whatever the input: with labels left out or made smaller, mirrored and turned.
-/
import Derived.Test.YtifcnocpjdmaiaaRows
import Derived.Test.YtifcnocpjdmaiaaLessF2
import Derived.Test.YtifcnocpjdmaiaaVc2
import Derived.Test.YtifcnocpjdmaiaaLessF3
namespace Go.Proofs.Ytifcnocpjdmaiaa
open Go.ChangeShapes Go.WideShapes Go.ChangeAt Go.RowKit Go.Vc
theorem Try.own : ownKnob Try.prog.godebug = none := by kernel_rfl
theorem Try.laidOut : laidOutB Try.prog = true := by kernel_rfl
theorem works_true (n : Nat) : f13 (n + 31) = some true := (f13_any n).trans (by kernel_rfl)
set_option maxRecDepth 100000 in
theorem cutLess_lifted (os : Os) (started : os.Started) (H : Type) (enc : TypeId × Value → H) :
    ReturnsInHanded {} Try.checked os 9 .any (Rows.cutLessSpec.pre6 enc Try.prog Try.f9 Rows.cutLessRow.domain false) (Rows.cutLessSpec.post enc Try.prog Try.f9 false true false false) :=
  law_lifted (C := Try.checked) Try.own started (by kernel_rfl) Try.func9
    (ChangeSpec.witness6 (enc := enc) (C := Try.checked) false ⟨#[], #[.agg #[.int .u8 0, .int .u8 0, .slice none 0 0], .int .u8 0, .agg #[.int .u8 0, .int .u8 0, .int .u8 0, .int .u8 0]], []⟩ 8 (by kernel_rfl) (by kernel_rfl) (by kernel_rfl) (by kernel_rfl))
    [tPage, tB, t4] P9 Try.laidOut (by kernel_rfl) rfl rfl (by kernel_rfl)
    (fun ds h => match ds, h with | [_, _, _], _ => rfl)
    (fun xs h => by
      simp only [Ty.hasAll] at h
      obtain ⟨x, r, rfl, h1, y, r2, rfl, h2, z, r3, rfl, h3, rfl⟩ := h
      obtain ⟨a, rfl, pa⟩ := Page.of h1
      obtain ⟨b, rfl, pb⟩ := byte_of h2
      obtain ⟨c, rfl, pc⟩ := A4.ofD h3
      exact ⟨a.Labels.length + 101 + 31, a, b, c, true, rfl, f9_true a pa b c pc _ (by omega) (works_true _), rfl⟩)
theorem cutLess_holds : Rows.CutLessSaid :=
  OpenClaim.holds_of_wide 9 Try.f9 rfl rfl rfl rfl rfl rfl rfl ⟨rfl, rfl, rfl, rfl, rfl⟩ rfl rfl rfl rfl rfl (by kernel_rfl) Try.func9 (by kernel_rfl)
    (of_decide_eq_true (by kernel_rfl)) (by unfold Func.isWrapper; first | (rw [if_pos (by decide +kernel)]; kernel_rfl) | (rw [if_neg (by decide +kernel)]; exact ⟨rfl, rfl⟩))
    (fun os started H enc _ => cutLess_lifted os started H enc)
#print axioms cutLess_holds
end Go.Proofs.Ytifcnocpjdmaiaa
