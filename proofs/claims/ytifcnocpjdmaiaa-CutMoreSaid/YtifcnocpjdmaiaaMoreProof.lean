/-
  The law CutMore returns true, whatever the input: a greater sheet, greater values and more kinds are not worth less.
-/
import Derived.Test.YtifcnocpjdmaiaaRows
import Derived.Test.YtifcnocpjdmaiaaMoreF2
import Derived.Test.YtifcnocpjdmaiaaVc2
import Derived.Test.YtifcnocpjdmaiaaMoreF3
namespace Go.Proofs.Ytifcnocpjdmaiaa
open Go.ChangeShapes Go.WideShapes Go.ChangeAt Go.RowKit Go.Vc
theorem Try.own : ownKnob Try.prog.godebug = none := by kernel_rfl
theorem Try.laidOut : laidOutB Try.prog = true := by kernel_rfl
theorem works_true (n : Nat) : f13 (n + 31) = some true := (f13_any n).trans (by kernel_rfl)
set_option maxRecDepth 100000 in
theorem cutMore_lifted (os : Os) (started : os.Started) (H : Type) (enc : TypeId × Value → H) :
    ReturnsInHanded {} Try.checked os 11 .any (Rows.cutMoreSpec.pre6 enc Try.prog Try.f11 Rows.cutMoreRow.domain false) (Rows.cutMoreSpec.post enc Try.prog Try.f11 false true false false) :=
  law_lifted (C := Try.checked) Try.own started (by kernel_rfl) Try.func11
    (ChangeSpec.witness6 (enc := enc) (C := Try.checked) false ⟨#[], #[.slice none 0 0, .agg #[.int .u8 0, .int .u8 0, .int .u8 0], .agg #[.int .u8 0, .int .u8 0], .int .u8 0], []⟩ 8 (by kernel_rfl) (by kernel_rfl) (by kernel_rfl) (by kernel_rfl))
    [.slice t3 true 3, t3, t2, tB] P11 Try.laidOut (by kernel_rfl) rfl rfl (by kernel_rfl)
    (fun ds h => match ds, h with | [_, _, _, _], _ => rfl)
    (fun xs h => by
      simp only [Ty.hasAll] at h
      obtain ⟨x, r, rfl, h1, y, r2, rfl, h2, z, r3, rfl, h3, t, r4, rfl, h4, rfl⟩ := h
      obtain ⟨a, rfl, pa⟩ := A3.list h1
      obtain ⟨b, rfl, pb⟩ := A3.ofD h2
      obtain ⟨c, rfl, pc⟩ := A2.ofD h3
      obtain ⟨d, rfl, pd⟩ := byte_of h4
      exact ⟨101 + 31, a, b, c, d, true, rfl, f11_true a pa b pb c pc d pd _ (by omega) (works_true _), rfl⟩)
theorem cutMore_holds : Rows.CutMoreSaid :=
  OpenClaim.holds_of_wide 11 Try.f11 rfl rfl rfl rfl rfl rfl rfl ⟨rfl, rfl, rfl, rfl, rfl⟩ rfl rfl rfl rfl rfl (by kernel_rfl) Try.func11 (by kernel_rfl)
    (of_decide_eq_true (by kernel_rfl)) (by unfold Func.isWrapper; first | (rw [if_pos (by decide +kernel)]; kernel_rfl) | (rw [if_neg (by decide +kernel)]; exact ⟨rfl, rfl⟩))
    (fun os started H enc _ => cutMore_lifted os started H enc)
#print axioms cutMore_holds
end Go.Proofs.Ytifcnocpjdmaiaa
