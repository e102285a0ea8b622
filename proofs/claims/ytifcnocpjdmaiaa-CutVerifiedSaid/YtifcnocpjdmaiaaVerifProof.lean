/-
  The law CutVerified returns true, whatever the input: a list of cuts is accepted just if it separates all labels.
-/
import Derived.Test.YtifcnocpjdmaiaaRows
import Derived.Test.YtifcnocpjdmaiaaVerifF2
import Derived.Test.YtifcnocpjdmaiaaVc2
import Derived.Test.YtifcnocpjdmaiaaVerifF3
namespace Go.Proofs.Ytifcnocpjdmaiaa
open Go.ChangeShapes Go.WideShapes Go.ChangeAt Go.RowKit Go.Vc
theorem Try.own : ownKnob Try.prog.godebug = none := by kernel_rfl
theorem Try.laidOut : laidOutB Try.prog = true := by kernel_rfl
theorem works_true (n : Nat) : f13 (n + 31) = some true := (f13_any n).trans (by kernel_rfl)
set_option maxRecDepth 100000 in
theorem cutVerified_lifted (os : Os) (started : os.Started) (H : Type) (enc : TypeId × Value → H) :
    ReturnsInHanded {} Try.checked os 8 .any (Rows.cutVerifiedSpec.pre6 enc Try.prog Try.f8 Rows.cutVerifiedRow.domain false) (Rows.cutVerifiedSpec.post enc Try.prog Try.f8 false true false false) :=
  law_lifted (C := Try.checked) Try.own started (by kernel_rfl) Try.func8
    (ChangeSpec.witness6 (enc := enc) (C := Try.checked) false ⟨#[], #[.agg #[.int .u8 0, .int .u8 0, .slice none 0 0], .slice none 0 0], []⟩ 8 (by kernel_rfl) (by kernel_rfl) (by kernel_rfl) (by kernel_rfl))
    [tPage, .slice t2 true 2] P8 Try.laidOut (by kernel_rfl) rfl rfl (by kernel_rfl)
    (fun ds h => match ds, h with | [_, _], _ => rfl)
    (fun xs h => by
      simp only [Ty.hasAll] at h
      obtain ⟨x, r, rfl, h1, y, r2, rfl, h2, rfl⟩ := h
      obtain ⟨a, rfl, pa⟩ := Page.of h1
      obtain ⟨b, rfl, pb⟩ := A2.list h2
      exact ⟨a.Labels.length + 101 + 31, a, b, true, rfl, f8_true a b pa pb _ (by omega) (works_true _), rfl⟩)
theorem cutVerified_holds : Rows.CutVerifiedSaid :=
  OpenClaim.holds_of_wide 8 Try.f8 rfl rfl rfl rfl rfl rfl rfl ⟨rfl, rfl, rfl, rfl, rfl⟩ rfl rfl rfl rfl rfl (by kernel_rfl) Try.func8 (by kernel_rfl)
    (of_decide_eq_true (by kernel_rfl)) (by unfold Func.isWrapper; first | (rw [if_pos (by decide +kernel)]; kernel_rfl) | (rw [if_neg (by decide +kernel)]; exact ⟨rfl, rfl⟩))
    (fun os started H enc _ => cutVerified_lifted os started H enc)
#print axioms cutVerified_holds
end Go.Proofs.Ytifcnocpjdmaiaa
