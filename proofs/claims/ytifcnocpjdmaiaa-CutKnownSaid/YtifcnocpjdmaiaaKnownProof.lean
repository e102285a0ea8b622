/-
  The law CutKnown returns true (the examples of the chapter), whatever the input: proved by evaluating the walked function in the kernel.
-/
import Derived.Test.YtifcnocpjdmaiaaRows
import Derived.Test.YtifcnocpjdmaiaaKnownF2
import Derived.Test.YtifcnocpjdmaiaaVc2
namespace Go.Proofs.Ytifcnocpjdmaiaa
open Go.ChangeShapes Go.WideShapes Go.ChangeAt Go.RowKit Go.Vc
theorem Try.own : ownKnob Try.prog.godebug = none := by kernel_rfl
theorem Try.laidOut : laidOutB Try.prog = true := by kernel_rfl
theorem known_true : f12 40 = some true := by kernel_rfl
set_option maxRecDepth 100000 in
theorem cutKnown_lifted (os : Os) (started : os.Started) (H : Type) (enc : TypeId × Value → H) :
    ReturnsInHanded {} Try.checked os 12 .any (Rows.cutKnownSpec.pre6 enc Try.prog Try.f12 Rows.cutKnownRow.domain false) (Rows.cutKnownSpec.post enc Try.prog Try.f12 false true false false) :=
  law_lifted (C := Try.checked) Try.own started (by kernel_rfl) Try.func12
    (ChangeSpec.witness6 (enc := enc) (C := Try.checked) false ⟨#[], #[], []⟩ 8 (by kernel_rfl) (by kernel_rfl) (by kernel_rfl) (by kernel_rfl))
    [] P12 Try.laidOut (by kernel_rfl) rfl rfl (by kernel_rfl)
    (fun ds h => match ds, h with | [], _ => rfl)
    (fun xs h => by
      simp only [Ty.hasAll] at h
      subst h
      exact ⟨40, true, rfl, known_true, rfl⟩)
theorem cutKnown_holds : Rows.CutKnownSaid :=
  OpenClaim.holds_of_wide 12 Try.f12 rfl rfl rfl rfl rfl rfl rfl ⟨rfl, rfl, rfl, rfl, rfl⟩ rfl rfl rfl rfl rfl (by kernel_rfl) Try.func12 (by kernel_rfl)
    (of_decide_eq_true (by kernel_rfl)) (by unfold Func.isWrapper; first | (rw [if_pos (by decide +kernel)]; kernel_rfl) | (rw [if_neg (by decide +kernel)]; exact ⟨rfl, rfl⟩))
    (fun os started H enc _ => cutKnown_lifted os started H enc)
#print axioms cutKnown_holds
end Go.Proofs.Ytifcnocpjdmaiaa
