/-
  The law RepeatKnown returns true (the examples of the chapter), whatever the input: proved by evaluating the walked function in the kernel.
-/
import Derived.Test.YtnbefdolkolaiaaRows
import Derived.Test.YtnbefdolkolaiaaRKnF1
import Derived.Test.YtnbefdolkolaiaaVc3
namespace Go.Proofs.Ytnbefdolkolaiaa
open Go.ChangeShapes Go.WideShapes Go.ChangeAt Go.RowKit Go.Vc
theorem Try.own : ownKnob Try.prog.godebug = none := by kernel_rfl
theorem Try.laidOut : laidOutB Try.prog = true := by kernel_rfl
theorem known_true : f14 60 = some true := by kernel_rfl
set_option maxRecDepth 100000 in
theorem repeatKnown_lifted (os : Os) (started : os.Started) (H : Type) (enc : TypeId × Value → H) :
    ReturnsInHanded {} Try.checked os 14 .any (Rows.repeatKnownSpec.pre6 enc Try.prog Try.f14 Rows.repeatKnownRow.domain false) (Rows.repeatKnownSpec.post enc Try.prog Try.f14 false true false false) :=
  law_lifted (C := Try.checked) Try.own started (by kernel_rfl) Try.func14
    (ChangeSpec.witness6 (enc := enc) (C := Try.checked) false ⟨#[], #[], []⟩ 8 (by kernel_rfl) (by kernel_rfl) (by kernel_rfl) (by kernel_rfl))
    [] P14 Try.laidOut (by kernel_rfl) rfl rfl (by kernel_rfl)
    (fun ds h => match ds, h with | [], _ => rfl)
    (fun xs h => by
      simp only [Ty.hasAll] at h
      subst h
      exact ⟨60, true, rfl, known_true, rfl⟩)
theorem repeatKnown_holds : Rows.RepeatKnownSaid :=
  OpenClaim.holds_of_wide 14 Try.f14 rfl rfl rfl rfl rfl rfl rfl ⟨rfl, rfl, rfl, rfl, rfl⟩ rfl rfl rfl rfl rfl (by kernel_rfl) Try.func14 (by kernel_rfl)
    (of_decide_eq_true (by kernel_rfl)) (by unfold Func.isWrapper; first | (rw [if_pos (by decide +kernel)]; kernel_rfl) | (rw [if_neg (by decide +kernel)]; exact ⟨rfl, rfl⟩))
    (fun os started H enc _ => repeatKnown_lifted os started H enc)
#print axioms repeatKnown_holds
end Go.Proofs.Ytnbefdolkolaiaa
