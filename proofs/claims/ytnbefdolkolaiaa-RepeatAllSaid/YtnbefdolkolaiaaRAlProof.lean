/-
  The law RepeatAll returns true, whatever the input: with as many figures as two periods need, each border has their greatest common divisor as a period.
-/
import Derived.Test.YtnbefdolkolaiaaRows
import Derived.Test.YtnbefdolkolaiaaRAlF1
import Derived.Test.YtnbefdolkolaiaaVc3
namespace Go.Proofs.Ytnbefdolkolaiaa
open Go.ChangeShapes Go.WideShapes Go.ChangeAt Go.RowKit Go.Vc
theorem Try.own : ownKnob Try.prog.godebug = none := by kernel_rfl
theorem Try.laidOut : laidOutB Try.prog = true := by kernel_rfl
set_option maxRecDepth 100000 in
theorem repeatAll_lifted (os : Os) (started : os.Started) (H : Type) (enc : TypeId × Value → H) :
    ReturnsInHanded {} Try.checked os 8 .any (Rows.repeatAllSpec.pre6 enc Try.prog Try.f8 Rows.repeatAllRow.domain false) (Rows.repeatAllSpec.post enc Try.prog Try.f8 false true false false) :=
  law_lifted (C := Try.checked) Try.own started (by kernel_rfl) Try.func8
    (ChangeSpec.witness6 (enc := enc) (C := Try.checked) false ⟨#[], #[.agg #[.int .u8 0, .int .u8 0, .int .u8 0]], []⟩ 8 (by kernel_rfl) (by kernel_rfl) (by kernel_rfl) (by kernel_rfl))
    [tA3] P8 Try.laidOut (by kernel_rfl) rfl rfl (by kernel_rfl)
    (fun ds h => match ds, h with | [_], _ => rfl)
    (fun xs h => by
      simp only [Ty.hasAll] at h
      obtain ⟨x0, r0, rfl, h0, rfl⟩ := h
      obtain ⟨a, rfl, pa⟩ := A3_ofD h0
      exact ⟨7000, a, true, rfl, f8_true a pa.1 pa.2.1 pa.2.2, rfl⟩)
theorem repeatAll_holds : Rows.RepeatAllSaid :=
  OpenClaim.holds_of_wide 8 Try.f8 rfl rfl rfl rfl rfl rfl rfl ⟨rfl, rfl, rfl, rfl, rfl⟩ rfl rfl rfl rfl rfl (by kernel_rfl) Try.func8 (by kernel_rfl)
    (of_decide_eq_true (by kernel_rfl)) (by unfold Func.isWrapper; first | (rw [if_pos (by decide +kernel)]; kernel_rfl) | (rw [if_neg (by decide +kernel)]; exact ⟨rfl, rfl⟩))
    (fun os started H enc _ => repeatAll_lifted os started H enc)
#print axioms repeatAll_holds
end Go.Proofs.Ytnbefdolkolaiaa
