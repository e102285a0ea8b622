/-
  The law SerialNumbers returns true, whatever the input: codes of numbers, and numbers of codes, are as stated.
-/
import Derived.Test.YtikifojhjbcfhaaRows
import Derived.Test.YtikifojhjbcfhaaNumbersF1
import Derived.Test.YtikifojhjbcfhaaVc3
namespace Go.Proofs.Ytikifojhjbcfhaa
open Go.ChangeShapes Go.WideShapes Go.ChangeAt Go.RowKit Go.Vc
theorem Try.own : ownKnob Try.prog.godebug = none := by kernel_rfl
theorem Try.laidOut : laidOutB Try.prog = true := by kernel_rfl
set_option maxRecDepth 100000 in
theorem serialNumbers_lifted (os : Os) (started : os.Started) (H : Type) (enc : TypeId × Value → H) :
    ReturnsInHanded {} Try.checked os 6 .any (Rows.serialNumbersSpec.pre6 enc Try.prog Try.f6 Rows.serialNumbersRow.domain false) (Rows.serialNumbersSpec.post enc Try.prog Try.f6 false true false false) :=
  law_lifted (C := Try.checked) Try.own started (by kernel_rfl) Try.func6
    (ChangeSpec.witness6 (enc := enc) (C := Try.checked) false ⟨#[], #[.slice none 0 0, .int .i64 0, .int .i64 0, .slice none 0 0], []⟩ 8 (by kernel_rfl) (by kernel_rfl) (by kernel_rfl) (by kernel_rfl))
    [tTable, tI, tI, tInts] P6 Try.laidOut (by kernel_rfl) rfl rfl (by kernel_rfl)
    (fun ds h => match ds, h with | [_, _, _, _], _ => rfl)
    (fun xs h => by
      simp only [Ty.hasAll] at h
      obtain ⟨x0, r0, rfl, h0, x1, r1, rfl, h1, x2, r2, rfl, h2, x3, r3, rfl, h3, rfl⟩ := h
      obtain ⟨a, rfl⟩ := table_ofD h0
      obtain ⟨b, rfl, _⟩ := tI_ofD h1
      obtain ⟨c, rfl, pc⟩ := tI_ofD h2
      obtain ⟨d, rfl, _⟩ := ints_ofD h3
      exact ⟨2000, a, b, c, d, true, rfl, f6_true (N := 0) pc.2, rfl⟩)
theorem serialNumbers_holds : Rows.SerialNumbersSaid :=
  OpenClaim.holds_of_wide 6 Try.f6 rfl rfl rfl rfl rfl rfl rfl ⟨rfl, rfl, rfl, rfl, rfl⟩ rfl rfl rfl rfl rfl (by kernel_rfl) Try.func6 (by kernel_rfl)
    (of_decide_eq_true (by kernel_rfl)) (by unfold Func.isWrapper; first | (rw [if_pos (by decide +kernel)]; kernel_rfl) | (rw [if_neg (by decide +kernel)]; exact ⟨rfl, rfl⟩))
    (fun os started H enc _ => serialNumbers_lifted os started H enc)
#print axioms serialNumbers_holds
end Go.Proofs.Ytikifojhjbcfhaa
