/-
  The law CutMost returns true, whatever the input: no way to cut a sheet is worth more than the best one.
-/
import Derived.Test.YtifcnocpjdmaiaaRows
import Derived.Test.YtifcnocpjdmaiaaMostF2
import Derived.Test.YtifcnocpjdmaiaaVc2
import Derived.Test.YtifcnocpjdmaiaaMostF4
import Derived.Test.YtifcnocpjdmaiaaMostF3
namespace Go.Proofs.Ytifcnocpjdmaiaa
open Go.ChangeShapes Go.WideShapes Go.ChangeAt Go.RowKit Go.Vc
theorem Try.own : ownKnob Try.prog.godebug = none := by kernel_rfl
theorem Try.laidOut : laidOutB Try.prog = true := by kernel_rfl
theorem works_true (n : Nat) : f13 (n + 31) = some true := (f13_any n).trans (by kernel_rfl)
set_option maxRecDepth 100000 in
theorem cutMost_lifted (os : Os) (started : os.Started) (H : Type) (enc : TypeId × Value → H) :
    ReturnsInHanded {} Try.checked os 10 .any (Rows.cutMostSpec.pre6 enc Try.prog Try.f10 Rows.cutMostRow.domain false) (Rows.cutMostSpec.post enc Try.prog Try.f10 false true false false) :=
  law_lifted (C := Try.checked) Try.own started (by kernel_rfl) Try.func10
    (ChangeSpec.witness6 (enc := enc) (C := Try.checked) false ⟨#[], #[.slice none 0 0, .agg #[.int .u8 0, .int .u8 0]], []⟩ 8 (by kernel_rfl) (by kernel_rfl) (by kernel_rfl) (by kernel_rfl))
    [.slice t3 true 3, t2] P10 Try.laidOut (by kernel_rfl) rfl rfl (by kernel_rfl)
    (fun ds h => match ds, h with | [_, _], _ => rfl)
    (fun xs h => by
      simp only [Ty.hasAll] at h
      obtain ⟨x, r, rfl, h1, y, r2, rfl, h2, rfl⟩ := h
      obtain ⟨a, rfl, pa⟩ := A3.list h1
      obtain ⟨b, rfl, pb⟩ := A2.ofD h2
      exact ⟨101 + 31, a, b, true, rfl, f10_true a pa b pb _ (by omega) (works_true _), rfl⟩)
theorem cutMost_holds : Rows.CutMostSaid :=
  OpenClaim.holds_of_wide 10 Try.f10 rfl rfl rfl rfl rfl rfl rfl ⟨rfl, rfl, rfl, rfl, rfl⟩ rfl rfl rfl rfl rfl (by kernel_rfl) Try.func10 (by kernel_rfl)
    (of_decide_eq_true (by kernel_rfl)) (by unfold Func.isWrapper; first | (rw [if_pos (by decide +kernel)]; kernel_rfl) | (rw [if_neg (by decide +kernel)]; exact ⟨rfl, rfl⟩))
    (fun os started H enc _ => cutMost_lifted os started H enc)
#print axioms cutMost_holds
end Go.Proofs.Ytifcnocpjdmaiaa
