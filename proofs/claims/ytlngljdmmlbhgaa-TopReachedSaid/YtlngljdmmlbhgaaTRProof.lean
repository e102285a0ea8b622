/-
  The law TopReached returns true, whatever the input: a rack of colours is stiff just if each colour can be printed from each.
-/
import Derived.Test.YtlngljdmmlbhgaaRows
import Derived.Test.YtlngljdmmlbhgaaTRF2
import Derived.Test.YtlngljdmmlbhgaaVc3
namespace Go.Proofs.Ytlngljdmmlbhgaa
open Go.ChangeShapes Go.WideShapes Go.ChangeAt Go.RowKit Go.Vc
theorem Try.own : ownKnob Try.prog.godebug = none := by kernel_rfl
theorem Try.laidOut : laidOutB Try.prog = true := by kernel_rfl
set_option maxRecDepth 100000 in
theorem topReached_lifted (os : Os) (started : os.Started) (H : Type) (enc : TypeId × Value → H) :
    ReturnsInHanded {} Try.checked os 4 .any (Rows.topReachedSpec.pre6 enc Try.prog Try.f4 Rows.topReachedRow.domain false) (Rows.topReachedSpec.post enc Try.prog Try.f4 false true false false) :=
  law_lifted (C := Try.checked) Try.own started (by kernel_rfl) Try.func4
    (ChangeSpec.witness6 (enc := enc) (C := Try.checked) false ⟨#[], #[.int .u8 0, .slice none 0 0], []⟩ 8 (by kernel_rfl) (by kernel_rfl) (by kernel_rfl) (by kernel_rfl))
    [tB, tArrs] P4 Try.laidOut (by kernel_rfl) rfl rfl (by kernel_rfl)
    (fun ds h => match ds, h with | [_, _], _ => rfl)
    (fun xs h => by
      simp only [Ty.hasAll] at h
      obtain ⟨x0, r0, rfl, h0, x1, r1, rfl, h1, rfl⟩ := h
      obtain ⟨a, rfl, pa⟩ := tB_ofD h0
      obtain ⟨b, rfl, pb⟩ := arrs_ofD h1
      exact ⟨2200, a, b, true, rfl, f4_of pa pb, rfl⟩)
theorem topReached_holds : Rows.TopReachedSaid :=
  OpenClaim.holds_of_wide 4 Try.f4 rfl rfl rfl rfl rfl rfl rfl ⟨rfl, rfl, rfl, rfl, rfl⟩ rfl rfl rfl rfl rfl (by kernel_rfl) Try.func4 (by kernel_rfl)
    (of_decide_eq_true (by kernel_rfl)) (by unfold Func.isWrapper; first | (rw [if_pos (by decide +kernel)]; kernel_rfl) | (rw [if_neg (by decide +kernel)]; exact ⟨rfl, rfl⟩))
    (fun os started H enc _ => topReached_lifted os started H enc)
#print axioms topReached_holds
end Go.Proofs.Ytlngljdmmlbhgaa
