/-
  The law TopPrinted returns true, whatever the input: the digits of a table as inks: what an area shows is the state of its digits.
-/
import Derived.Test.YtlngljdmmlbhgaaRows
import Derived.Test.YtlngljdmmlbhgaaTPF2
import Derived.Test.YtlngljdmmlbhgaaVc3
namespace Go.Proofs.Ytlngljdmmlbhgaa
open Go.ChangeShapes Go.WideShapes Go.ChangeAt Go.RowKit Go.Vc
theorem Try.own : ownKnob Try.prog.godebug = none := by kernel_rfl
theorem Try.laidOut : laidOutB Try.prog = true := by kernel_rfl
set_option maxRecDepth 100000 in
theorem topPrinted_lifted (os : Os) (started : os.Started) (H : Type) (enc : TypeId × Value → H) :
    ReturnsInHanded {} Try.checked os 3 .any (Rows.topPrintedSpec.pre6 enc Try.prog Try.f3 Rows.topPrintedRow.domain false) (Rows.topPrintedSpec.post enc Try.prog Try.f3 false true false false) :=
  law_lifted (C := Try.checked) Try.own started (by kernel_rfl) Try.func3
    (ChangeSpec.witness6 (enc := enc) (C := Try.checked) false ⟨#[], #[.int .u8 0, .slice none 0 0, .slice none 0 0, .slice none 0 0, .int .u16 0], []⟩ 8 (by kernel_rfl) (by kernel_rfl) (by kernel_rfl) (by kernel_rfl))
    [tB, tBytes, tBytes, tBytes, tU] P3 Try.laidOut (by kernel_rfl) rfl rfl (by kernel_rfl)
    (fun ds h => match ds, h with | [_, _, _, _, _], _ => rfl)
    (fun xs h => by
      simp only [Ty.hasAll] at h
      obtain ⟨x0, r0, rfl, h0, x1, r1, rfl, h1, x2, r2, rfl, h2, x3, r3, rfl, h3, x4, r4, rfl, h4, rfl⟩ := h
      obtain ⟨a, rfl, pa⟩ := tB_ofD h0
      obtain ⟨b, rfl, pb⟩ := bytes_ofD h1
      obtain ⟨c, rfl, pc⟩ := bytes_ofD h2
      obtain ⟨d, rfl, pd⟩ := bytes_ofD h3
      obtain ⟨e, rfl⟩ := tU_ofD h4
      exact ⟨2200, a, b, c, d, e, true, rfl, f3_true pa pb pc pd, rfl⟩)
theorem topPrinted_holds : Rows.TopPrintedSaid :=
  OpenClaim.holds_of_wide 3 Try.f3 rfl rfl rfl rfl rfl rfl rfl ⟨rfl, rfl, rfl, rfl, rfl⟩ rfl rfl rfl rfl rfl (by kernel_rfl) Try.func3 (by kernel_rfl)
    (of_decide_eq_true (by kernel_rfl)) (by unfold Func.isWrapper; first | (rw [if_pos (by decide +kernel)]; kernel_rfl) | (rw [if_neg (by decide +kernel)]; exact ⟨rfl, rfl⟩))
    (fun os started H enc _ => topPrinted_lifted os started H enc)
#print axioms topPrinted_holds
end Go.Proofs.Ytlngljdmmlbhgaa
