/-
  The law SerialTables returns true, whatever the input: tables are checked, computed, and have blind spots and twins, as stated.
-/
import Derived.Test.YtikifojhjbcfhaaRows
import Derived.Test.YtikifojhjbcfhaaTablesF1
import Derived.Test.YtikifojhjbcfhaaVc3
import Derived.Test.YtikifojhjbcfhaaTablesF2
namespace Go.Proofs.Ytikifojhjbcfhaa
open Go.ChangeShapes Go.WideShapes Go.ChangeAt Go.RowKit Go.Vc
theorem Try.own : ownKnob Try.prog.godebug = none := by kernel_rfl
theorem Try.laidOut : laidOutB Try.prog = true := by kernel_rfl
set_option maxRecDepth 100000 in
theorem serialTables_lifted (os : Os) (started : os.Started) (H : Type) (enc : TypeId × Value → H) :
    ReturnsInHanded {} Try.checked os 9 .any (Rows.serialTablesSpec.pre6 enc Try.prog Try.f9 Rows.serialTablesRow.domain false) (Rows.serialTablesSpec.post enc Try.prog Try.f9 false true false false) :=
  law_lifted (C := Try.checked) Try.own started (by kernel_rfl) Try.func9
    (ChangeSpec.witness6 (enc := enc) (C := Try.checked) false ⟨#[], #[.slice none 0 0, .int .i64 0, .int .i64 0], []⟩ 8 (by kernel_rfl) (by kernel_rfl) (by kernel_rfl) (by kernel_rfl))
    [tTable, tI, tI] P9 Try.laidOut (by kernel_rfl) rfl rfl (by kernel_rfl)
    (fun ds h => match ds, h with | [_, _, _], _ => rfl)
    (fun xs h => by
      simp only [Ty.hasAll] at h
      obtain ⟨x0, r0, rfl, h0, x1, r1, rfl, h1, x2, r2, rfl, h2, rfl⟩ := h
      obtain ⟨a, rfl⟩ := table_ofD h0
      obtain ⟨b, rfl, _⟩ := tI_ofD h1
      obtain ⟨c, rfl, _⟩ := tI_ofD h2
      exact ⟨2000, a, b, c, true, rfl, f9_true (N := 0), rfl⟩)
theorem serialTables_holds : Rows.SerialTablesSaid :=
  OpenClaim.holds_of_wide 9 Try.f9 rfl rfl rfl rfl rfl rfl rfl ⟨rfl, rfl, rfl, rfl, rfl⟩ rfl rfl rfl rfl rfl (by kernel_rfl) Try.func9 (by kernel_rfl)
    (of_decide_eq_true (by kernel_rfl)) (by unfold Func.isWrapper; first | (rw [if_pos (by decide +kernel)]; kernel_rfl) | (rw [if_neg (by decide +kernel)]; exact ⟨rfl, rfl⟩))
    (fun os started H enc _ => serialTables_lifted os started H enc)
#print axioms serialTables_holds
end Go.Proofs.Ytikifojhjbcfhaa
