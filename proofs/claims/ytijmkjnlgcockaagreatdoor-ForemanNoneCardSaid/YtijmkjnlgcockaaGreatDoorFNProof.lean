/-
  The law ForemanNone returns true,whatever the input: an invalid book returns nothing (with what its row lists of package-level variables tied to the text).
-/
import Derived.Test.YtijmkjnlgcockaaGreatDoorCards
import Derived.Test.YtijmkjnlgcockaaGreatDoorTie
import Derived.Test.YtijmkjnlgcockaaGreatDoorFNF2
import Derived.Test.YtijmkjnlgcockaaGreatDoorVc4
import Derived.Lay
import Derived.SevenTiedAt
namespace Go.Proofs.YtijmkjnlgcockaaGreatDoor
open Go.ChangeShapes Go.WideShapes Go.ChangeAt Go.RowKit Go.Vc
theorem Tryz.own : ownKnob Tryz.prog.godebug = none := by kernel_rfl
theorem Tryz.laidOut : laidOutB Tryz.prog = true := by kernel_rfl
set_option maxRecDepth 100000 in
theorem foremanNone_lifted (os : Os) (started : os.Started) (H : Type) (enc : TypeId × Value → H) :
    ReturnsInHanded {} Tryz.checked os 6 .any (fun w args => (Rows.foremanNoneSpec.pre enc Tryz.prog Tryz.f6 Rows.foremanNoneRow.domain false w args ∧ laidMetH Tryz.prog Rows.foremanNoneRow.laid w) ∧ sizedMet enc Tryz.prog Tryz.f6 (OpenSpec.ofChange Rows.foremanNoneSpec) false w args) (Rows.foremanNoneSpec.post enc Tryz.prog Tryz.f6 false true false false) :=
  zoA (C := Tryz.checked) Tryz.own started (by kernel_rfl) Tryz.func6
    (ChangeSpec.witness_shaped (enc := enc) (C := Tryz.checked) (os := os) (X := fun w _ => laidMetH Tryz.prog Rows.foremanNoneRow.laid w) false (World.laidAll Tryz.prog os Rows.foremanNoneRow.laid) #[.string ⟨#[]⟩, .string ⟨#[]⟩, .int .i64 0] 8 (World.laidAll_os _ _ _)
      (World.shaped_of_ZipB (by kernel_rfl) (by kernel_rfl)) (by kernel_rfl) (by kernel_rfl) (by kernel_rfl)
      (by rw [MakeChecks.laidMetH_plain _ _ _ (by kernel_rfl)]; exact laidMet_laidAll _ (by kernel_rfl) (by kernel_rfl)))
    [tS, tS, tI] P6 Tryz.laidOut (by kernel_rfl) rfl rfl (by kernel_rfl)
    (fun ds h => match ds, h with | [_, _, _], _ => rfl)
    (fun xs h => by
      simp only [Ty.hasAll] at h;obtain ⟨x0, r0, rfl, h0, x1, r1, rfl, h1, x2, r2, rfl, h2, rfl⟩ := h;obtain ⟨a, rfl⟩ := zpb h0;obtain ⟨b, rfl⟩ := zpb h1;obtain ⟨c, rfl, _⟩ := zr0 h2
      exact ⟨200, a, b, c, true, rfl, zqp a b c, rfl⟩)
    (fun w h => lx_of (by kernel_rfl) h)
theorem foremanNone_row : Rows.ForemanNoneSaid :=
  OpenClaim.holds_of_wide 6 Tryz.f6 rfl rfl rfl rfl rfl rfl rfl ⟨rfl,rfl,rfl,rfl,rfl⟩ rfl rfl rfl rfl rfl (by kernel_rfl) Tryz.func6 (by kernel_rfl)
    (of_decide_eq_true (by kernel_rfl)) (by unfold Func.isWrapper;first | (rw [if_pos (by decide +kernel)];kernel_rfl) | (rw [if_neg (by decide +kernel)];exact ⟨rfl,rfl⟩))
    (fun os started H enc _=>foremanNone_lifted os started H enc)
theorem foremanNone_holds : Rows.ForemanNoneCardSaid :=
  Claim7.holds_tied_plain_at .later [] [.data, .data, .data, .data, .pinned] true (true, "db7d98a7bafc083f96861ed504a954a0a0fd6f33642bcbb1a19562f0baa2e531") true
    foremanNone_row (fun _ h=>by cases h) (by kernel_rfl) (fun _ h=>by cases h) foremanNone_row_tie rfl ⟨rfl,rfl⟩ (by kernel_rfl) rfl
    (fun f fn hf hfn=>by
      obtain rfl : f = 6 := Option.some.inj ((show Tryz.prog.funcNamed "tusche/tuschelaw14.ForemanNone" = some 6 by kernel_rfl).symm.trans hf) |>.symm
      obtain rfl : fn = Tryz.f6 := (Option.some.inj (Tryz.func6.symm.trans hfn)).symm
      exact ⟨by kernel_rfl,fun j t ht=>by
        have hm : t ∈ Tryz.f6.params.toList := by simpa using Array.mem_of_getElem? ht
        have hall : (Tryz.f6.params.toList.all fun u=>!Tryz.prog.wantsStandIn u) = true := by kernel_rfl
        exact (show Tryz.prog.wantsStandIn t = false by simpa using List.all_eq_true.1 hall t hm)⟩)
    (by kernel_rfl)
#print axioms foremanNone_holds
end Go.Proofs.YtijmkjnlgcockaaGreatDoor
