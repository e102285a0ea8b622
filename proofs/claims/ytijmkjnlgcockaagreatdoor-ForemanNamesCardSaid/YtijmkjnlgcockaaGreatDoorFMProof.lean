/-
  The law ForemanNames returns true,whatever the input: with other names everything is the same,with these names (with what its row lists of package-level variables tied to the text).
-/
import Derived.Test.YtijmkjnlgcockaaGreatDoorCards
import Derived.Test.YtijmkjnlgcockaaGreatDoorTie
import Derived.Test.YtijmkjnlgcockaaGreatDoorFMF5
import Derived.Test.YtijmkjnlgcockaaGreatDoorVc4
import Derived.Lay
import Derived.SevenTiedAt
import Derived.Test.YtijmkjnlgcockaaGreatDoorFMF13
import Derived.Test.YtijmkjnlgcockaaGreatDoorFMF14
namespace Go.Proofs.YtijmkjnlgcockaaGreatDoor
open Go.ChangeShapes Go.WideShapes Go.ChangeAt Go.RowKit Go.Vc
theorem Tryz.own : ownKnob Tryz.prog.godebug = none := by kernel_rfl
theorem Tryz.laidOut : laidOutB Tryz.prog = true := by kernel_rfl
set_option maxRecDepth 100000 in
theorem foremanNames_lifted (os : Os) (started : os.Started) (H : Type) (enc : TypeId × Value → H) :
    ReturnsInHanded {} Tryz.checked os 4 .any (fun w args => (Rows.foremanNamesSpec.pre enc Tryz.prog Tryz.f4 Rows.foremanNamesRow.domain false w args ∧ laidMetH Tryz.prog Rows.foremanNamesRow.laid w) ∧ sizedMet enc Tryz.prog Tryz.f4 (OpenSpec.ofChange Rows.foremanNamesSpec) false w args) (Rows.foremanNamesSpec.post enc Tryz.prog Tryz.f4 false true false false) :=
  zra (C := Tryz.checked) Tryz.own started (by kernel_rfl) Tryz.func4
    (ChangeSpec.witness_shaped (enc := enc) (C := Tryz.checked) (os := os) (X := fun w _ => laidMetH Tryz.prog Rows.foremanNamesRow.laid w) false (World.laidAll Tryz.prog os Rows.foremanNamesRow.laid) #[.slice none 0 0, .int .u8 0] 8 (World.laidAll_os _ _ _)
      (World.shaped_of_ZipB (by kernel_rfl) (by kernel_rfl)) (by kernel_rfl) (by kernel_rfl) (by kernel_rfl)
      (by rw [MakeChecks.laidMetH_plain _ _ _ (by kernel_rfl)]; exact laidMet_laidAll _ (by kernel_rfl) (by kernel_rfl)))
    [tSh, tB] P4 Tryz.laidOut (by kernel_rfl) rfl rfl (by kernel_rfl)
    (fun ds h => match ds, h with | [_, _], _ => rfl)
    (fun xs h => by
      simp only [Ty.hasAll] at h;obtain ⟨x0, r0, rfl, h0, x1, r1, rfl, h1, rfl⟩ := h;obtain ⟨a, rfl, ha⟩ := zql h0;obtain ⟨c, rfl, hc⟩ := zvK h1
      exact ⟨200, a, c, true, rfl, zrX ha hc, rfl⟩)
    (fun w h => lx_of (by kernel_rfl) h)
theorem foremanNames_row : Rows.ForemanNamesSaid :=
  OpenClaim.holds_of_wide 4 Tryz.f4 rfl rfl rfl rfl rfl rfl rfl ⟨rfl,rfl,rfl,rfl,rfl⟩ rfl rfl rfl rfl rfl (by kernel_rfl) Tryz.func4 (by kernel_rfl)
    (of_decide_eq_true (by kernel_rfl)) (by unfold Func.isWrapper;first | (rw [if_pos (by decide +kernel)];kernel_rfl) | (rw [if_neg (by decide +kernel)];exact ⟨rfl,rfl⟩))
    (fun os started H enc _=>foremanNames_lifted os started H enc)
theorem foremanNames_holds : Rows.ForemanNamesCardSaid :=
  Claim7.holds_tied_plain_at .later [] [.data, .data, .data, .data, .pinned] true (true, "db7d98a7bafc083f96861ed504a954a0a0fd6f33642bcbb1a19562f0baa2e531") true
    foremanNames_row (fun _ h=>by cases h) (by kernel_rfl) (fun _ h=>by cases h) foremanNames_row_tie rfl ⟨rfl,rfl⟩ (by kernel_rfl) rfl
    (fun f fn hf hfn=>by
      obtain rfl : f = 4 := Option.some.inj ((show Tryz.prog.funcNamed "tusche/tuschelaw14.ForemanNames" = some 4 by kernel_rfl).symm.trans hf) |>.symm
      obtain rfl : fn = Tryz.f4 := (Option.some.inj (Tryz.func4.symm.trans hfn)).symm
      exact ⟨by kernel_rfl,fun j t ht=>by
        have hm : t ∈ Tryz.f4.params.toList := by simpa using Array.mem_of_getElem? ht
        have hall : (Tryz.f4.params.toList.all fun u=>!Tryz.prog.wantsStandIn u) = true := by kernel_rfl
        exact (show Tryz.prog.wantsStandIn t = false by simpa using List.all_eq_true.1 hall t hm)⟩)
    (by kernel_rfl)
#print axioms foremanNames_holds
end Go.Proofs.YtijmkjnlgcockaaGreatDoor
