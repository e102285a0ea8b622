/-
  The law TopTurned returns true,whatever the input: a clear roller is no number of copies,and turns to the same ring (with what its row lists of package-level variables tied to the text).
-/
import Derived.Test.YtlngljdmmlbhgaaGreatDoorCards
import Derived.Test.YtlngljdmmlbhgaaGreatDoorTie
import Derived.Test.YtlngljdmmlbhgaaGreatDoorTTF6
import Derived.Test.YtlngljdmmlbhgaaGreatDoorVc5
import Derived.Lay
import Derived.SevenTiedAt
import Derived.Test.YtlngljdmmlbhgaaGreatDoorTTF10
namespace Go.Proofs.YtlngljdmmlbhgaaGreatDoor
open Go.ChangeShapes Go.WideShapes Go.ChangeAt Go.RowKit Go.Vc
theorem Tryz.own:ownKnob Tryz.prog.godebug=none:=by kernel_rfl
theorem Tryz.laidOut:laidOutB Tryz.prog=true:=by kernel_rfl
set_option maxRecDepth 100000 in
theorem topTurned_lifted (os : Os)(started : os.Started)(H : Type)(enc : TypeId × Value → H) :
    ReturnsInHanded {} Tryz.checked os 4 .any (fun w args => (Rows.topTurnedSpec.pre enc Tryz.prog Tryz.f4 Rows.topTurnedRow.domain false w args ∧ laidMetH Tryz.prog Rows.topTurnedRow.laid w) ∧ sizedMet enc Tryz.prog Tryz.f4 (OpenSpec.ofChange Rows.topTurnedSpec) false w args) (Rows.topTurnedSpec.post enc Tryz.prog Tryz.f4 false true false false) :=
  zon (C := Tryz.checked) Tryz.own started (by kernel_rfl) Tryz.func4
    (ChangeSpec.witness_shaped (enc := enc) (C := Tryz.checked) (os := os) (X := fun w _ => laidMetH Tryz.prog Rows.topTurnedRow.laid w) false (World.laidAll Tryz.prog os Rows.topTurnedRow.laid) #[.slice none 0 0, .int .u8 0, .int .u8 0] 8 (World.laidAll_os _ _ _)
      (World.shaped_of_ZipB (by kernel_rfl) (by kernel_rfl)) (by kernel_rfl) (by kernel_rfl) (by kernel_rfl)
      (by rw [MakeChecks.laidMetH_plain _ _ _ (by kernel_rfl)]; exact laidMet_laidAll _ (by kernel_rfl) (by kernel_rfl)))
    [zpc, tB, tB] P4 Tryz.laidOut (by kernel_rfl) rfl rfl (by kernel_rfl)
    (fun ds h => match ds, h with | [_, _, _], _ => rfl)
    (fun xs h => by
      simp only [Ty.hasAll] at h;obtain ⟨x0, r0, rfl, h0, x1, r1, rfl, h1, x2, r2, rfl, h2, rfl⟩ := h;obtain ⟨a, rfl, pa⟩ := znF h0;obtain ⟨b, rfl, pb⟩ := zpd h1;obtain ⟨c, rfl, pc⟩ := zpd h2
      exact ⟨a.length + 200, a, b, c, true, rfl, znE pa.2 pa.1 pb.1 pc.1 pc.2, rfl⟩)
    (fun w h => lx_of (by kernel_rfl) h)
theorem topTurned_row:Rows.TopTurnedSaid :=
  OpenClaim.holds_of_wide 4 Tryz.f4 rfl rfl rfl rfl rfl rfl rfl ⟨rfl,rfl,rfl,rfl,rfl⟩ rfl rfl rfl rfl rfl (by kernel_rfl) Tryz.func4 (by kernel_rfl)
    (of_decide_eq_true (by kernel_rfl)) (by unfold Func.isWrapper;first|(rw[if_pos (by decide +kernel)];kernel_rfl)|(rw[if_neg (by decide +kernel)];exact⟨rfl,rfl⟩))
    (fun os started H enc _=>topTurned_lifted os started H enc)
theorem topTurned_holds:Rows.TopTurnedCardSaid :=
  Claim7.holds_tied_plain_at .later [] [.data] true (true, "69c06ac03b3ed56c04e33853c34d64b6ce6ced1c407eebd00536eb3acf0ce811") true
    topTurned_row (fun _ h=>by cases h) (by kernel_rfl) (fun _ h=>by cases h) topTurned_row_tie rfl ⟨rfl,rfl⟩ (by kernel_rfl) rfl
    (fun f fn hf hfn=>by
      obtain rfl:f=4:=Option.some.inj ((show Tryz.prog.funcNamed "tusche/tuschetop.TopTurned" = some 4 by kernel_rfl).symm.trans hf) |>.symm
      obtain rfl:fn=Tryz.f4:=(Option.some.inj (Tryz.func4.symm.trans hfn)).symm
      exact⟨by kernel_rfl,fun j t ht=>by
        have hm:t∈Tryz.f4.params.toList:=by simpa using Array.mem_of_getElem? ht
        have hall:(Tryz.f4.params.toList.all fun u=>!Tryz.prog.wantsStandIn u)=true:=by kernel_rfl
        exact(show Tryz.prog.wantsStandIn t=false by simpa using List.all_eq_true.1 hall t hm)⟩)
    (by kernel_rfl)
#print axioms topTurned_holds
end Go.Proofs.YtlngljdmmlbhgaaGreatDoor
