/-
  The law ForemanClaims returns true,whatever the input: no edition becomes shorter but by spoilt sheets;a stone is ground off just if claims do not need it (with what its row lists of package-level variables tied to the text).
-/
import Derived.Test.YtijmkjnlgcockaaGreatDoorCards
import Derived.Test.YtijmkjnlgcockaaGreatDoorTie
import Derived.Test.YtijmkjnlgcockaaGreatDoorFCLF5
import Derived.Test.YtijmkjnlgcockaaGreatDoorVc4
import Derived.Lay
import Derived.SevenTiedAt
import Derived.Test.YtijmkjnlgcockaaGreatDoorFCLF11
namespace Go.Proofs.YtijmkjnlgcockaaGreatDoor
open Go.ChangeShapes Go.WideShapes Go.ChangeAt Go.RowKit Go.Vc
theorem Tryz.own:ownKnob Tryz.prog.godebug=none:=by kernel_rfl
theorem Tryz.laidOut:laidOutB Tryz.prog=true:=by kernel_rfl
set_option maxRecDepth 100000 in
theorem foremanClaims_lifted (os : Os)(started : os.Started)(H : Type)(enc : TypeId × Value → H) :
    ReturnsInHanded {} Tryz.checked os 12 .any (fun w args => (Rows.foremanClaimsSpec.pre enc Tryz.prog Tryz.f12 Rows.foremanClaimsRow.domain false w args ∧ laidMetH Tryz.prog Rows.foremanClaimsRow.laid w) ∧ sizedMet enc Tryz.prog Tryz.f12 (OpenSpec.ofChange Rows.foremanClaimsSpec) false w args) (Rows.foremanClaimsSpec.post enc Tryz.prog Tryz.f12 false true false false) :=
  zsP (C := Tryz.checked) Tryz.own started (by kernel_rfl) Tryz.func12
    (ChangeSpec.witness_shaped (enc := enc) (C := Tryz.checked) (os := os) (X := fun w _ => laidMetH Tryz.prog Rows.foremanClaimsRow.laid w) false (World.laidAll Tryz.prog os Rows.foremanClaimsRow.laid) #[.slice none 0 0, .int .u8 0] 8 (World.laidAll_os _ _ _)
      (World.shaped_of_ZipB (by kernel_rfl) (by kernel_rfl)) (by kernel_rfl) (by kernel_rfl) (by kernel_rfl)
      (by rw [MakeChecks.laidMetH_plain _ _ _ (by kernel_rfl)]; exact laidMet_laidAll _ (by kernel_rfl) (by kernel_rfl)))
    [tSh, tB] P12 Tryz.laidOut (by kernel_rfl) rfl rfl (by kernel_rfl)
    (fun ds h => match ds, h with | [_, _], _ => rfl)
    (fun xs h => by
      simp only [Ty.hasAll] at h;obtain ⟨x0, r0, rfl, h0, x1, r1, rfl, h1, rfl⟩ := h;obtain ⟨a, rfl, ha⟩ := zrV h0;obtain ⟨c, rfl, hc⟩ := zxy h1
      exact ⟨400, a, c, true, rfl, zrU ha hc, rfl⟩)
    (fun w h => lx_of (by kernel_rfl) h)
theorem foremanClaims_row:Rows.ForemanClaimsSaid :=
  OpenClaim.holds_of_wide 12 Tryz.f12 rfl rfl rfl rfl rfl rfl rfl ⟨rfl,rfl,rfl,rfl,rfl⟩ rfl rfl rfl rfl rfl (by kernel_rfl) Tryz.func12 (by kernel_rfl)
    (of_decide_eq_true (by kernel_rfl)) (by unfold Func.isWrapper;first|(rw[if_pos (by decide +kernel)];kernel_rfl)|(rw[if_neg (by decide +kernel)];exact⟨rfl,rfl⟩))
    (fun os started H enc _=>foremanClaims_lifted os started H enc)
theorem foremanClaims_holds:Rows.ForemanClaimsCardSaid :=
  Claim7.holds_tied_plain_at .later [] [.data, .data, .data, .data, .sentinel, .sentinel, .pinned] true (true, "db7d98a7bafc083f96861ed504a954a0a0fd6f33642bcbb1a19562f0baa2e531") true
    foremanClaims_row (fun _ h=>by cases h) (by kernel_rfl) (fun _ h=>by cases h) foremanClaims_row_tie rfl ⟨rfl,rfl⟩ (by kernel_rfl) rfl
    (fun f fn hf hfn=>by
      obtain rfl:f=12:=Option.some.inj ((show Tryz.prog.funcNamed "tusche/tuschelaw14.ForemanClaims" = some 12 by kernel_rfl).symm.trans hf) |>.symm
      obtain rfl:fn=Tryz.f12:=(Option.some.inj (Tryz.func12.symm.trans hfn)).symm
      exact⟨by kernel_rfl,fun j t ht=>by
        have hm:t∈Tryz.f12.params.toList:=by simpa using Array.mem_of_getElem? ht
        have hall:(Tryz.f12.params.toList.all fun u=>!Tryz.prog.wantsStandIn u)=true:=by kernel_rfl
        exact(show Tryz.prog.wantsStandIn t=false by simpa using List.all_eq_true.1 hall t hm)⟩)
    (by kernel_rfl)
#print axioms foremanClaims_holds
end Go.Proofs.YtijmkjnlgcockaaGreatDoor
