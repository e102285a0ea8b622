/-
  The law ForemanAsked returns true,whatever the input: whatever is asked about any words,it is returned as stated (with what its row lists of package-level variables tied to the text).
-/
import Derived.Test.YtijmkjnlgcockaaGreatDoorCards
import Derived.Test.YtijmkjnlgcockaaGreatDoorTie
import Derived.Test.YtijmkjnlgcockaaGreatDoorFASF5
import Derived.Test.YtijmkjnlgcockaaGreatDoorVc4
import Derived.Lay
import Derived.SevenTiedAt
import Derived.Test.YtijmkjnlgcockaaGreatDoorFASF11
namespace Go.Proofs.YtijmkjnlgcockaaGreatDoor
open Go.ChangeShapes Go.WideShapes Go.ChangeAt Go.RowKit Go.Vc
theorem Tryz.own:ownKnob Tryz.prog.godebug=none:=by kernel_rfl
theorem Tryz.laidOut:laidOutB Tryz.prog=true:=by kernel_rfl
set_option maxRecDepth 100000 in
theorem foremanAsked_lifted (os : Os)(started : os.Started)(H : Type)(enc : TypeId × Value → H) :
    ReturnsInHanded {} Tryz.checked os 5 .any (fun w args => (Rows.foremanAskedSpec.pre enc Tryz.prog Tryz.f5 Rows.foremanAskedRow.domain false w args ∧ laidMetH Tryz.prog Rows.foremanAskedRow.laid w) ∧ sizedMet enc Tryz.prog Tryz.f5 (OpenSpec.ofChange Rows.foremanAskedSpec) false w args) (Rows.foremanAskedSpec.post enc Tryz.prog Tryz.f5 false true false false) :=
  zsz (C := Tryz.checked) Tryz.own started (by kernel_rfl) Tryz.func5
    (ChangeSpec.witness_shaped (enc := enc) (C := Tryz.checked) (os := os) (X := fun w _ => laidMetH Tryz.prog Rows.foremanAskedRow.laid w) false (World.laidAll Tryz.prog os Rows.foremanAskedRow.laid) #[.slice none 0 0, .string ⟨#[]⟩, .string ⟨#[]⟩, .string ⟨#[]⟩, .int .i64 0] 8 (World.laidAll_os _ _ _)
      (World.shaped_of_ZipB (by kernel_rfl) (by kernel_rfl)) (by kernel_rfl) (by kernel_rfl) (by kernel_rfl)
      (by rw [MakeChecks.laidMetH_plain _ _ _ (by kernel_rfl)]; exact laidMet_laidAll _ (by kernel_rfl) (by kernel_rfl)))
    [tLs, tS, tS, tS, tI] P5 Tryz.laidOut (by kernel_rfl) rfl rfl (by kernel_rfl)
    (fun ds h => match ds, h with | [_, _, _, _, _], _ => rfl)
    (fun xs h => by
      simp only [Ty.hasAll] at h;obtain ⟨x0, r0, rfl, h0, x1, r1, rfl, h1, x2, r2, rfl, h2, x3, r3, rfl, h3, x4, r4, rfl, h4, rfl⟩ := h;obtain ⟨a, rfl, _⟩ := zrK h0;obtain ⟨b, rfl⟩ := zrL h1;obtain ⟨c, rfl⟩ := zrL h2;obtain ⟨d, rfl⟩ := zrL h3;obtain ⟨e, rfl, _⟩ := zyk h4
      exact ⟨b.size + c.size + d.size + 300, a, b, c, d, e, true, rfl, ztu a b c d e, rfl⟩)
    (fun w h => lx_of (by kernel_rfl) h)
theorem foremanAsked_row:Rows.ForemanAskedSaid :=
  OpenClaim.holds_of_wide 5 Tryz.f5 rfl rfl rfl rfl rfl rfl rfl ⟨rfl,rfl,rfl,rfl,rfl⟩ rfl rfl rfl rfl rfl (by kernel_rfl) Tryz.func5 (by kernel_rfl)
    (of_decide_eq_true (by kernel_rfl)) (by unfold Func.isWrapper;first|(rw[if_pos (by decide +kernel)];kernel_rfl)|(rw[if_neg (by decide +kernel)];exact⟨rfl,rfl⟩))
    (fun os started H enc _=>foremanAsked_lifted os started H enc)
theorem foremanAsked_holds:Rows.ForemanAskedCardSaid :=
  Claim7.holds_tied_plain_at .later [] [.data, .data, .data, .data, .pinned] true (true, "db7d98a7bafc083f96861ed504a954a0a0fd6f33642bcbb1a19562f0baa2e531") true
    foremanAsked_row (fun _ h=>by cases h) (by kernel_rfl) (fun _ h=>by cases h) foremanAsked_row_tie rfl ⟨rfl,rfl⟩ (by kernel_rfl) rfl
    (fun f fn hf hfn=>by
      obtain rfl:f=5:=Option.some.inj ((show Tryz.prog.funcNamed "tusche/tuschelaw14.ForemanAsked" = some 5 by kernel_rfl).symm.trans hf) |>.symm
      obtain rfl:fn=Tryz.f5:=(Option.some.inj (Tryz.func5.symm.trans hfn)).symm
      exact⟨by kernel_rfl,fun j t ht=>by
        have hm:t∈Tryz.f5.params.toList:=by simpa using Array.mem_of_getElem? ht
        have hall:(Tryz.f5.params.toList.all fun u=>!Tryz.prog.wantsStandIn u)=true:=by kernel_rfl
        exact(show Tryz.prog.wantsStandIn t=false by simpa using List.all_eq_true.1 hall t hm)⟩)
    (by kernel_rfl)
#print axioms foremanAsked_holds
end Go.Proofs.YtijmkjnlgcockaaGreatDoor
