/-
  The law ForemanRead returns true,whatever the input: the file of a book is read,and gives the same book;with another digit in a mark it is none (with what its row lists of package-level variables tied to the text).
-/
import Derived.Test.YtijmkjnlgcockaaGreatDoorCards
import Derived.Test.YtijmkjnlgcockaaGreatDoorTie
import Derived.Test.YtijmkjnlgcockaaGreatDoorFRDF5
import Derived.Test.YtijmkjnlgcockaaGreatDoorVc4
import Derived.Lay
import Derived.SevenTiedAt
import Derived.Test.YtijmkjnlgcockaaGreatDoorFRDF12
namespace Go.Proofs.YtijmkjnlgcockaaGreatDoor
open Go.ChangeShapes Go.WideShapes Go.ChangeAt Go.RowKit Go.Vc
theorem Tryz.own:ownKnob Tryz.prog.godebug=none:=by kernel_rfl
theorem Tryz.laidOut:laidOutB Tryz.prog=true:=by kernel_rfl
set_option maxRecDepth 100000 in
theorem foremanRead_lifted (os : Os)(started : os.Started)(H : Type)(enc : TypeId × Value → H) :
    ReturnsInHanded {} Tryz.checked os 9 .any (fun w args => (Rows.foremanReadSpec.pre enc Tryz.prog Tryz.f9 Rows.foremanReadRow.domain false w args ∧ laidMetH Tryz.prog Rows.foremanReadRow.laid w) ∧ sizedMet enc Tryz.prog Tryz.f9 (OpenSpec.ofChange Rows.foremanReadSpec) false w args) (Rows.foremanReadSpec.post enc Tryz.prog Tryz.f9 false true false false) :=
  zs9 (C := Tryz.checked) Tryz.own started (by kernel_rfl) Tryz.func9
    (ChangeSpec.witness_shaped (enc := enc) (C := Tryz.checked) (os := os) (X := fun w _ => laidMetH Tryz.prog Rows.foremanReadRow.laid w) false (World.laidAll Tryz.prog os Rows.foremanReadRow.laid) #[.slice none 0 0, .int .u16 0, .int .u8 0, .bool false] 8 (World.laidAll_os _ _ _)
      (World.shaped_of_ZipB (by kernel_rfl) (by kernel_rfl)) (by kernel_rfl) (by kernel_rfl) (by kernel_rfl)
      (by rw [MakeChecks.laidMetH_plain _ _ _ (by kernel_rfl)]; exact laidMet_laidAll _ (by kernel_rfl) (by kernel_rfl)))
    [tSh, tU16, tB, zyN] P9 Tryz.laidOut (by kernel_rfl) rfl rfl (by kernel_rfl)
    (fun ds h => match ds, h with | [_, _, _, _], _ => rfl)
    (fun xs h => by
      simp only [Ty.hasAll] at h;obtain ⟨x0, r0, rfl, h0, x1, r1, rfl, h1, x2, r2, rfl, h2, x3, r3, rfl, h3, rfl⟩ := h;obtain ⟨a, rfl, ha⟩ := zsm h0;obtain ⟨b, rfl, hb⟩ := zww h1;obtain ⟨c, rfl, hc⟩ := zyP h2;obtain ⟨d, rfl, hd⟩ := zuo h3
      exact ⟨5000, a, b, c, d, true, rfl, zwv ha hb hc, rfl⟩)
    (fun w h => lx_of (by kernel_rfl) h)
theorem foremanRead_row:Rows.ForemanReadSaid :=
  OpenClaim.holds_of_wide 9 Tryz.f9 rfl rfl rfl rfl rfl rfl rfl ⟨rfl,rfl,rfl,rfl,rfl⟩ rfl rfl rfl rfl rfl (by kernel_rfl) Tryz.func9 (by kernel_rfl)
    (of_decide_eq_true (by kernel_rfl)) (by unfold Func.isWrapper;first|(rw[if_pos (by decide +kernel)];kernel_rfl)|(rw[if_neg (by decide +kernel)];exact⟨rfl,rfl⟩))
    (fun os started H enc _=>foremanRead_lifted os started H enc)
theorem foremanRead_holds:Rows.ForemanReadCardSaid :=
  Claim7.holds_tied_plain_at .later [] [.data, .data, .data, .data, .pinned] true (true, "db7d98a7bafc083f96861ed504a954a0a0fd6f33642bcbb1a19562f0baa2e531") true
    foremanRead_row (fun _ h=>by cases h) (by kernel_rfl) (fun _ h=>by cases h) foremanRead_row_tie rfl ⟨rfl,rfl⟩ (by kernel_rfl) rfl
    (fun f fn hf hfn=>by
      obtain rfl:f=9:=Option.some.inj ((show Tryz.prog.funcNamed "tusche/tuschelaw14.ForemanRead" = some 9 by kernel_rfl).symm.trans hf) |>.symm
      obtain rfl:fn=Tryz.f9:=(Option.some.inj (Tryz.func9.symm.trans hfn)).symm
      exact⟨by kernel_rfl,fun j t ht=>by
        have hm:t∈Tryz.f9.params.toList:=by simpa using Array.mem_of_getElem? ht
        have hall:(Tryz.f9.params.toList.all fun u=>!Tryz.prog.wantsStandIn u)=true:=by kernel_rfl
        exact(show Tryz.prog.wantsStandIn t=false by simpa using List.all_eq_true.1 hall t hm)⟩)
    (by kernel_rfl)
#print axioms foremanRead_holds
end Go.Proofs.YtijmkjnlgcockaaGreatDoor
