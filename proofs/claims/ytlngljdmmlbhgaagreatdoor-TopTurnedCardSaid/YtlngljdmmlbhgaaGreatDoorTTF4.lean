/-
  A library for proofs about Go functions by symbolic evaluation,and plain Lean functions that the walked Go functions compute (written by a program of this claim).
-/
import Derived.RangeFuncBox
import Derived.RangeFuncLeaves
import Derived.RangeFuncFrom
import Derived.Shelf.Abstract
import Derived.Shelf.RegionOpen
import Derived.WalkKit
import Derived.OwnWalkIn
import Derived.TacticsInMore
import Derived.LoopNIn
import Derived.LoopIn
import Derived.Maps.AppendAt
import Derived.Test.YtlngljdmmlbhgaaGreatDoorProg
import Derived.Test.YtlngljdmmlbhgaaGreatDoorTTF3
set_option linter.unusedVariables false
set_option linter.unnecessarySimpa false
set_option linter.unusedSimpArgs false
namespace Go.Proofs
open Go.RowKit Go.Shelf
attribute [local go_sem] Oper.semAt_some
def zhv (s:ByteArray)(k:Nat):Bool:=Lib.hasPrefix s.data.toList (s.extract k s.size).data.toList
def zc1 (s:ByteArray)(k:Nat):List Int:=((List.range' 1 (k-1)).filter (zhv s)).map λ (i:Nat)=>(i:Int)
def perL (s:ByteArray):List Int:=zc1 s (s.size+1)
theorem zfG {s:ByteArray}{k:Nat}(h1:1<=k)(h:zhv s k=true):zc1 s (k+1)=zc1 s k++[(k:Int)]:=by
 obtain⟨j,rfl⟩:∃ j,k=j+1:=⟨k-1,by omega⟩;simp only[zc1,Nat.add_sub_cancel,List.range'_concat,List.filter_append,List.map_append];simp[show 1+j=j+1 by omega,h]
theorem zet {s:ByteArray}{k:Nat}(h1:1<=k)(h:zhv s k=false):zc1 s (k+1)=zc1 s k:=by
 obtain⟨j,rfl⟩:∃ j,k=j+1:=⟨k-1,by omega⟩;simp only[zc1,Nat.add_sub_cancel,List.range'_concat,List.filter_append,List.map_append];simp[show 1+j=j+1 by omega,h]
theorem znl (s:ByteArray)(k:Nat):(zc1 s k).length<=k-1:=by
 simp only[zc1,List.length_map];exact Nat.le_trans (List.length_filter_le _ _) (by simp)
theorem zoz {s:ByteArray}{k m:Nat}(h:k<=m):zc1 s k <+: zc1 s m:=by
 obtain⟨d,rfl⟩:∃ d,m=k+d:=⟨m-k,by omega⟩;clear h
 induction d with
 | zero=>exact List.prefix_refl _
 | succ d ih =>
  refine ih.trans ?_;by_cases c:1<=k+d
  .rw [show k+(d+1)=(k+d)+1 by omega]
   by_cases h:zhv s (k+d)=true
   .rw [zfG c h];exact List.prefix_append _ _
   .rw [zet c (by simpa using h)];exact List.prefix_refl _
  .rw [show k=0 by omega,show d=0 by omega];exact List.prefix_refl _
set_option maxRecDepth 100000 in
set_option maxHeartbeats 1000000 in
theorem Tryz.per1_in (n:Nat)(hn:1<=n)(l b n₀:Nat)(hb:b<n₀)(s:ByteArray)(hs:s.size<=1000)(J Jx:List Int->World->Prop)
  (hY:∀ (pre:List Int) (x:Int) W,J pre W->pre.length<s.size->1<=x->x<=(s.size:Int)->YieldAt Fence.wide (n-1) Tryz.prog l #[.int .i64 x] W λ e W' =>
   (e = .returned (.bool true)/\J (pre++[x]) W'/\Below n₀ W W')∨(e = .returned (.bool false)/\Jx (pre++[x]) W'))
  (W:World) (hJ:∀ pre W,J pre W->J pre W.drew) (hc:W.cell? ⟨b,0,none⟩=some (.string s)) (h0:J [] W) :
  CallsIn Fence.wide n Tryz.prog 110 #[.func (.yield l) #[] #[], .pointer (some ⟨b,0,none⟩)] W λ e W' => (∃ v,e = .returned v) /\
   ((∃ ys,ys=perL s/\J ys W')∨(∃ pre,pre <+: perL s/\Jx pre W')):=by
 refine callsIn_of_wp Tryz.func110 rfl trivial ?_ rfl;simp only[Tryz.ntmps110,List.size_toArray,List.length_cons,List.length_nil,Nat.reduceAdd,Nat.reduceSub,Array.replicate_succ,Array.replicate_zero,List.push_toArray,List.append_toArray,List.nil_append,List.cons_append]
 gi_wp2
 gi_loopw [3] (λ p wr=>∃ k:Nat,1<=k/\k<=s.size+1/\p = .int .i64 k/\J (zc1 s k) wr/\wr.cell? ⟨b,0,none⟩=some (.string s))
  (λ p wr=>s.size+1-(Lib.intOf p).toNat)
 case atStart =>
  exact⟨1,by omega,by omega,rfl,h0,hc⟩
 case round =>
  obtain⟨k,hk1,hk2,rfl,hJs,hcr⟩:=hrel;have hJd:=hJ _ _ hJs;have hfK:Fence.wide.fn 111:=trivial;by_cases hk:k<=s.size
  .have hlen:=znl s k
   obtain⟨fn,tmps,assign,body,hy,hR⟩:=hY (zc1 s k) k wr.drew hJd (by omega) (by omega) (by omega)
   have hmx:Tryz.prog.follows .mixedOrders=true:=by kernel_rfl
   have hR':=hR.mono (R':=λ e W' => ∃ bl:Bool,e = .returned (.bool bl)/\(bl=true->J (zc1 s k++[(k:Int)]) W'/\Below n₀ wr.drew W')/\(bl=false->Jx (zc1 s k++[(k:Int)]) W')) (by
    rintro e W' (⟨rfl,h1,h2⟩|⟨rfl,h1⟩)
    .exact ⟨true,rfl,λ _=>⟨h1,h2⟩,λ h=>(by cases h)⟩
    .exact ⟨false,rfl,λ h=>(by cases h),λ _=>h1⟩)
   cases hp:zhv s k with
   | true =>
    have hpre:∀ w,Calls Tryz.prog 111 #[.string s, .string (s.extract k s.size)] w λ e w' => e = .returned (.bool true)/\w'=w:=λ w=>by
     have:=Tryz.strings_HasPrefix s (s.extract k s.size) w;unfold zhv at hp;rw[hp] at this;exact this
    gi_wp2
    gi_region_with_o (first|(gi_at_call 111;refine(callsIn_wide.2 (hpre _)).mono ?_;rintro e w' ⟨rfl,rfl⟩)|(refine hR'.mono ?_;rintro e W3 ⟨bl,rfl,hb1,hb2⟩))
    all_goals cases bl with
    | true =>
     obtain⟨hJ3,hk3⟩:=hb1 rfl;have hc3:W3.cell? ⟨b,0,none⟩=some (.string s):=(hk3.cell (p:=⟨b,0,none⟩) hb).trans hcr
     gi_wp2
     go_roundw
     case rel=>exact⟨k+1,by omega,by omega,by simp,by rw[zfG hk1 hp];exact hJ3,hc3⟩
     case measure=>simp[Lib.intOf];omega
    | false =>
     have hJx3:=hb2 rfl
     gi_wp2
     refine bodyPost_ret (results_none rfl _ _ _) rfl ?_;exact⟨⟨_,rfl⟩, .inr ⟨zc1 s k++[(k:Int)],by rw[<- zfG hk1 hp];exact zoz (by omega),hJx3⟩⟩
   | false =>
    have hpre:∀ w,Calls Tryz.prog 111 #[.string s, .string (s.extract k s.size)] w λ e w' => e = .returned (.bool false)/\w'=w:=λ w=>by
     have:=Tryz.strings_HasPrefix s (s.extract k s.size) w;unfold zhv at hp;rw[hp] at this;exact this
    have hcrd:wr.drew.cell? ⟨b,0,none⟩=some (.string s):=hcr
    gi_wp2
    refine wpIn_region_any hmx ?_
    change wpAnyIn _ _ _ _ _ _ _ _ _ (World.drew _)
    refine wpAnyIn_take (i:=2) (v := .int .i64 k) rfl rfl (by kernel_rfl) (by kernel_rfl) (by kernel_rfl) (λ _ _ _ h=>h) ⟨Or.inl ⟨by rfl,λ w=>?_⟩,λ _=>rfl⟩ ?_
    .go_simp
    refine wpAnyIn_ready (rs:=[0,1]) (by kernel_rfl) (by simp) ?_;refine AllReadyIn.cons rfl (λ K hK=>?_) (AllReadyIn.cons rfl (λ K hK=>?_) AllReadyIn.nil)
    .go_simp
     refine hK _ _ ?_;clear hK K;refine wpAnyIn_ready (rs:=[1]) (by kernel_rfl) (by simp) ?_;refine AllReadyIn.cons rfl (λ K hK=>?_) AllReadyIn.nil
     go_simp
     refine hK _ _ ?_;clear hK K;refine wpAnyIn_take (i:=3) (v := .string (s.extract k s.size)) rfl rfl (by kernel_rfl) (by kernel_rfl) (by kernel_rfl) (λ _ _ _ h=>h) ⟨Or.inl ⟨by rfl,λ w=>?_⟩,λ _=>rfl⟩ ?_
     .go_simp
      try rfl
     refine wpAnyIn_ready (rs:=[4]) (by kernel_rfl) (by simp) ?_;refine AllReadyIn.cons rfl (λ K hK=>?_) AllReadyIn.nil
     go_simp
     gi_wp2_with (gi_at_call 111;refine(callsIn_wide.2 (hpre _)).mono ?_;rintro e w' ⟨rfl,rfl⟩)
     refine wpAnyIn_take (i:=5) (v := .bool false) rfl rfl (by kernel_rfl) (by kernel_rfl) (by kernel_rfl) (λ _ _ _ h=>h) ⟨Or.inl ⟨by rfl,λ w=>?_⟩,λ _=>rfl⟩ ?_
     .go_simp
     refine wpAnyIn_take (i:=6) (v:=undef) rfl rfl (by kernel_rfl) (by kernel_rfl) (by kernel_rfl) (λ _ _ _ h=>h) ⟨Or.inr ⟨by rfl,rfl⟩,λ _=>rfl⟩ ?_;refine wpAnyIn_take (i:=7) (v:=undef) rfl rfl (by kernel_rfl) (by kernel_rfl) (by kernel_rfl) (λ _ _ _ h=>h) ⟨Or.inr ⟨by rfl,rfl⟩,λ _=>rfl⟩ ?_;refine wpAnyIn_take (i:=8) (v:=undef) rfl rfl (by kernel_rfl) (by kernel_rfl) (by kernel_rfl) (λ _ _ _ h=>h) ⟨Or.inr ⟨by rfl,rfl⟩,λ _=>rfl⟩ ?_;refine wpAnyIn_take (i:=9) (v:=undef) rfl rfl (by kernel_rfl) (by kernel_rfl) (by kernel_rfl) (λ _ _ _ h=>h) ⟨Or.inr ⟨by rfl,rfl⟩,λ _=>rfl⟩ ?_;refine wpAnyIn_take (i:=10) (v := .bool false) rfl rfl (by kernel_rfl) (by kernel_rfl) (by kernel_rfl) (λ _ _ _ h=>h) ⟨Or.inl ⟨by rfl,λ w=>?_⟩,λ _=>rfl⟩ ?_
     .go_simp
     refine wpAnyIn_done (by kernel_rfl) ?_ _
     gi_wp2
     go_roundw
     case rel=>exact⟨k+1,by omega,by omega,by simp,by rw[zet hk1 hp];exact hJd,hcrd⟩
     case measure=>simp[Lib.intOf];omega
    .go_simp
     refine hK _ _ ?_;clear hK K;refine wpAnyIn_take (i:=3) (v := .string (s.extract k s.size)) rfl rfl (by kernel_rfl) (by kernel_rfl) (by kernel_rfl) (λ _ _ _ h=>h) ⟨Or.inl ⟨by rfl,λ w=>?_⟩,λ _=>rfl⟩ ?_
     .go_simp
      try rfl
     refine wpAnyIn_ready (rs:=[0]) (by kernel_rfl) (by simp) ?_;refine AllReadyIn.cons rfl (λ K hK=>?_) AllReadyIn.nil
     go_simp
     refine hK _ _ ?_;clear hK K;refine wpAnyIn_ready (rs:=[4]) (by kernel_rfl) (by simp) ?_;refine AllReadyIn.cons rfl (λ K hK=>?_) AllReadyIn.nil
     go_simp
     gi_wp2_with (gi_at_call 111;refine(callsIn_wide.2 (hpre _)).mono ?_;rintro e w' ⟨rfl,rfl⟩)
     refine wpAnyIn_take (i:=5) (v := .bool false) rfl rfl (by kernel_rfl) (by kernel_rfl) (by kernel_rfl) (λ _ _ _ h=>h) ⟨Or.inl ⟨by rfl,λ w=>?_⟩,λ _=>rfl⟩ ?_
     .go_simp
     refine wpAnyIn_take (i:=6) (v:=undef) rfl rfl (by kernel_rfl) (by kernel_rfl) (by kernel_rfl) (λ _ _ _ h=>h) ⟨Or.inr ⟨by rfl,rfl⟩,λ _=>rfl⟩ ?_;refine wpAnyIn_take (i:=7) (v:=undef) rfl rfl (by kernel_rfl) (by kernel_rfl) (by kernel_rfl) (λ _ _ _ h=>h) ⟨Or.inr ⟨by rfl,rfl⟩,λ _=>rfl⟩ ?_;refine wpAnyIn_take (i:=8) (v:=undef) rfl rfl (by kernel_rfl) (by kernel_rfl) (by kernel_rfl) (λ _ _ _ h=>h) ⟨Or.inr ⟨by rfl,rfl⟩,λ _=>rfl⟩ ?_;refine wpAnyIn_take (i:=9) (v:=undef) rfl rfl (by kernel_rfl) (by kernel_rfl) (by kernel_rfl) (λ _ _ _ h=>h) ⟨Or.inr ⟨by rfl,rfl⟩,λ _=>rfl⟩ ?_;refine wpAnyIn_take (i:=10) (v := .bool false) rfl rfl (by kernel_rfl) (by kernel_rfl) (by kernel_rfl) (λ _ _ _ h=>h) ⟨Or.inl ⟨by rfl,λ w=>?_⟩,λ _=>rfl⟩ ?_
     .go_simp
     refine wpAnyIn_done (by kernel_rfl) ?_ _
     gi_wp2
     go_roundw
     case rel=>exact⟨k+1,by omega,by omega,by simp,by rw[zet hk1 hp];exact hJd,hcrd⟩
     case measure=>simp[Lib.intOf];omega
  .gi_wp2
   go_end0
   obtain rfl:k=s.size+1:=by omega
   exact⟨⟨_,rfl⟩, .inl ⟨_,rfl,hJs⟩⟩
end Go.Proofs
