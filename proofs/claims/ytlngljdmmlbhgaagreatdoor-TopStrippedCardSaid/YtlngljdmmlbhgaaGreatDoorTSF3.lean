/-
  A library for proofs about Go functions by symbolic evaluation,and plain Lean functions that the walked Go functions compute (written by a program of this claim).
-/
import Derived.Test.YtlngljdmmlbhgaaGreatDoorTSF1
import Derived.Test.YtlngljdmmlbhgaaGreatDoorTSF2
import Derived.Test.YtlngljdmmlbhgaaGreatDoorVc4
set_option linter.unusedVariables false
set_option linter.unnecessarySimpa false
set_option linter.unusedSimpArgs false
namespace Go.Vc
abbrev zpv:Nat:=103090500
abbrev zpw:Nat:=503000001
abbrev zpx:Nat:=103000001
open Go.Proofs
variable {N id:Nat} {ρ:Type} {q:ρ} {xs:List SV} {m:Nat->Blk} {l:List Loc} {ds:List D} {K:Dl->List Loc->Prop} {k0 k1 k2 k3 k4 k5 k6 k7 k8 k9 k10 k11 k12 k13 k14 k15 m0 m1 m2 m3 m4 m5:Nat}
def zfN (l7:List Int):Option ((List Int)) :=
 bif decide ((List.length l7:Int)<(2:Int)) then ((app 8 l7 [(2:Int)]).bind λ x1 =>
 some (x1))
 else (some (l7))
def zl3:Lp ((List Int)) (Nat×Unit) ((List Int)):=lpm ⟨[7],[90007],[(.slot 7,90007,3,1)],[]⟩ (λ l7=>zfN l7) (λ _ (m0,_)=>[.rs 90007 m0]) (λ l7 (_,_)=>[.row 3 1 (List.map iN l7)]) λ l7=>(List.length l7,())
instance Ef8_c8 {l7}:IsLp 1 1 (zfN l7) (zl3) l7:=⟨rfl⟩
instance Cf8_c8:IsCut 1 (zfN) (zl3) 8:=⟨⟩
def zm9 (r3:(List Int)->Int->Option ((List Int)))(a0:List Int)(a1:Int)(a2:Int)(k0:(List Int)->Option ((List Int)))(l7:List Int)(i8':Int):Option ((List Int)) :=
 bif decide ((i8')<(List.length a0:Int)) then (bif decide ((List.length l7:Int)<(5:Int)) then ((ix l7 (W ((List.length l7:Int)-(1:Int)))).bind λ x2 =>
 (ix a0 (i8')).bind λ x3 =>
 (chk (decide (a1≠0))).bind λ _ =>
 bif decide ((W ((W (x2+(1:Int)))+(Int.tmod x3 a1)))<=a2) then ((app 8 l7 [W ((W (x2+(1:Int)))+(Int.tmod x3 a1))]).bind λ x4 =>
 r3 x4 (W ((i8')+(1:Int))))
 else (r3 l7 (W ((i8')+(1:Int)))))
 else (k0 l7))
 else (k0 l7)
def f8_3 (a0:List Int)(a1:Int)(a2:Int)(k0:(List Int)->Option ((List Int))):Nat->(List Int)->Int->Option ((List Int))
 | 0,_,_=>none
 | n+1,l7,i8' => zm9 (f8_3 a0 a1 a2 k0 n) a0 a1 a2 k0 l7 i8'
def zph (a0:List Int)(a1:Int)(a2:Int)(k0:(List Int)->Option ((List Int))):Lp (Nat×(List Int)×Int) (Nat×Unit) ((List Int)):=lpm ⟨[0,1,2,7,8],[90007],[(.slot 7,90007,3,1)],[]⟩ (λ (n,l7,i8')=>f8_3 a0 a1 a2 k0 n l7 i8') (λ (_,_,i8') (m0,_)=>[.dat (zfo a0), .dat (iN a1), .dat (iN a2), .rs 90007 m0, .dat (iN (i8'))]) (λ (_,l7,_) (_,_)=>[.row 3 1 (List.map iN l7)]) λ (_,l7,_)=>(List.length l7,())
instance Ef8_3 {a0 a1 a2 k0 n l7 i8'}:IsLp 1 2 (f8_3 a0 a1 a2 k0 n l7 i8') (zph a0 a1 a2 k0) (n,l7,i8'):=⟨rfl⟩
def f8 (N:Nat)(a0:List Int)(a1:Int)(a2:Int):Option ((List Int)) :=
 zbC zfN λ k0 =>
 f8_3 a0 a1 a2 k0 N [(0:Int)] (0:Int)
def G8 (ds:List D)(d:D):Prop:=∃ (N:Nat) (a0:List Int) (a1:Int) (a2:Int) (r:(List Int)),ds=[zfo a0,iN a1,iN a2]/\f8 N a0 a1 a2=some r/\d=zev r
theorem G8.step {a0 a1 a2}{A:_->Option ρ}{K:D->Prop}(hd:ds=[zfo a0,iN a1,iN a2])(h:∀ r,A r=some q->K (zev r))(hF:(f8 N a0 a1 a2).bind A=some q):∃ d,G8 ds d/\K d:=by
 obtain⟨r,hr,hA⟩:=bind_some hF;exact⟨_,⟨N,a0,a1,a2,r,hd,hr,rfl⟩,h r hA⟩
set_option maxRecDepth 20000 in
set_option maxHeartbeats 4000000 in
theorem P8:PureOK Tryz.prog 8 G8:=by
 refine zau (c:=za2 zaO []) rfl tyOK (zaB) [[1]] 3 Tryz.func8 rfl rfl (by decide) (by kernel_rfl) ?_;rintro ds d ⟨N,a0,a1,a2,r,rfl,hF,rfl⟩ hok;clear hok;refine⟨rfl, ?_⟩;show vc _ _ _ _ ⟨[(0, .dat (zfo a0)),(1, .dat (iN a1)),(2, .dat (iN a2))],[]⟩ _;unfold f8 at hF
 repeat' (first
 | ((with_reducible first|refine q0 _ _ ?_|refine q1 _ _ _ _ ?_|refine q2 _ _ _ ?_);clear Q q0 q1 q2)
 | ((with_reducible first|refine zbz ?hx (λ Q q0 q1 q2=>?_)|refine zd2 ?hx (λ Q q0 q1 q2=>?_));(case hx=>exact rfl);conv=>whnf)
 | ((with_reducible refine zer ?_);(first|((first|refine zcM rfl ?hy (λ Q q0 q1 q2=>?_)|refine zbW rfl ?hy (λ Q q0 q1 q2=>?_));(case hy=>first|assumption|exact notT (by assumption)|exact rfl);conv=>whnf)|((first|refine zbV rfl ?hy ?_|refine zbs rfl ?hy ?_);(case hy=>first|assumption|exact notF (by assumption)|exact rfl))|(revert hF;(with_reducible first|refine zcN ?hx ?_ ?_|refine zbX ?hx ?_ ?_);(case hx=>exact rfl);(intro hc hF Q q0 q1 q2;conv=>whnf);rotate_left;(intro hc hF);rotate_right)|(revert hF;(with_reducible first|refine zcO ?hx ?_ ?_|refine zbY ?hx ?_ ?_);(case hx=>exact rfl);(intro hc hF);rotate_left;(intro hc hF Q q0 q1 q2;conv=>whnf);rotate_right)))
 | ((with_reducible refine zbL ?_);(first|((refine zcK rfl ?hy ?_);(case hy=>first|assumption|exact notT (by assumption)|exact rfl))|((refine zcL rfl ?hy ?_);(case hy=>first|assumption|exact notF (by assumption)|exact rfl))|(revert hF;(with_reducible refine zfd ?hx ?_ ?_);(case hx=>exact rfl);all_goals (intro hc hF))))
 | ((with_reducible refine zaX ?_);(first|((with_reducible refine hR _ ?_);clear R hR)|((with_reducible refine hL _ ?_);clear L hL)))
 | ((with_reducible refine zcW ?_);(with_reducible refine hR _ _ ?hx ?_);(case hx=>kernel_rfl);clear R hR)
 | ((with_reducible first|refine zbh ?_|refine zbD ?_|refine idx2 (by assumption) ?_|refine idx3 (by assumption) ?_);conv=>whnf)
 | (with_reducible first|refine zbd ?_|refine zaW ?_|refine zby ?_|refine zbI ?_|refine zaz (λ R hR=>?_)|refine zay ?_|refine zaJ ?_|refine zeM ?_|refine zaT ?_|refine zaK ?_|refine zba ?_|refine zaU ?_)
 | ((with_reducible refine zaZ [8] ?hx ?_);(case hx=>exact rfl))
 | ((with_reducible refine zd0 ?hx (λ R L hL hR=>?_));(case hx=>exact rfl))
 | ((with_reducible replace hF:=isE hF);(dsimp only[zl3,zph,f8_3] at hF);first|rewrite[zfN] at hF|rewrite[zm9] at hF)
 | ((with_reducible refine zbi ?_);(with_reducible replace hF:=zdS 1 hF);((refine Lp.cutI hF rfl rfl ?_ ?_) <;> clear hF);(intro hF);rotate_left;(rintro _ hF);rotate_right)
 | ((with_reducible refine za9 ?_);(with_reducible replace hF:=toLp 1 1 hF);exact Lp.headI hF (_,()) ⟨_,rfl,rfl,rfl,rfl⟩ (pr2 (by first|exact rfl|assumption|omega|(simp only[List.length_set];done)) rfl))
 | ((with_reducible refine zcr ?_);(with_reducible replace hF:=toLp 1 2 hF);((refine Lp.loopI hF (_,()) rfl ⟨_,rfl,rfl,rfl,rfl⟩ (pr2 (by first|exact rfl|assumption|omega|(simp only[List.length_set];done)) rfl) (λ _=>rfl) ?_);clear hF);(rintro n ⟨_,_⟩ hF))
 | ((with_reducible refine zcs ?_);(with_reducible replace hF:=toLp 1 2 hF);exact Lp.backI hF (_,()) ⟨_,rfl,rfl,rfl,rfl⟩ (pr2 (by first|exact rfl|assumption|omega|(simp only[List.length_set];done)) rfl))
 | (revert hF;(with_reducible refine idx1 ?hn ?_);(case hn=>first|exact rfl|exact(List.length_map _)|assumption|omega|simp);intro x hx hF;conv=>whnf)
 | ((with_reducible have hG:=zc2 hF);clear hF;(first|((refine zdk hG ?hn ?hs (λ q hF=>?_));(case hn=>first|exact rfl|assumption|omega);(case hs=>exact rfl))|((refine zdj (d:=iN) hG ?hs (λ q hF=>?_));(case hs=>exact rfl))|((refine zdl (d:=iN) hG ?ho ?hn ?hs (λ q hF=>?_));(case ho=>exact rfl);(case hn=>exact rfl);(case hs=>exact rfl)));clear hG;conv=>whnf)
 | ((refine ze ?hn ?_);(case hn=>first|exact rfl|(simp;done)|(simp;omega));conv=>whnf)
 | ((with_reducible refine zfc ?hn ?_);(case hn=>first|exact rfl|assumption|omega);conv=>whnf)
 | ((with_reducible refine zlA ?_);conv=>whnf)
 | ((with_reducible have hG:=zmQ hF);clear hF;(refine⟨?hx, ?_⟩);(case hx=>(first|exact of_decide_eq_true hG.1|exact hG.1));have hF:=hG.2;clear hG;conv=>whnf)
 | ((with_reducible refine zep ?hx ?_);(case hx=>first|exact rfl|assumption|exact notT (by assumption));conv=>whnf)
 | ((with_reducible refine zeq ?hx ?_);(case hx=>first|exact rfl|assumption|exact notF (by assumption));conv=>whnf)
 | ((refine⟨?hx,trivial⟩);(case hx=>(cases hF;exact rfl)))
 | with_reducible refine zcz ?_)
def f56 (N:Nat)(a0:Int)(a1:Int)(a2:Int):Option (Bool) :=
 bif decide (a0<=a1) then (some (decide (a1<=a2)))
 else (some (false))
def G56 (ds:List D)(d:D):Prop:=∃ (N:Nat) (a0:Int) (a1:Int) (a2:Int) (r:Bool),ds=[iN a0,iN a1,iN a2]/\f56 N a0 a1 a2=some r/\d=bN r
theorem G56.lend {a0 a1 a2}{A:_->Option ρ}{K:D->Prop}(hd:ds=[iN a0,iN a1,iN a2])(h:∀ r,A r=some q->K (bN r))(hF:(f56 N a0 a1 a2).bind A=some q):∃ d,(G56 ds d/\d.flatB=true)/\K d:=by
 obtain⟨r,hr,hA⟩:=bind_some hF;exact⟨_,⟨⟨N,a0,a1,a2,r,hd,hr,rfl⟩,rfl⟩,h r hA⟩
set_option maxRecDepth 20000 in
set_option maxHeartbeats 4000000 in
theorem P56:PureOK Tryz.prog 56 G56:=by
 refine zau (c:=za2 zaO []) rfl tyOK (zaB) [[0]] 3 Tryz.func56 rfl rfl (by decide) (by kernel_rfl) ?_;rintro ds d ⟨N,a0,a1,a2,r,rfl,hF,rfl⟩ hok;clear hok;refine⟨rfl, ?_⟩;show vc _ _ _ _ ⟨[(0, .dat (iN a0)),(1, .dat (iN a1)),(2, .dat (iN a2))],[]⟩ _;unfold f56 at hF
 repeat' (first
 | ((with_reducible first|refine q0 _ _ ?_|refine q1 _ _ _ _ ?_|refine q2 _ _ _ ?_);clear Q q0 q1 q2)
 | ((with_reducible first|refine zbz ?hx (λ Q q0 q1 q2=>?_));(case hx=>exact rfl);conv=>whnf)
 | ((with_reducible refine zer ?_);(first|((first|refine zcM rfl ?hy (λ Q q0 q1 q2=>?_)|refine zbW rfl ?hy (λ Q q0 q1 q2=>?_));(case hy=>first|assumption|exact notT (by assumption)|exact rfl);conv=>whnf)|((first|refine zbV rfl ?hy ?_|refine zbs rfl ?hy ?_);(case hy=>first|assumption|exact notF (by assumption)|exact rfl))|(revert hF;(with_reducible first|refine zcN ?hx ?_ ?_|refine zbX ?hx ?_ ?_);(case hx=>exact rfl);(intro hc hF Q q0 q1 q2;conv=>whnf);rotate_left;(intro hc hF);rotate_right)|(revert hF;(with_reducible first|refine zcO ?hx ?_ ?_|refine zbY ?hx ?_ ?_);(case hx=>exact rfl);(intro hc hF);rotate_left;(intro hc hF Q q0 q1 q2;conv=>whnf);rotate_right)))
 | ((with_reducible refine zaX ?_);(first|((with_reducible refine hR _ ?_);clear R hR)|((with_reducible refine hL _ ?_);clear L hL)))
 | (with_reducible first|refine zaW ?_|refine zby ?_|refine zaz (λ R hR=>?_)|refine zay ?_)
 | ((with_reducible refine zaZ [] ?hx ?_);(case hx=>exact rfl))
 | ((with_reducible refine zep ?hx ?_);(case hx=>first|exact rfl|assumption|exact notT (by assumption));conv=>whnf)
 | ((with_reducible refine zeq ?hx ?_);(case hx=>first|exact rfl|assumption|exact notF (by assumption));conv=>whnf)
 | ((refine⟨?hx,trivial⟩);(case hx=>(cases hF;exact rfl)))
 | with_reducible refine zcz ?_)
def f95 (N:Nat)(a0:Int)(a1:Int)(a2:Int):Option (Bool) :=
 bif decide (a0<=a1) then (some (decide (a1<=a2)))
 else (some (false))
def G95 (ds:List D)(d:D):Prop:=∃ (N:Nat) (a0:Int) (a1:Int) (a2:Int) (r:Bool),ds=[iN a0,iN a1,iN a2]/\f95 N a0 a1 a2=some r/\d=bN r
theorem G95.lend {a0 a1 a2}{A:_->Option ρ}{K:D->Prop}(hd:ds=[iN a0,iN a1,iN a2])(h:∀ r,A r=some q->K (bN r))(hF:(f95 N a0 a1 a2).bind A=some q):∃ d,(G95 ds d/\d.flatB=true)/\K d:=by
 obtain⟨r,hr,hA⟩:=bind_some hF;exact⟨_,⟨⟨N,a0,a1,a2,r,hd,hr,rfl⟩,rfl⟩,h r hA⟩
set_option maxRecDepth 20000 in
set_option maxHeartbeats 4000000 in
theorem P95:PureOK Tryz.prog 95 G95:=by
 refine zau (c:=za2 zaO []) rfl tyOK (zaB) [[0]] 3 Tryz.func95 rfl rfl (by decide) (by kernel_rfl) ?_;rintro ds d ⟨N,a0,a1,a2,r,rfl,hF,rfl⟩ hok;clear hok;refine⟨rfl, ?_⟩;show vc _ _ _ _ ⟨[(0, .dat (iN a0)),(1, .dat (iN a1)),(2, .dat (iN a2))],[]⟩ _;unfold f95 at hF
 repeat' (first
 | ((with_reducible first|refine q0 _ _ ?_|refine q1 _ _ _ _ ?_|refine q2 _ _ _ ?_);clear Q q0 q1 q2)
 | ((with_reducible first|refine zbz ?hx (λ Q q0 q1 q2=>?_));(case hx=>exact rfl);conv=>whnf)
 | ((with_reducible refine zer ?_);(first|((first|refine zcM rfl ?hy (λ Q q0 q1 q2=>?_)|refine zbW rfl ?hy (λ Q q0 q1 q2=>?_));(case hy=>first|assumption|exact notT (by assumption)|exact rfl);conv=>whnf)|((first|refine zbV rfl ?hy ?_|refine zbs rfl ?hy ?_);(case hy=>first|assumption|exact notF (by assumption)|exact rfl))|(revert hF;(with_reducible first|refine zcN ?hx ?_ ?_|refine zbX ?hx ?_ ?_);(case hx=>exact rfl);(intro hc hF Q q0 q1 q2;conv=>whnf);rotate_left;(intro hc hF);rotate_right)|(revert hF;(with_reducible first|refine zcO ?hx ?_ ?_|refine zbY ?hx ?_ ?_);(case hx=>exact rfl);(intro hc hF);rotate_left;(intro hc hF Q q0 q1 q2;conv=>whnf);rotate_right)))
 | ((with_reducible refine zaX ?_);(first|((with_reducible refine hR _ ?_);clear R hR)|((with_reducible refine hL _ ?_);clear L hL)))
 | (with_reducible first|refine zaW ?_|refine zby ?_|refine zaz (λ R hR=>?_)|refine zay ?_)
 | ((with_reducible refine zaZ [] ?hx ?_);(case hx=>exact rfl))
 | ((with_reducible refine zep ?hx ?_);(case hx=>first|exact rfl|assumption|exact notT (by assumption));conv=>whnf)
 | ((with_reducible refine zeq ?hx ?_);(case hx=>first|exact rfl|assumption|exact notF (by assumption));conv=>whnf)
 | ((refine⟨?hx,trivial⟩);(case hx=>(cases hF;exact rfl)))
 | with_reducible refine zcz ?_)
def f96 (N:Nat)(a0:Label):Option (Int×Int) :=
 some (a0.X,W (a0.X+a0.W))
def G96 (ds:List D)(d:D):Prop:=∃ (N:Nat) (a0:Label) (r:Int×Int),ds=[Label.d a0]/\f96 N a0=some r/\d = .tup [iN r.1,iN r.2]
theorem G96.lend {a0}{A:_->Option ρ}{K:D->Prop}(hd:ds=[Label.d a0])(h:∀ r,A r=some q->K (.tup [iN r.1,iN r.2]))(hF:(f96 N a0).bind A=some q):∃ d,(G96 ds d/\d.flatB=true)/\K d:=by
 obtain⟨r,hr,hA⟩:=bind_some hF;exact⟨_,⟨⟨N,a0,r,hd,hr,rfl⟩,rfl⟩,h r hA⟩
set_option maxRecDepth 20000 in
set_option maxHeartbeats 4000000 in
theorem P96:PureOK Tryz.prog 96 G96:=by
 refine zau (c:=za2 zaO []) rfl tyOK (zaB) [[0],[0]] 1 Tryz.func96 rfl rfl (by decide) (by kernel_rfl) ?_;rintro ds d ⟨N,a0,r,rfl,hF,rfl⟩ hok;clear hok;refine⟨rfl, ?_⟩;show vc _ _ _ _ ⟨[(0, .dat (Label.d a0))],[]⟩ _;unfold f96 at hF
 repeat' (first
 | ((with_reducible first|refine q0 _ _ ?_|refine q1 _ _ _ _ ?_|refine q2 _ _ _ ?_);clear Q q0 q1 q2)
 | ((with_reducible first|refine zbz ?hx (λ Q q0 q1 q2=>?_)|refine zd2 ?hx (λ Q q0 q1 q2=>?_));(case hx=>exact rfl);conv=>whnf)
 | ((with_reducible refine zaX ?_);(first|((with_reducible refine hR _ ?_);clear R hR)|((with_reducible refine hL _ ?_);clear L hL)))
 | ((with_reducible refine zcW ?_);(with_reducible refine hR _ _ ?hx ?_);(case hx=>kernel_rfl);clear R hR)
 | ((with_reducible first|refine zbh ?_);conv=>whnf)
 | (with_reducible first|refine zaW ?_|refine zby ?_|refine zaz (λ R hR=>?_)|refine zay ?_)
 | ((with_reducible refine zaZ [] ?hx ?_);(case hx=>exact rfl))
 | ((with_reducible refine zd0 ?hx (λ R L hL hR=>?_));(case hx=>exact rfl))
 | ((refine⟨?hx,trivial⟩);(case hx=>(cases hF;exact rfl)))
 | with_reducible refine zcz ?_)
def f98 (N:Nat)(a0:Label):Option (Int×Int) :=
 some (a0.Y,W (a0.Y+a0.H))
def G98 (ds:List D)(d:D):Prop:=∃ (N:Nat) (a0:Label) (r:Int×Int),ds=[Label.d a0]/\f98 N a0=some r/\d = .tup [iN r.1,iN r.2]
theorem G98.lend {a0}{A:_->Option ρ}{K:D->Prop}(hd:ds=[Label.d a0])(h:∀ r,A r=some q->K (.tup [iN r.1,iN r.2]))(hF:(f98 N a0).bind A=some q):∃ d,(G98 ds d/\d.flatB=true)/\K d:=by
 obtain⟨r,hr,hA⟩:=bind_some hF;exact⟨_,⟨⟨N,a0,r,hd,hr,rfl⟩,rfl⟩,h r hA⟩
set_option maxRecDepth 20000 in
set_option maxHeartbeats 4000000 in
theorem P98:PureOK Tryz.prog 98 G98:=by
 refine zau (c:=za2 zaO []) rfl tyOK (zaB) [[0],[0]] 1 Tryz.func98 rfl rfl (by decide) (by kernel_rfl) ?_;rintro ds d ⟨N,a0,r,rfl,hF,rfl⟩ hok;clear hok;refine⟨rfl, ?_⟩;show vc _ _ _ _ ⟨[(0, .dat (Label.d a0))],[]⟩ _;unfold f98 at hF
 repeat' (first
 | ((with_reducible first|refine q0 _ _ ?_|refine q1 _ _ _ _ ?_|refine q2 _ _ _ ?_);clear Q q0 q1 q2)
 | ((with_reducible first|refine zbz ?hx (λ Q q0 q1 q2=>?_)|refine zd2 ?hx (λ Q q0 q1 q2=>?_));(case hx=>exact rfl);conv=>whnf)
 | ((with_reducible refine zaX ?_);(first|((with_reducible refine hR _ ?_);clear R hR)|((with_reducible refine hL _ ?_);clear L hL)))
 | ((with_reducible refine zcW ?_);(with_reducible refine hR _ _ ?hx ?_);(case hx=>kernel_rfl);clear R hR)
 | ((with_reducible first|refine zbh ?_);conv=>whnf)
 | (with_reducible first|refine zaW ?_|refine zby ?_|refine zaz (λ R hR=>?_)|refine zay ?_)
 | ((with_reducible refine zaZ [] ?hx ?_);(case hx=>exact rfl))
 | ((with_reducible refine zd0 ?hx (λ R L hL hR=>?_));(case hx=>exact rfl))
 | ((refine⟨?hx,trivial⟩);(case hx=>(cases hF;exact rfl)))
 | with_reducible refine zcz ?_)
def f49 (N:Nat)(a0:Layout):Option (Piece) :=
 some ((Piece.mk (Label.mk (0:Int) (0:Int) a0.W a0.H) a0.Labels))
def G49 (ds:List D)(d:D):Prop:=∃ (N:Nat) (a0:Layout) (r:Piece),ds=[Layout.d a0]/\f49 N a0=some r/\d=Piece.d r
theorem G49.step {a0}{A:_->Option ρ}{K:D->Prop}(hd:ds=[Layout.d a0])(h:∀ r,A r=some q->K (Piece.d r))(hF:(f49 N a0).bind A=some q):∃ d,G49 ds d/\K d:=by
 obtain⟨r,hr,hA⟩:=bind_some hF;exact⟨_,⟨N,a0,r,hd,hr,rfl⟩,h r hA⟩
set_option maxRecDepth 20000 in
set_option maxHeartbeats 4000000 in
theorem P49:PureOK Tryz.prog 49 G49:=by
 refine zau (c:=za2 zaO []) rfl tyOK (zaB) [[0,0,0,0,4]] 1 Tryz.func49 rfl rfl (by decide) (by kernel_rfl) ?_;rintro ds d ⟨N,a0,r,rfl,hF,rfl⟩ hok;clear hok;refine⟨rfl, ?_⟩;show vc _ _ _ _ ⟨[(0, .dat (Layout.d a0))],[]⟩ _;unfold f49 at hF
 repeat' (first
 | ((with_reducible first|refine q0 _ _ ?_|refine q1 _ _ _ _ ?_|refine q2 _ _ _ ?_);clear Q q0 q1 q2)
 | ((with_reducible first|refine zbz ?hx (λ Q q0 q1 q2=>?_)|refine zcD ?hx (λ Q q0 q1 q2=>?_));(case hx=>exact rfl);conv=>whnf)
 | ((with_reducible refine zaX ?_);(first|((with_reducible refine hR _ ?_);clear R hR)|((with_reducible refine hL _ ?_);clear L hL)))
 | (with_reducible first|refine zaW ?_|refine zby ?_|refine zaz (λ R hR=>?_)|refine zay ?_)
 | ((with_reducible refine zaZ [] ?hx ?_);(case hx=>exact rfl))
 | ((refine⟨?hx,trivial⟩);(case hx=>(cases hF;exact rfl)))
 | with_reducible refine zcz ?_)
def f13 (N:Nat):Option (Bool) :=
 some true
def G13 (ds:List D)(d:D):Prop:=∃ (N:Nat) (r:Bool),ds=[]/\f13 N  = some r/\d=bN r
theorem G13.lend {A:_->Option ρ}{K:D->Prop}(hd:ds=[])(h:∀ r,A r=some q->K (bN r))(hF:(f13 N ).bind A=some q):∃ d,(G13 ds d/\d.flatB=true)/\K d:=by
 obtain⟨r,hr,hA⟩:=bind_some hF;exact⟨_,⟨⟨N,r,hd,hr,rfl⟩,rfl⟩,h r hA⟩
theorem P13:PureOK Tryz.prog 13 G13:=λ w Z vs ds d h1 h2 h3 h4 h5=>Cv.P13 w Z vs ds d h1 h2 h3 h4 (by
 obtain⟨N,r,rfl,hF,rfl⟩:=h5
 cases hF
 exact⟨rfl,rfl⟩)

end Go.Vc
namespace Go.Vc
open Go.Proofs
variable {N id:Nat} {ρ:Type} {q:ρ} {xs:List SV} {m:Nat->Blk} {l:List Loc} {ds:List D} {K:Dl->List Loc->Prop} {k0 k1 k2 k3 k4 k5 k6 k7 k8 k9 k10 k11 k12 k13 k14 k15 m0 m1 m2 m3 m4 m5:Nat}
def zec:Option (Int) :=
 some ((0:Int))
def zgS:Lp (Unit) Unit (Int):=lp0 ⟨[],[],[],[]⟩ (λ _=>[]) (λ _=>[]) (λ _=>zec)
instance Ef47_c11:IsLp 0 0 (zec) (zgS) ():=⟨rfl⟩
instance Cf47_c11:IsCut 0 (zec) (zgS) 11:=⟨⟩
def znr (r3:Int->Int->Option (Int))(a0:List Int)(a1:Int)(a2:Int)(N:Nat)(k0:Option (Int))(last7:Int)(v14:Int):Option (Int) :=
 bif decide (v14<(List.length a0:Int)) then ((ix a0 v14).bind λ x1 =>
 (f56 N a1 x1 a2).bind λ x2 =>
 bif !x2 then (some ((4:Int)))
 else (bif decide (x1<=last7) then (some ((7:Int)))
 else (r3 x1 (W (v14+(1:Int))))))
 else k0
def zl4 (a0:List Int)(a1:Int)(a2:Int)(N:Nat)(k0:Option (Int)):Nat->Int->Int->Option (Int)
 | 0,_,_=>none
 | n+1,last7,v14=>znr (zl4 a0 a1 a2 N k0 n) a0 a1 a2 N k0 last7 v14
def zns (a0:List Int)(a1:Int)(a2:Int)(N:Nat)(k0:Option (Int)):Lp (Nat×Int×Int) Unit (Int):=lp0 ⟨[1,2,7,12,13,14],[],[],[]⟩ (λ (_,last7,v14)=>[.dat (iN a1), .dat (iN a2), .dat (iN last7), .dat (zev a0), .dat (iN (List.length a0:Int)), .dat (iN v14)]) (λ (_,_,_)=>[]) (λ (n,last7,v14)=>zl4 a0 a1 a2 N k0 n last7 v14)
instance Ef47_3 {a0 a1 a2 N k0 n last7 v14}:IsLp 0 2 (zl4 a0 a1 a2 N k0 n last7 v14) (zns a0 a1 a2 N k0) (n,last7,v14):=⟨rfl⟩
def f47 (N:Nat)(a0:List Int)(a1:Int)(a2:Int):Option (Int) :=
 zbC zec λ k0 =>
 zl4 a0 a1 a2 N k0 N (W (a1-(1:Int))) (0:Int)
def G47 (ds:List D)(d:D):Prop:=∃ (N:Nat) (a0:List Int) (a1:Int) (a2:Int) (r:Int),ds=[zev a0,iN a1,iN a2]/\f47 N a0 a1 a2=some r/\d=iN r
theorem G47.lend {a0 a1 a2}{A:_->Option ρ}{K:D->Prop}(hd:ds=[zev a0,iN a1,iN a2])(h:∀ r,A r=some q->K (iN r))(hF:(f47 N a0 a1 a2).bind A=some q):∃ d,(G47 ds d/\d.flatB=true)/\K d:=by
 obtain⟨r,hr,hA⟩:=bind_some hF;exact⟨_,⟨⟨N,a0,a1,a2,r,hd,hr,rfl⟩,rfl⟩,h r hA⟩
set_option maxRecDepth 20000 in
set_option maxHeartbeats 4000000 in
theorem P47:PureOK Tryz.prog 47 G47:=by
 refine zau (c:=za2 zaO [(56,true,lendPg [[0],[0],[0]] G56)]) rfl tyOK (zaS (zal Tryz.func56 rfl rfl) P56 (zaB)) [[0]] 3 Tryz.func47 rfl rfl (by decide) (by kernel_rfl) ?_;rintro ds d ⟨N,a0,a1,a2,r,rfl,hF,rfl⟩ hok;clear hok;refine⟨rfl, ?_⟩;show vc _ _ _ _ ⟨[(0, .dat (zev a0)),(1, .dat (iN a1)),(2, .dat (iN a2))],[]⟩ _;unfold f47 at hF
 repeat' (first
 | ((with_reducible first|refine q0 _ _ ?_|refine q1 _ _ _ _ ?_|refine q2 _ _ _ ?_);clear Q q0 q1 q2)
 | ((with_reducible first|refine zbz ?hx (λ Q q0 q1 q2=>?_));(case hx=>exact rfl);conv=>whnf)
 | ((with_reducible refine zbL ?_);(first|((refine zcK rfl ?hy ?_);(case hy=>first|assumption|exact notT (by assumption)|exact rfl))|((refine zcL rfl ?hy ?_);(case hy=>first|assumption|exact notF (by assumption)|exact rfl))|(revert hF;(with_reducible refine zfd ?hx ?_ ?_);(case hx=>exact rfl);all_goals (intro hc hF))))
 | ((with_reducible refine zaX ?_);(first|((with_reducible refine hR _ ?_);clear R hR)|((with_reducible refine hL _ ?_);clear L hL)))
 | ((with_reducible first|refine zbh ?_|refine zbD ?_|refine idx2 (by assumption) ?_|refine idx3 (by assumption) ?_);conv=>whnf)
 | (with_reducible first|refine zbd ?_|refine zaW ?_|refine zby ?_|refine zbI ?_|refine zaz (λ R hR=>?_)|refine zay ?_|refine zaJ ?_|refine zeM ?_|refine zaT ?_|refine zaK ?_|refine zba ?_|refine zaU ?_)
 | ((with_reducible refine zaZ [11] ?hx ?_);(case hx=>exact rfl))
 | ((with_reducible replace hF:=isE hF);(dsimp only[zgS,zns,zl4] at hF);first|((with_reducible replace hF:=chkE (e:=zec) hF);rewrite[zec] at hF)|rewrite[znr] at hF)
 | ((with_reducible refine zbi ?_);(with_reducible replace hF:=zdS 0 hF);((refine Lp.cutI hF rfl rfl ?_ ?_) <;> clear hF);(intro hF);rotate_left;(rintro _ hF);rotate_right)
 | ((with_reducible refine za9 ?_);(with_reducible replace hF:=toLp 0 0 hF);exact Lp.headI hF () ⟨_,rfl,rfl,rfl,rfl⟩ rfl)
 | ((with_reducible refine zcr ?_);(with_reducible replace hF:=toLp 0 2 hF);((refine Lp.loopI hF () rfl ⟨_,rfl,rfl,rfl,rfl⟩ rfl (λ _=>rfl) ?_);clear hF);(rintro n ⟨_,_⟩ hF))
 | ((with_reducible refine zcs ?_);(with_reducible replace hF:=toLp 0 2 hF);exact Lp.backI hF () ⟨_,rfl,rfl,rfl,rfl⟩ rfl)
 | (revert hF;(with_reducible refine G56.lend ?hx ?_);(case hx=>exact rfl);intro v hF;conv=>whnf)
 | (revert hF;(with_reducible refine idx1 ?hn ?_);(case hn=>first|exact rfl|exact(List.length_map _)|assumption|omega|simp);intro x hx hF;conv=>whnf)
 | ((refine⟨?hx,trivial⟩);(case hx=>(cases hF;exact rfl)))
 | with_reducible refine zcz ?_)
def zed:Option (Int) :=
 some ((0:Int))
def zgT:Lp (Unit) Unit (Int):=lp0 ⟨[],[],[],[]⟩ (λ _=>[]) (λ _=>[]) (λ _=>zed)
instance Ef48_c23:IsLp 0 0 (zed) (zgT) ():=⟨rfl⟩
instance Cf48_c23:IsCut 0 (zed) (zgT) 23:=⟨⟩
def zee (a0:Layout)(v80:Int)(r14:Int->Option (Int)):Option (Int) :=
 r14 (W (v80+(1:Int)))
def zgU (a0:Layout)(v80:Int)(r14:Int->Option (Int)):Lp (Unit) Unit (Int):=lp0 ⟨[1,78,79,80],[0],[],[]⟩ (λ _=>[.ptr 0 0, .dat (zap a0.Labels), .dat (iN (List.length a0.Labels:Int)), .dat (iN v80)]) (λ _=>[.box [.dat (iN a0.W), .dat (iN a0.H), .dat (zap a0.Labels)]]) (λ _=>zee a0 v80 r14)
instance Ef48_c22 {a0 v80 r14}:IsLp 0 0 (zee a0 v80 r14) (zgU a0 v80 r14) ():=⟨rfl⟩
instance Cf48_c22 {a0 v80 r14}:IsCut 0 (zee a0 v80 r14) (zgU a0 v80 r14) 22:=⟨⟩
def zl5 (r17:Int->Option (Int))(a0:Layout)(N:Nat)(v80:Int)(k1:Option (Int))(x3:Label)(x4:List Label)(v90:Int):Option (Int) :=
 bif decide (v90<(List.length x4:Int)) then ((ix x4 v90).bind λ x5 =>
 (f96 N x3).bind λ x6 =>
 (f96 N x5).bind λ x7 =>
 bif decide (x6.1<x7.2) then (bif decide (x7.1<x6.2) then ((f98 N x3).bind λ x8 =>
 (f98 N x5).bind λ x9 =>
 bif decide (x8.1<x9.2) then (bif decide (x9.1<x8.2) then (some ((12:Int)))
 else (r17 (W (v90+(1:Int)))))
 else (r17 (W (v90+(1:Int)))))
 else (r17 (W (v90+(1:Int)))))
 else (r17 (W (v90+(1:Int)))))
 else k1
def zh5 (a0:Layout)(N:Nat)(v80:Int)(k1:Option (Int))(x3:Label)(x4:List Label):Nat->Int->Option (Int)
 | 0,_=>none
 | n+1,v90=>zl5 (zh5 a0 N v80 k1 x3 x4 n) a0 N v80 k1 x3 x4 v90
def zl6 (a0:Layout)(N:Nat)(v80:Int)(k1:Option (Int))(x3:Label)(x4:List Label):Lp (Nat×Int) Unit (Int):=lp0 ⟨[1,6,78,79,80,88,89,90],[0,1503],[],[]⟩ (λ (_,v90)=>[.ptr 0 0, .ptr 1503 0, .dat (zap a0.Labels), .dat (iN (List.length a0.Labels:Int)), .dat (iN v80), .dat (zap x4), .dat (iN (List.length x4:Int)), .dat (iN v90)]) (λ (_,_)=>[.box [.dat (iN a0.W), .dat (iN a0.H), .dat (zap a0.Labels)], .box [.dat (iN x3.X), .dat (iN x3.Y), .dat (iN x3.W), .dat (iN x3.H)]]) (λ (n,v90)=>zh5 a0 N v80 k1 x3 x4 n v90)
instance Ef48_17 {a0 N v80 k1 x3 x4 n v90}:IsLp 0 1 (zh5 a0 N v80 k1 x3 x4 n v90) (zl6 a0 N v80 k1 x3 x4) (n,v90):=⟨rfl⟩
def zl7 (r14:Int->Option (Int))(a0:Layout)(N:Nat)(k0:Option (Int))(v80:Int):Option (Int) :=
 bif decide (v80<(List.length a0.Labels:Int)) then (zbC (zee a0 v80 r14) λ k1 =>
 (ix a0.Labels v80).bind λ x3 =>
 (sub a0.Labels 0 v80).bind λ x4 =>
 zh5 a0 N v80 k1 x3 x4 N (0:Int))
 else k0
def zh6 (a0:Layout)(N:Nat)(k0:Option (Int)):Nat->Int->Option (Int)
 | 0,_=>none
 | n+1,v80=>zl7 (zh6 a0 N k0 n) a0 N k0 v80
def zl8 (a0:Layout)(N:Nat)(k0:Option (Int)):Lp (Nat×Int) Unit (Int):=lp0 ⟨[1,78,79,80],[0],[],[]⟩ (λ (_,v80)=>[.ptr 0 0, .dat (zap a0.Labels), .dat (iN (List.length a0.Labels:Int)), .dat (iN v80)]) (λ (_,_)=>[.box [.dat (iN a0.W), .dat (iN a0.H), .dat (zap a0.Labels)]]) (λ (n,v80)=>zh6 a0 N k0 n v80)
instance Ef48_14 {a0 N k0 n v80}:IsLp 0 1 (zh6 a0 N k0 n v80) (zl8 a0 N k0) (n,v80):=⟨rfl⟩
def zef (a0:Layout)(N:Nat):Option (Int) :=
 zbC zed λ k0 =>
 zh6 a0 N k0 N (0:Int)
def zgV (a0:Layout)(N:Nat):Lp (Unit) Unit (Int):=lp0 ⟨[1],[0],[],[]⟩ (λ _=>[.ptr 0 0]) (λ _=>[.box [.dat (iN a0.W), .dat (iN a0.H), .dat (zap a0.Labels)]]) (λ _=>zef a0 N)
instance Ef48_c13 {a0 N}:IsLp 0 0 (zef a0 N) (zgV a0 N) ():=⟨rfl⟩
instance Cf48_c13 {a0 N}:IsCut 0 (zef a0 N) (zgV a0 N) 13:=⟨⟩
def znt (r6:Int->Option (Int))(a0:Layout)(N:Nat)(k2:Option (Int))(v28:Int):Option (Int) :=
 bif decide (v28<(List.length a0.Labels:Int)) then ((ix a0.Labels v28).bind λ x10 =>
 bif decide (x10.W<(1:Int)) then (some ((3:Int)))
 else (bif decide (x10.H<(1:Int)) then (some ((3:Int)))
 else ((f95 N (0:Int) x10.X a0.W).bind λ x11 =>
 bif !x11 then (some ((16:Int)))
 else ((f95 N (0:Int) x10.Y a0.H).bind λ x12 =>
 bif !x12 then (some ((16:Int)))
 else (bif decide ((W (a0.W-x10.X))<x10.W) then (some ((16:Int)))
 else (bif decide ((W (a0.H-x10.Y))<x10.H) then (some ((16:Int)))
 else (r6 (W (v28+(1:Int))))))))))
 else k2
def zl9 (a0:Layout)(N:Nat)(k2:Option (Int)):Nat->Int->Option (Int)
 | 0,_=>none
 | n+1,v28=>znt (zl9 a0 N k2 n) a0 N k2 v28
def znu (a0:Layout)(N:Nat)(k2:Option (Int)):Lp (Nat×Int) Unit (Int):=lp0 ⟨[1,26,27,28],[0],[],[]⟩ (λ (_,v28)=>[.ptr 0 0, .dat (zap a0.Labels), .dat (iN (List.length a0.Labels:Int)), .dat (iN v28)]) (λ (_,_)=>[.box [.dat (iN a0.W), .dat (iN a0.H), .dat (zap a0.Labels)]]) (λ (n,v28)=>zl9 a0 N k2 n v28)
instance Ef48_6 {a0 N k2 n v28}:IsLp 0 1 (zl9 a0 N k2 n v28) (znu a0 N k2) (n,v28):=⟨rfl⟩
def f48 (N:Nat)(a0:Layout):Option (Int) :=
 (f95 N (1:Int) a0.W (12:Int)).bind λ x1 =>
 bif !x1 then (some ((3:Int)))
 else ((f95 N (1:Int) a0.H (12:Int)).bind λ x2 =>
 bif !x2 then (some ((3:Int)))
 else (bif decide ((10:Int)<(List.length a0.Labels:Int)) then (some ((2:Int)))
 else (zbC (zef a0 N) λ k2 =>
 zl9 a0 N k2 N (0:Int))))
def G48 (ds:List D)(d:D):Prop:=∃ (N:Nat) (a0:Layout) (r:Int),ds=[Layout.d a0]/\f48 N a0=some r/\d=iN r
theorem G48.lend {a0}{A:_->Option ρ}{K:D->Prop}(hd:ds=[Layout.d a0])(h:∀ r,A r=some q->K (iN r))(hF:(f48 N a0).bind A=some q):∃ d,(G48 ds d/\d.flatB=true)/\K d:=by
 obtain⟨r,hr,hA⟩:=bind_some hF;exact⟨_,⟨⟨N,a0,r,hd,hr,rfl⟩,rfl⟩,h r hA⟩
set_option maxRecDepth 20000 in
set_option maxHeartbeats 4000000 in
theorem P48:PureOK Tryz.prog 48 G48:=by
 refine zau (c:=za2 zaO [(97,false,zhN (za2 zaO [(98,true,lendPg [[0,0,0,0]] G98),(96,true,lendPg [[0,0,0,0]] G96)]) Tryz.f97),(95,true,lendPg [[0],[0],[0]] G95)]) rfl tyOK (zdi (zal Tryz.func97 rfl rfl) (CallOK.inl rfl tyOK (zaS (zal Tryz.func98 rfl rfl) P98 (zaS (zal Tryz.func96 rfl rfl) P96 (zaB))) Tryz.func97 (by kernel_rfl)) (zaS (zal Tryz.func95 rfl rfl) P95 (zaB))) [[0]] 1 Tryz.func48 rfl rfl (by decide) (by kernel_rfl) ?_;rintro ds d ⟨N,a0,r,rfl,hF,rfl⟩ hok;clear hok;refine⟨rfl, ?_⟩;show vc _ _ _ _ ⟨[(0, .dat (Layout.d a0))],[]⟩ _;unfold f48 at hF
 repeat' (first
 | ((with_reducible first|refine q0 _ _ ?_|refine q1 _ _ _ _ ?_|refine q2 _ _ _ ?_);clear Q q0 q1 q2)
 | ((with_reducible first|refine zbz ?hx (λ Q q0 q1 q2=>?_)|refine zcD ?hx (λ Q q0 q1 q2=>?_));(case hx=>exact rfl);conv=>whnf)
 | ((with_reducible first|refine zeN ?hx ?_|refine zdD ?hx ?_|refine zcC ?hx ?_|refine zdC ?hx ?_);(case hx=>exact rfl))
 | ((with_reducible refine zer ?_);(first|((first|refine zcM rfl ?hy (λ Q q0 q1 q2=>?_)|refine zbW rfl ?hy (λ Q q0 q1 q2=>?_));(case hy=>first|assumption|exact notT (by assumption)|exact rfl);conv=>whnf)|((first|refine zbV rfl ?hy ?_|refine zbs rfl ?hy ?_);(case hy=>first|assumption|exact notF (by assumption)|exact rfl))|(revert hF;(with_reducible first|refine zcN ?hx ?_ ?_|refine zbX ?hx ?_ ?_);(case hx=>exact rfl);(intro hc hF Q q0 q1 q2;conv=>whnf);rotate_left;(intro hc hF);rotate_right)|(revert hF;(with_reducible first|refine zcO ?hx ?_ ?_|refine zbY ?hx ?_ ?_);(case hx=>exact rfl);(intro hc hF);rotate_left;(intro hc hF Q q0 q1 q2;conv=>whnf);rotate_right)))
 | ((with_reducible refine zbL ?_);(first|((refine zcK rfl ?hy ?_);(case hy=>first|assumption|exact notT (by assumption)|exact rfl))|((refine zcL rfl ?hy ?_);(case hy=>first|assumption|exact notF (by assumption)|exact rfl))|(revert hF;(with_reducible refine zfd ?hx ?_ ?_);(case hx=>exact rfl);all_goals (intro hc hF))))
 | ((with_reducible refine zaX ?_);(first|((with_reducible refine hR _ ?_);clear R hR)|((with_reducible refine hL _ ?_);clear L hL)))
 | ((with_reducible first|refine zbh ?_|refine zbD ?_|refine idx2 (by assumption) ?_|refine idx3 (by assumption) ?_);conv=>whnf)
 | (with_reducible first|refine zbd ?_|refine zaW ?_|refine zby ?_|refine zbI ?_|refine zaz (λ R hR=>?_)|refine zay ?_|refine zaJ ?_|refine zeM ?_|refine zaT ?_|refine zaK ?_|refine zba ?_|refine zaU ?_)
 | ((with_reducible refine zaZ [23,22,13] ?hx ?_);(case hx=>exact rfl))
 | ((with_reducible replace hF:=isE hF);(dsimp only[zgT,zgU,zl6,zl8,zgV,znu,zh5,zh6,zl9] at hF);first|((with_reducible replace hF:=chkE (e:=zed) hF);rewrite[zed] at hF)|((with_reducible replace hF:=chkE (e:=zee ..) hF);rewrite[zee] at hF)|((with_reducible replace hF:=chkE (e:=zef ..) hF);rewrite[zef] at hF)|rewrite[zl5] at hF|rewrite[zl7] at hF|rewrite[znt] at hF)
 | ((with_reducible refine zbi ?_);(with_reducible replace hF:=zdS 0 hF);((refine Lp.cutI hF rfl rfl ?_ ?_) <;> clear hF);(intro hF);rotate_left;(rintro _ hF);rotate_right)
 | ((with_reducible refine za9 ?_);(with_reducible replace hF:=toLp 0 0 hF);exact Lp.headI hF () ⟨_,rfl,rfl,rfl,rfl⟩ rfl)
 | ((with_reducible refine zcr ?_);(with_reducible replace hF:=toLp 0 1 hF);((refine Lp.loopI hF () rfl ⟨_,rfl,rfl,rfl,rfl⟩ rfl (λ _=>rfl) ?_);clear hF);(rintro n _ hF))
 | ((with_reducible refine zcs ?_);(with_reducible replace hF:=toLp 0 1 hF);exact Lp.backI hF () ⟨_,rfl,rfl,rfl,rfl⟩ rfl)
 | (revert hF;(with_reducible refine G95.lend ?hx ?_);(case hx=>exact rfl);intro v hF;conv=>whnf)
 | (revert hF;(with_reducible refine G96.lend ?hx ?_);(case hx=>exact rfl);intro v hF;conv=>whnf)
 | (revert hF;(with_reducible refine G98.lend ?hx ?_);(case hx=>exact rfl);intro v hF;conv=>whnf)
 | (revert hF;(with_reducible refine idx1 ?hn ?_);(case hn=>first|exact rfl|exact(List.length_map _)|assumption|omega|simp);intro x hx hF;conv=>whnf)
 | ((with_reducible have hG:=zgH hF);clear hF;(refine zjw hG (λ q hF=>?_));clear hG;conv=>whnf)
 | ((with_reducible refine zep ?hx ?_);(case hx=>first|exact rfl|assumption|exact notT (by assumption));conv=>whnf)
 | ((with_reducible refine zeq ?hx ?_);(case hx=>first|exact rfl|assumption|exact notF (by assumption));conv=>whnf)
 | ((refine zbt 1902 1903000000 rfl rfl (zpt rfl) rfl (λ R hR=>?_));(conv=>whnf);(with_reducible refine hR _ ?ha ?_);(case ha=>exact rfl);clear R hR)
 | ((refine zbt 1906 1907000000 rfl rfl (zpt rfl) rfl (λ R hR=>?_));(conv=>whnf);(with_reducible refine hR _ ?ha ?_);(case ha=>exact rfl);clear R hR)
 | (show Kinl _ _ _ _ _ _ _;conv=>whnf)
 | ((with_reducible refine zdT ?ha ?hb ?_);(case ha=>exact rfl);(case hb=>exact rfl);conv=>whnf)
 | ((refine⟨?hx,trivial⟩);(case hx=>(cases hF;exact rfl)))
 | with_reducible refine zcz ?_)
def zfp (a0:Piece)(a1:Cut)(v10':List Label)(v11:Int):Option (Piece×Piece×Bool) :=
 (sub (v10') 0 v11).bind λ x3 =>
 (sub (v10') v11 (List.length (v10'):Int)).bind λ x4 =>
 bif decide ((0:Int)<v11) then (some ((Piece.mk (Label.mk a0.Label_.X a0.Label_.Y (W (a1.At-a0.Label_.X)) a0.Label_.H) x3),(Piece.mk (Label.mk a1.At a0.Label_.Y (W ((W (a0.Label_.X+a0.Label_.W))-a1.At)) a0.Label_.H) x4),decide (v11<(List.length (v10'):Int))))
 else (some ((Piece.mk (Label.mk a0.Label_.X a0.Label_.Y (W (a1.At-a0.Label_.X)) a0.Label_.H) x3),(Piece.mk (Label.mk a1.At a0.Label_.Y (W ((W (a0.Label_.X+a0.Label_.W))-a1.At)) a0.Label_.H) x4),false))
def zgW (a0:Piece)(a1:Cut):Lp ((List Label)×Int) (Nat×Unit) (Piece×Piece×Bool):=lpm ⟨[2,3,4,5,10,11],[0,1,2,3,90010],[(.slot 10,90010,31,4)],[90010]⟩ (λ (v10',v11)=>zfp a0 a1 v10' v11) (λ (_,v11) (m0,_)=>[.ptr 0 0, .ptr 1 0, .ptr 2 0, .ptr 3 0, .rs 90010 m0, .dat (iN v11)]) (λ (v10',_) (_,_)=>[.box [.dat (iN a0.Label_.X), .dat (iN a0.Label_.Y), .dat (iN a0.Label_.W), .dat (iN a0.Label_.H), .dat (zap a0.labels)], .box [.kb a1.Up, .dat (iN a1.At)], .box [.dat (iN (0:Int)), .dat (iN (0:Int)), .dat (iN (0:Int)), .dat (iN (0:Int)), .nil], .box [.dat (iN (0:Int)), .dat (iN (0:Int)), .dat (iN (0:Int)), .dat (iN (0:Int)), .nil], .fz 31 4 (List.map Label.d (v10'))]) λ (v10',_)=>(List.length (v10'),())
instance Ef99_c17 {a0 a1 v10' v11}:IsLp 1 2 (zfp a0 a1 v10' v11) (zgW a0 a1) (v10',v11):=⟨rfl⟩
instance Cf99_c17 {a0 a1}:IsCut 2 (zfp a0 a1) (zgW a0 a1) 17:=⟨⟩
def zeg (a0:Piece)(a1:Cut)(v10:List Label)(v10':List Label)(v11:Int)(v39:Int)(r8:(List Label)->Int->Int->Option (Piece×Piece×Bool))(x6:Int×Int):Option (Piece×Piece×Bool) :=
 bif decide (x6.2<=a1.At) then ((ix (v10') v11).bind λ x7 =>
 (ix (v10') v39).bind λ x8 =>
 (ix (v10') v39).bind λ x9 =>
 (setx (v10') v39 x7).bind λ x10 =>
 (ix x10 v11).bind λ x11 =>
 (setx x10 v11 x8).bind λ x12 =>
 r8 x12 (W (v11+(1:Int))) (W (v39+(1:Int))))
 else (r8 (v10') v11 (W (v39+(1:Int))))
def zgX (a0:Piece)(a1:Cut)(v10:List Label)(v10':List Label)(v11:Int)(v39:Int)(r8:(List Label)->Int->Int->Option (Piece×Piece×Bool))(x6:Int×Int):Lp (Unit) (Nat×Unit) (Piece×Piece×Bool):=lpm ⟨[2,3,4,5,7,10,11,12,14,38,39],[0,1,2,3,90010],[],[]⟩ (λ _=>zeg a0 a1 v10 v10' v11 v39 r8 x6) (λ _ (m0,_)=>[.ptr 0 0, .ptr 1 0, .ptr 2 0, .ptr 3 0, .dat (.v (.func (.func 96) #[] #[])), .rs 90010 m0, .dat (iN v11), .dat (iN v39), .dat (iN x6.2), .dat (iN (List.length v10:Int)), .dat (iN v39)]) (λ _ (_,_)=>[.box [.dat (iN a0.Label_.X), .dat (iN a0.Label_.Y), .dat (iN a0.Label_.W), .dat (iN a0.Label_.H), .dat (zap a0.labels)], .box [.kb a1.Up, .dat (iN a1.At)], .box [.dat (iN (0:Int)), .dat (iN (0:Int)), .dat (iN (0:Int)), .dat (iN (0:Int)), .nil], .box [.dat (iN (0:Int)), .dat (iN (0:Int)), .dat (iN (0:Int)), .dat (iN (0:Int)), .nil], .row 31 4 (List.map Label.d (v10'))]) λ _=>(List.length (v10'),())
instance Ef99_c13 {a0 a1 v10 v10' v11 v39 r8 x6}:IsLp 1 0 (zeg a0 a1 v10 v10' v11 v39 r8 x6) (zgX a0 a1 v10 v10' v11 v39 r8 x6) ():=⟨rfl⟩
instance Cf99_c13 {a0 a1 v10 v10' v11 v39 r8 x6}:IsCut 0 (zeg a0 a1 v10 v10' v11 v39 r8 x6) (zgX a0 a1 v10 v10' v11 v39 r8 x6) 13:=⟨⟩
def znv (r8:(List Label)->Int->Int->Option (Piece×Piece×Bool))(a0:Piece)(a1:Cut)(N:Nat)(v10:List Label)(k0:(List Label)->Int->Option (Piece×Piece×Bool))(v10':List Label)(v11:Int)(v39:Int):Option (Piece×Piece×Bool) :=
 bif decide (v39<(List.length v10:Int)) then ((ix (v10') v39).bind λ x5 =>
 (f96 N x5).bind λ x6 =>
 zbC (zeg a0 a1 v10 v10' v11 v39 r8 x6) λ k1 =>
 bif decide (x6.1<a1.At) then (bif decide (a1.At<x6.2) then (some ((Piece.mk (Label.mk (0:Int) (0:Int) (0:Int) (0:Int)) []),(Piece.mk (Label.mk (0:Int) (0:Int) (0:Int) (0:Int)) []),false))
 else k1)
 else k1)
 else (k0 (v10') v11)
def zm (a0:Piece)(a1:Cut)(N:Nat)(v10:List Label)(k0:(List Label)->Int->Option (Piece×Piece×Bool)):Nat->(List Label)->Int->Int->Option (Piece×Piece×Bool)
 | 0,_,_,_=>none
 | n+1,v10',v11,v39=>znv (zm a0 a1 N v10 k0 n) a0 a1 N v10 k0 v10' v11 v39
def znw (a0:Piece)(a1:Cut)(N:Nat)(v10:List Label)(k0:(List Label)->Int->Option (Piece×Piece×Bool)):Lp (Nat×(List Label)×Int×Int) (Nat×Unit) (Piece×Piece×Bool):=lpm ⟨[2,3,4,5,7,10,11,38,39],[0,1,2,3,90010],[(.slot 10,90010,31,4)],[]⟩ (λ (n,v10',v11,v39)=>zm a0 a1 N v10 k0 n v10' v11 v39) (λ (_,_,v11,v39) (m0,_)=>[.ptr 0 0, .ptr 1 0, .ptr 2 0, .ptr 3 0, .dat (.v (.func (.func 96) #[] #[])), .rs 90010 m0, .dat (iN v11), .dat (iN (List.length v10:Int)), .dat (iN v39)]) (λ (_,v10',_,_) (_,_)=>[.box [.dat (iN a0.Label_.X), .dat (iN a0.Label_.Y), .dat (iN a0.Label_.W), .dat (iN a0.Label_.H), .dat (zap a0.labels)], .box [.kb a1.Up, .dat (iN a1.At)], .box [.dat (iN (0:Int)), .dat (iN (0:Int)), .dat (iN (0:Int)), .dat (iN (0:Int)), .nil], .box [.dat (iN (0:Int)), .dat (iN (0:Int)), .dat (iN (0:Int)), .dat (iN (0:Int)), .nil], .row 31 4 (List.map Label.d (v10'))]) λ (_,v10',_,_)=>(List.length (v10'),())
instance Ef99_8 {a0 a1 N v10 k0 n v10' v11 v39}:IsLp 1 3 (zm a0 a1 N v10 k0 n v10' v11 v39) (znw a0 a1 N v10 k0) (n,v10',v11,v39):=⟨rfl⟩
def zh7 (a0:Piece)(a1:Cut)(N:Nat)(v10:List Label):Option (Piece×Piece×Bool) :=
 zbC (zfp a0 a1) λ k0 =>
 zm a0 a1 N v10 k0 N v10 (0:Int) (0:Int)
def ziY (a0:Piece)(a1:Cut)(N:Nat):Lp ((List Label)) (Nat×Unit) (Piece×Piece×Bool):=lpm ⟨[2,3,4,5,7,10],[0,1,2,3,90010],[(.slot 10,90010,31,4)],[]⟩ (λ v10=>zh7 a0 a1 N v10) (λ _ (m0,_)=>[.ptr 0 0, .ptr 1 0, .ptr 2 0, .ptr 3 0, .dat (.v (.func (.func 96) #[] #[])), .rs 90010 m0]) (λ v10 (_,_)=>[.box [.dat (iN a0.Label_.X), .dat (iN a0.Label_.Y), .dat (iN a0.Label_.W), .dat (iN a0.Label_.H), .dat (zap a0.labels)], .box [.kb a1.Up, .dat (iN a1.At)], .box [.dat (iN (0:Int)), .dat (iN (0:Int)), .dat (iN (0:Int)), .dat (iN (0:Int)), .nil], .box [.dat (iN (0:Int)), .dat (iN (0:Int)), .dat (iN (0:Int)), .dat (iN (0:Int)), .nil], .row 31 4 (List.map Label.d v10)]) λ v10=>(List.length v10,())
instance Ef99_c6 {a0 a1 N v10}:IsLp 1 1 (zh7 a0 a1 N v10) (ziY a0 a1 N) v10:=⟨rfl⟩
instance Cf99_c6 {a0 a1 N}:IsCut 1 (zh7 a0 a1 N) (ziY a0 a1 N) 6:=⟨⟩
def zcR (a0:Piece)(a1:Cut)(v10':List Label)(v11:Int):Option (Piece×Piece×Bool) :=
 (sub (v10') 0 v11).bind λ x16 =>
 (sub (v10') v11 (List.length (v10'):Int)).bind λ x17 =>
 bif decide ((0:Int)<v11) then (some ((Piece.mk (Label.mk a0.Label_.X a0.Label_.Y a0.Label_.W (W (a1.At-a0.Label_.Y))) x16),(Piece.mk (Label.mk a0.Label_.X a1.At a0.Label_.W (W ((W (a0.Label_.Y+a0.Label_.H))-a1.At))) x17),decide (v11<(List.length (v10'):Int))))
 else (some ((Piece.mk (Label.mk a0.Label_.X a0.Label_.Y a0.Label_.W (W (a1.At-a0.Label_.Y))) x16),(Piece.mk (Label.mk a0.Label_.X a1.At a0.Label_.W (W ((W (a0.Label_.Y+a0.Label_.H))-a1.At))) x17),false))
def zeh (a0:Piece)(a1:Cut):Lp ((List Label)×Int) (Nat×Unit) (Piece×Piece×Bool):=lpm ⟨[2,3,4,5,10,11],[0,1,2,3,90010],[(.slot 10,90010,31,4)],[90010]⟩ (λ (v10',v11)=>zcR a0 a1 v10' v11) (λ (_,v11) (m0,_)=>[.ptr 0 0, .ptr 1 0, .ptr 2 0, .ptr 3 0, .rs 90010 m0, .dat (iN v11)]) (λ (v10',_) (_,_)=>[.box [.dat (iN a0.Label_.X), .dat (iN a0.Label_.Y), .dat (iN a0.Label_.W), .dat (iN a0.Label_.H), .dat (zap a0.labels)], .box [.kb a1.Up, .dat (iN a1.At)], .box [.dat (iN (0:Int)), .dat (iN (0:Int)), .dat (iN (0:Int)), .dat (iN (0:Int)), .nil], .box [.dat (iN (0:Int)), .dat (iN (0:Int)), .dat (iN (0:Int)), .dat (iN (0:Int)), .nil], .fz 31 4 (List.map Label.d (v10'))]) λ (v10',_)=>(List.length (v10'),())
instance zoK {a0 a1 v10' v11}:IsLp 1 2 (zcR a0 a1 v10' v11) (zeh a0 a1) (v10',v11):=⟨rfl⟩
instance zoL {a0 a1}:IsCut 2 (zcR a0 a1) (zeh a0 a1) 17:=⟨⟩
def zce (a0:Piece)(a1:Cut)(v10:List Label)(v10':List Label)(v11:Int)(v39:Int)(r8:(List Label)->Int->Int->Option (Piece×Piece×Bool))(x19:Int×Int):Option (Piece×Piece×Bool) :=
 bif decide (x19.2<=a1.At) then ((ix (v10') v11).bind λ x20 =>
 (ix (v10') v39).bind λ x21 =>
 (ix (v10') v39).bind λ x22 =>
 (setx (v10') v39 x20).bind λ x23 =>
 (ix x23 v11).bind λ x24 =>
 (setx x23 v11 x21).bind λ x25 =>
 r8 x25 (W (v11+(1:Int))) (W (v39+(1:Int))))
 else (r8 (v10') v11 (W (v39+(1:Int))))
def zei (a0:Piece)(a1:Cut)(v10:List Label)(v10':List Label)(v11:Int)(v39:Int)(r8:(List Label)->Int->Int->Option (Piece×Piece×Bool))(x19:Int×Int):Lp (Unit) (Nat×Unit) (Piece×Piece×Bool):=lpm ⟨[2,3,4,5,7,10,11,12,14,38,39],[0,1,2,3,90010],[],[]⟩ (λ _=>zce a0 a1 v10 v10' v11 v39 r8 x19) (λ _ (m0,_)=>[.ptr 0 0, .ptr 1 0, .ptr 2 0, .ptr 3 0, .dat (.v (.func (.func 98) #[] #[])), .rs 90010 m0, .dat (iN v11), .dat (iN v39), .dat (iN x19.2), .dat (iN (List.length v10:Int)), .dat (iN v39)]) (λ _ (_,_)=>[.box [.dat (iN a0.Label_.X), .dat (iN a0.Label_.Y), .dat (iN a0.Label_.W), .dat (iN a0.Label_.H), .dat (zap a0.labels)], .box [.kb a1.Up, .dat (iN a1.At)], .box [.dat (iN (0:Int)), .dat (iN (0:Int)), .dat (iN (0:Int)), .dat (iN (0:Int)), .nil], .box [.dat (iN (0:Int)), .dat (iN (0:Int)), .dat (iN (0:Int)), .dat (iN (0:Int)), .nil], .row 31 4 (List.map Label.d (v10'))]) λ _=>(List.length (v10'),())
instance zoM {a0 a1 v10 v10' v11 v39 r8 x19}:IsLp 1 0 (zce a0 a1 v10 v10' v11 v39 r8 x19) (zei a0 a1 v10 v10' v11 v39 r8 x19) ():=⟨rfl⟩
instance zoN {a0 a1 v10 v10' v11 v39 r8 x19}:IsCut 0 (zce a0 a1 v10 v10' v11 v39 r8 x19) (zei a0 a1 v10 v10' v11 v39 r8 x19) 13:=⟨⟩
def zjK (r8:(List Label)->Int->Int->Option (Piece×Piece×Bool))(a0:Piece)(a1:Cut)(N:Nat)(v10:List Label)(k3:(List Label)->Int->Option (Piece×Piece×Bool))(v10':List Label)(v11:Int)(v39:Int):Option (Piece×Piece×Bool) :=
 bif decide (v39<(List.length v10:Int)) then ((ix (v10') v39).bind λ x18 =>
 (f98 N x18).bind λ x19 =>
 zbC (zce a0 a1 v10 v10' v11 v39 r8 x19) λ k4 =>
 bif decide (x19.1<a1.At) then (bif decide (a1.At<x19.2) then (some ((Piece.mk (Label.mk (0:Int) (0:Int) (0:Int) (0:Int)) []),(Piece.mk (Label.mk (0:Int) (0:Int) (0:Int) (0:Int)) []),false))
 else k4)
 else k4)
 else (k3 (v10') v11)
def zfq (a0:Piece)(a1:Cut)(N:Nat)(v10:List Label)(k3:(List Label)->Int->Option (Piece×Piece×Bool)):Nat->(List Label)->Int->Int->Option (Piece×Piece×Bool)
 | 0,_,_,_=>none
 | n+1,v10',v11,v39=>zjK (zfq a0 a1 N v10 k3 n) a0 a1 N v10 k3 v10' v11 v39
def zjL (a0:Piece)(a1:Cut)(N:Nat)(v10:List Label)(k3:(List Label)->Int->Option (Piece×Piece×Bool)):Lp (Nat×(List Label)×Int×Int) (Nat×Unit) (Piece×Piece×Bool):=lpm ⟨[2,3,4,5,7,10,11,38,39],[0,1,2,3,90010],[(.slot 10,90010,31,4)],[]⟩ (λ (n,v10',v11,v39)=>zfq a0 a1 N v10 k3 n v10' v11 v39) (λ (_,_,v11,v39) (m0,_)=>[.ptr 0 0, .ptr 1 0, .ptr 2 0, .ptr 3 0, .dat (.v (.func (.func 98) #[] #[])), .rs 90010 m0, .dat (iN v11), .dat (iN (List.length v10:Int)), .dat (iN v39)]) (λ (_,v10',_,_) (_,_)=>[.box [.dat (iN a0.Label_.X), .dat (iN a0.Label_.Y), .dat (iN a0.Label_.W), .dat (iN a0.Label_.H), .dat (zap a0.labels)], .box [.kb a1.Up, .dat (iN a1.At)], .box [.dat (iN (0:Int)), .dat (iN (0:Int)), .dat (iN (0:Int)), .dat (iN (0:Int)), .nil], .box [.dat (iN (0:Int)), .dat (iN (0:Int)), .dat (iN (0:Int)), .dat (iN (0:Int)), .nil], .row 31 4 (List.map Label.d (v10'))]) λ (_,v10',_,_)=>(List.length (v10'),())
instance Ef99_8_1 {a0 a1 N v10 k3 n v10' v11 v39}:IsLp 1 3 (zfq a0 a1 N v10 k3 n v10' v11 v39) (zjL a0 a1 N v10 k3) (n,v10',v11,v39):=⟨rfl⟩
def zdW (a0:Piece)(a1:Cut)(N:Nat)(v10:List Label):Option (Piece×Piece×Bool) :=
 zbC (zcR a0 a1) λ k3 =>
 zfq a0 a1 N v10 k3 N v10 (0:Int) (0:Int)
def zfr (a0:Piece)(a1:Cut)(N:Nat):Lp ((List Label)) (Nat×Unit) (Piece×Piece×Bool):=lpm ⟨[2,3,4,5,7,10],[0,1,2,3,90010],[(.slot 10,90010,31,4)],[]⟩ (λ v10=>zdW a0 a1 N v10) (λ _ (m0,_)=>[.ptr 0 0, .ptr 1 0, .ptr 2 0, .ptr 3 0, .dat (.v (.func (.func 98) #[] #[])), .rs 90010 m0]) (λ v10 (_,_)=>[.box [.dat (iN a0.Label_.X), .dat (iN a0.Label_.Y), .dat (iN a0.Label_.W), .dat (iN a0.Label_.H), .dat (zap a0.labels)], .box [.kb a1.Up, .dat (iN a1.At)], .box [.dat (iN (0:Int)), .dat (iN (0:Int)), .dat (iN (0:Int)), .dat (iN (0:Int)), .nil], .box [.dat (iN (0:Int)), .dat (iN (0:Int)), .dat (iN (0:Int)), .dat (iN (0:Int)), .nil], .row 31 4 (List.map Label.d v10)]) λ v10=>(List.length v10,())
instance zpi {a0 a1 N v10}:IsLp 1 1 (zdW a0 a1 N v10) (zfr a0 a1 N) v10:=⟨rfl⟩
instance zpj {a0 a1 N}:IsCut 1 (zdW a0 a1 N) (zfr a0 a1 N) 6:=⟨⟩
def f99 (N:Nat)(a0:Piece)(a1:Cut):Option (Piece×Piece×Bool) :=
 bif a1.Up then ((f96 N a0.Label_).bind λ x1 =>
 (f95 N (W (x1.1+(1:Int))) a1.At (W (x1.2-(1:Int)))).bind λ x2 =>
 bif !x2 then (some ((Piece.mk (Label.mk (0:Int) (0:Int) (0:Int) (0:Int)) []),(Piece.mk (Label.mk (0:Int) (0:Int) (0:Int) (0:Int)) []),false))
 else (zbC (zh7 a0 a1 N) λ k2 =>
 demB a0.labels (k2 [])
 ((app 32 [] a0.labels).bind λ x13 =>
 k2 x13)))
 else ((f98 N a0.Label_).bind λ x14 =>
 (f95 N (W (x14.1+(1:Int))) a1.At (W (x14.2-(1:Int)))).bind λ x15 =>
 bif !x15 then (some ((Piece.mk (Label.mk (0:Int) (0:Int) (0:Int) (0:Int)) []),(Piece.mk (Label.mk (0:Int) (0:Int) (0:Int) (0:Int)) []),false))
 else (zbC (zdW a0 a1 N) λ k5 =>
 demB a0.labels (k5 [])
 ((app 32 [] a0.labels).bind λ x26 =>
 k5 x26)))
def G99 (ds:List D)(d:D):Prop:=∃ (N:Nat) (a0:Piece) (a1:Cut) (r:Piece×Piece×Bool),ds=[Piece.d a0,Cut.d a1]/\f99 N a0 a1=some r/\d = .tup [Piece.d r.1,Piece.d r.2.1,bN r.2.2]
theorem G99.step {a0 a1}{A:_->Option ρ}{K:D->Prop}(hd:ds=[Piece.d a0,Cut.d a1])(h:∀ r,A r=some q->K (.tup [Piece.d r.1,Piece.d r.2.1,bN r.2.2]))(hF:(f99 N a0 a1).bind A=some q):∃ d,G99 ds d/\K d:=by
 obtain⟨r,hr,hA⟩:=bind_some hF;exact⟨_,⟨N,a0,a1,r,hd,hr,rfl⟩,h r hA⟩
set_option maxRecDepth 20000 in
set_option maxHeartbeats 4000000 in
theorem P99:PureOK Tryz.prog 99 G99:=by
 refine zau (c:=za2 zaO [(140,false,zhN (za2 zaO []) Tryz.f140),(139,false,zhN (za2 zaO []) Tryz.f139),(98,true,lendPg [[0,0,0,0]] G98),(96,true,lendPg [[0,0,0,0]] G96),(95,true,lendPg [[0],[0],[0]] G95)]) rfl tyOK (zdi (zal Tryz.func140 rfl rfl) (CallOK.inl rfl tyOK (zaB) Tryz.func140 (by kernel_rfl)) (zdi (zal Tryz.func139 rfl rfl) (CallOK.inl rfl tyOK (zaB) Tryz.func139 (by kernel_rfl)) (zaS (zal Tryz.func98 rfl rfl) P98 (zaS (zal Tryz.func96 rfl rfl) P96 (zaS (zal Tryz.func95 rfl rfl) P95 (zaB)))))) [[0,0,0,0,4],[0,0,0,0,4],[0]] 2 Tryz.func99 rfl rfl (by decide) (by kernel_rfl) ?_;rintro ds d ⟨N,a0,a1,r,rfl,hF,rfl⟩ hok;clear hok;refine⟨rfl, ?_⟩;show vc _ _ _ _ ⟨[(0, .dat (Piece.d a0)),(1, .dat (Cut.d a1))],[]⟩ _;unfold f99 at hF
 repeat' (first
 | ((with_reducible first|refine q0 _ _ ?_|refine q1 _ _ _ _ ?_|refine q2 _ _ _ ?_);clear Q q0 q1 q2)
 | ((with_reducible first|refine zbz ?hx (λ Q q0 q1 q2=>?_)|refine zd2 ?hx (λ Q q0 q1 q2=>?_)|refine zcD ?hx (λ Q q0 q1 q2=>?_)|refine zgd ?hx (λ Q q0 q1 q2=>?_));(case hx=>exact rfl);conv=>whnf)
 | ((with_reducible first|refine zeN ?hx ?_|refine zdD ?hx ?_|refine zge ?hx ?_|refine zeO ?hx ?_|refine zcC ?hx ?_|refine zdC ?hx ?_);(case hx=>exact rfl))
 | ((with_reducible refine zer ?_);(first|((first|refine zcM rfl ?hy (λ Q q0 q1 q2=>?_)|refine zbW rfl ?hy (λ Q q0 q1 q2=>?_));(case hy=>first|assumption|exact notT (by assumption)|exact rfl);conv=>whnf)|((first|refine zbV rfl ?hy ?_|refine zbs rfl ?hy ?_);(case hy=>first|assumption|exact notF (by assumption)|exact rfl))|(revert hF;(with_reducible first|refine zcN ?hx ?_ ?_|refine zbX ?hx ?_ ?_);(case hx=>exact rfl);(intro hc hF Q q0 q1 q2;conv=>whnf);rotate_left;(intro hc hF);rotate_right)|(revert hF;(with_reducible first|refine zcO ?hx ?_ ?_|refine zbY ?hx ?_ ?_);(case hx=>exact rfl);(intro hc hF);rotate_left;(intro hc hF Q q0 q1 q2;conv=>whnf);rotate_right)))
 | ((with_reducible refine zod ?_);(first|((first|refine zmS rfl ?hy (λ Q q0 q1 q2=>?_)|refine zlG rfl ?hy (λ Q q0 q1 q2=>?_));(case hy=>first|assumption|exact notT (by assumption)|exact rfl);conv=>whnf)|((first|refine zlF rfl ?hy ?_|refine zkw rfl ?hy ?_);(case hy=>first|assumption|exact notF (by assumption)|exact rfl))|(revert hF;(with_reducible first|refine zmT ?hx ?_ ?_|refine zlH ?hx ?_ ?_);(case hx=>exact rfl);(intro hc hF Q q0 q1 q2;conv=>whnf);rotate_left;(intro hc hF);rotate_right)|(revert hF;(with_reducible first|refine zmU ?hx ?_ ?_|refine zlI ?hx ?_ ?_);(case hx=>exact rfl);(intro hc hF);rotate_left;(intro hc hF Q q0 q1 q2;conv=>whnf);rotate_right)))
 | ((with_reducible refine zbL ?_);(first|((refine zcK rfl ?hy ?_);(case hy=>first|assumption|exact notT (by assumption)|exact rfl))|((refine zcL rfl ?hy ?_);(case hy=>first|assumption|exact notF (by assumption)|exact rfl))|(revert hF;(with_reducible refine zfd ?hx ?_ ?_);(case hx=>exact rfl);all_goals (intro hc hF))))
 | ((with_reducible refine zaX ?_);(first|((with_reducible refine hR _ ?_);clear R hR)|((with_reducible refine hL _ ?_);clear L hL)))
 | ((with_reducible refine zcW ?_);(with_reducible refine hR _ _ ?hx ?_);(case hx=>kernel_rfl);clear R hR)
 | ((with_reducible first|refine zbh ?_|refine zbD ?_|refine idx2 (by assumption) ?_|refine idx3 (by assumption) ?_);conv=>whnf)
 | (with_reducible first|refine zbd ?_|refine zaW ?_|refine zby ?_|refine zbI ?_|refine zaz (λ R hR=>?_)|refine zay ?_|refine zaJ ?_|refine zeM ?_|refine zaT ?_|refine zaK ?_|refine zba ?_|refine zaU ?_)
 | ((with_reducible refine zaZ [17,13,6,17,13,6] ?hx ?_);(case hx=>exact rfl))
 | ((with_reducible refine zd0 ?hx (λ R L hL hR=>?_));(case hx=>exact rfl))
 | ((with_reducible replace hF:=isE hF);(dsimp only[zgW,zgX,znw,ziY,zeh,zei,zjL,zfr,zm,zfq] at hF);first|((with_reducible replace hF:=chkE (e:=zeg ..) hF);rewrite[zeg] at hF)|((with_reducible replace hF:=chkE (e:=zce ..) hF);rewrite[zce] at hF)|rewrite[zfp] at hF|rewrite[znv] at hF|rewrite[zh7] at hF|rewrite[zcR] at hF|rewrite[zjK] at hF|rewrite[zdW] at hF)
 | ((with_reducible refine zbi ?_);(with_reducible replace hF:=zdS 2 hF);((refine Lp.cutI hF rfl rfl ?_ ?_) <;> clear hF);(intro hF);rotate_left;(rintro⟨_,_⟩ hF);rotate_right)
 | ((with_reducible refine za9 ?_);(with_reducible replace hF:=toLp 1 2 hF);exact Lp.headI hF (_,()) ⟨_,rfl,rfl,rfl,rfl⟩ (pr2 (by first|exact rfl|assumption|omega|(simp only[List.length_set];done)) rfl))
 | ((with_reducible refine zbi ?_);(with_reducible replace hF:=zdS 0 hF);((refine Lp.cutI hF rfl rfl ?_ ?_) <;> clear hF);(intro hF);rotate_left;(rintro _ hF);rotate_right)
 | ((with_reducible refine za9 ?_);(with_reducible replace hF:=toLp 1 0 hF);exact Lp.headI hF (_,()) ⟨_,rfl,rfl,rfl,rfl⟩ (pr2 (by first|exact rfl|assumption|omega|(simp only[List.length_set];done)) rfl))
 | ((with_reducible refine zcr ?_);(with_reducible replace hF:=toLp 1 3 hF);((refine Lp.loopI hF (_,()) rfl ⟨_,rfl,rfl,rfl,rfl⟩ (pr2 (by first|exact rfl|assumption|omega|(simp only[List.length_set];done)) rfl) (λ _=>rfl) ?_);clear hF);(rintro n ⟨_,_,_⟩ hF))
 | ((with_reducible refine zcs ?_);(with_reducible replace hF:=toLp 1 3 hF);exact Lp.backI hF (_,()) ⟨_,rfl,rfl,rfl,rfl⟩ (pr2 (by first|exact rfl|assumption|omega|(simp only[List.length_set];done)) rfl))
 | ((with_reducible refine zbi ?_);(with_reducible replace hF:=zdS 1 hF);((refine Lp.cutI hF rfl rfl ?_ ?_) <;> clear hF);(intro hF);rotate_left;(rintro _ hF);rotate_right)
 | ((with_reducible refine za9 ?_);(with_reducible replace hF:=toLp 1 1 hF);exact Lp.headI hF (_,()) ⟨_,rfl,rfl,rfl,rfl⟩ (pr2 (by first|exact rfl|assumption|omega|(simp only[List.length_set];done)) rfl))
 | (revert hF;(with_reducible refine G95.lend ?hx ?_);(case hx=>exact rfl);intro v hF;conv=>whnf)
 | (revert hF;(with_reducible refine G96.lend ?hx ?_);(case hx=>exact rfl);intro v hF;conv=>whnf)
 | (revert hF;(with_reducible refine G98.lend ?hx ?_);(case hx=>exact rfl);intro v hF;conv=>whnf)
 | (revert hF;(with_reducible refine idx1 ?hn ?_);(case hn=>first|exact rfl|exact(List.length_map _)|assumption|omega|simp);intro x hx hF;conv=>whnf)
 | ((with_reducible have hG:=zgH hF);clear hF;(refine zjw hG (λ q hF=>?_));clear hG;conv=>whnf)
 | ((with_reducible refine Or.inr ?_);conv=>whnf)
 | ((with_reducible have hG:=zc2 hF);clear hF;(first|((refine zdk hG ?hn ?hs (λ q hF=>?_));(case hn=>first|exact rfl|assumption|omega);(case hs=>exact rfl))|((refine zdj (d:=Label.d) hG ?hs (λ q hF=>?_));(case hs=>exact rfl))|((refine zdl (d:=Label.d) hG ?ho ?hn ?hs (λ q hF=>?_));(case ho=>exact rfl);(case hn=>exact rfl);(case hs=>exact rfl)));clear hG;conv=>whnf)
 | ((refine ze ?hn ?_);(case hn=>first|exact rfl|(simp;done)|(simp;omega));conv=>whnf)
 | ((with_reducible refine zfc ?hn ?_);(case hn=>first|exact rfl|assumption|omega);conv=>whnf)
 | ((with_reducible have hG:=zlB hF);clear hF;(refine zlC hG ?hs (λ q hl hF=>?_));(case hs=>exact rfl);clear hG;conv=>whnf)
 | (revert hF;(with_reducible refine zmR ?_ ?_);(intro hl hF;conv=>whnf);rotate_left;(intro hF;conv=>whnf);rotate_right)
 | ((refine⟨?hx, ?_⟩);(case hx=>exact⟨rfl,zpt rfl,rfl⟩);conv=>whnf)
 | ((with_reducible refine zep ?hx ?_);(case hx=>first|exact rfl|assumption|exact notT (by assumption));conv=>whnf)
 | ((with_reducible refine zeq ?hx ?_);(case hx=>first|exact rfl|assumption|exact notF (by assumption));conv=>whnf)
 | ((refine zbt 101 102000000 rfl rfl (zpt rfl) rfl (λ R hR=>?_));(conv=>whnf);(with_reducible refine hR _ ?ha ?_);(case ha=>exact rfl);clear R hR)
 | ((refine zbt 502 503000000 rfl rfl (zpt rfl) rfl (λ R hR=>?_));(conv=>whnf);(with_reducible refine hR _ ?ha ?_);(case ha=>exact rfl);clear R hR)
 | (show Kinl _ _ _ _ _ _ _;conv=>whnf)
 | ((with_reducible refine zdT ?ha ?hb ?_);(case ha=>exact rfl);(case hb=>exact rfl);conv=>whnf)
 | ((refine⟨?hx,trivial⟩);(case hx=>(cases hF;exact rfl)))
 | with_reducible refine zcz ?_)

end Go.Vc
namespace Go.Vc
open Go.Proofs
variable {N id:Nat} {ρ:Type} {q:ρ} {xs:List SV} {m:Nat->Blk} {l:List Loc} {ds:List D} {K:Dl->List Loc->Prop} {k0 k1 k2 k3 k4 k5 k6 k7 k8 k9 k10 k11 k12 k13 k14 k15 m0 m1 m2 m3 m4 m5:Nat}
def f9 (N:Nat)(a0:List Int):Option (Int) :=
 bif decide ((List.length a0:Int)<(2:Int)) then (some ((1:Int)))
 else (bif decide ((8:Int)<(List.length a0:Int)) then (some ((2:Int)))
 else ((f47 N a0 (0:Int) (60:Int)).bind λ x1 =>
 some (x1)))
def G9 (ds:List D)(d:D):Prop:=∃ (N:Nat) (a0:List Int) (r:Int),ds=[zev a0]/\f9 N a0=some r/\d=iN r
theorem G9.lend {a0}{A:_->Option ρ}{K:D->Prop}(hd:ds=[zev a0])(h:∀ r,A r=some q->K (iN r))(hF:(f9 N a0).bind A=some q):∃ d,(G9 ds d/\d.flatB=true)/\K d:=by
 obtain⟨r,hr,hA⟩:=bind_some hF;exact⟨_,⟨⟨N,a0,r,hd,hr,rfl⟩,rfl⟩,h r hA⟩
set_option maxRecDepth 20000 in
set_option maxHeartbeats 4000000 in
theorem P9:PureOK Tryz.prog 9 G9:=by
 refine zau (c:=za2 zaO [(47,true,lendPg [[1],[0],[0]] G47)]) rfl tyOK (zaS (zal Tryz.func47 rfl rfl) P47 (zaB)) [[0]] 1 Tryz.func9 rfl rfl (by decide) (by kernel_rfl) ?_;rintro ds d ⟨N,a0,r,rfl,hF,rfl⟩ hok;clear hok;refine⟨rfl, ?_⟩;show vc _ _ _ _ ⟨[(0, .dat (zev a0))],[]⟩ _;unfold f9 at hF
 repeat' (first
 | ((with_reducible first|refine q0 _ _ ?_|refine q1 _ _ _ _ ?_|refine q2 _ _ _ ?_);clear Q q0 q1 q2)
 | ((with_reducible first|refine zbz ?hx (λ Q q0 q1 q2=>?_));(case hx=>exact rfl);conv=>whnf)
 | ((with_reducible refine zbL ?_);(first|((refine zcK rfl ?hy ?_);(case hy=>first|assumption|exact notT (by assumption)|exact rfl))|((refine zcL rfl ?hy ?_);(case hy=>first|assumption|exact notF (by assumption)|exact rfl))|(revert hF;(with_reducible refine zfd ?hx ?_ ?_);(case hx=>exact rfl);all_goals (intro hc hF))))
 | ((with_reducible refine zaX ?_);(first|((with_reducible refine hR _ ?_);clear R hR)|((with_reducible refine hL _ ?_);clear L hL)))
 | ((with_reducible first|refine zbh ?_|refine zbD ?_);conv=>whnf)
 | (with_reducible first|refine zbd ?_|refine zaW ?_|refine zby ?_|refine zbI ?_|refine zaz (λ R hR=>?_)|refine zay ?_|refine zaJ ?_|refine zeM ?_|refine zaT ?_|refine zaK ?_)
 | ((with_reducible refine zaZ [] ?hx ?_);(case hx=>exact rfl))
 | (revert hF;(with_reducible refine G47.lend ?hx ?_);(case hx=>exact rfl);intro v hF;conv=>whnf)
 | ((refine⟨?hx,trivial⟩);(case hx=>(cases hF;exact rfl)))
 | with_reducible refine zcz ?_)
def zfs (out3:List Cut):Option ((List Cut)) :=
 some (out3)
def zgY:Lp ((List Cut)) (Nat×Unit) ((List Cut)):=lpm ⟨[3],[90003],[(.slot 3,90003,37,2)],[]⟩ (λ out3=>zfs out3) (λ _ (m0,_)=>[.rs 90003 m0]) (λ out3 (_,_)=>[.row 37 2 (List.map Cut.d out3)]) λ out3=>(List.length out3,())
instance Ef50_c13 {out3}:IsLp 1 1 (zfs out3) (zgY) out3:=⟨rfl⟩
instance Cf50_c13:IsCut 1 (zfs) (zgY) 13:=⟨⟩
def zft (a0:Piece)(v12:Int)(r3:(List Cut)->Int->Option ((List Cut)))(out3':List Cut):Option ((List Cut)) :=
 r3 (out3') (W (v12+(1:Int)))
def zgZ (a0:Piece)(v12:Int)(r3:(List Cut)->Int->Option ((List Cut))):Lp ((List Cut)) (Nat×Nat) ((List Cut)):=lpm ⟨[1,3,10,11,12],[0,200,90003],[(.slot 3,90003,37,2)],[]⟩ (λ out3' => zft a0 v12 r3 out3') (λ _ (m0,m1)=>[.ptr 0 0, .rs 90003 m0, .rs 200 m1, .dat (iN (List.length [true,false]:Int)), .dat (iN v12)]) (λ out3' (_,_)=>[.box [.dat (iN a0.Label_.X), .dat (iN a0.Label_.Y), .dat (iN a0.Label_.W), .dat (iN a0.Label_.H), .dat (zap a0.labels)], .row 4 1 (List.map bN [true,false]), .row 37 2 (List.map Cut.d (out3'))]) λ out3' => (List.length (out3'),List.length [true,false])
instance Ef50_c12 {a0 v12 r3 out3'}:IsLp 2 1 (zft a0 v12 r3 out3') (zgZ a0 v12 r3) out3':=⟨rfl⟩
instance Cf50_c12 {a0 v12 r3}:IsCut 1 (zft a0 v12 r3) (zgZ a0 v12 r3) 12:=⟨⟩
def znx (r6:(List Cut)->Int->Option ((List Cut)))(a0:Piece)(N:Nat)(v12:Int)(k1:(List Cut)->Option ((List Cut)))(x1:Bool)(out3':List Cut)(v16:Int):Option ((List Cut)) :=
 bif decide (v16<(12:Int)) then ((f99 N a0 (Cut.mk x1 v16)).bind λ x2 =>
 bif x2.2.2 then ((app 16 (out3') [(Cut.mk x1 v16)]).bind λ x3 =>
 r6 x3 (W (v16+(1:Int))))
 else (r6 (out3') (W (v16+(1:Int)))))
 else (k1 (out3'))
def zma (a0:Piece)(N:Nat)(v12:Int)(k1:(List Cut)->Option ((List Cut)))(x1:Bool):Nat->(List Cut)->Int->Option ((List Cut))
 | 0,_,_=>none
 | n+1,out3',v16=>znx (zma a0 N v12 k1 x1 n) a0 N v12 k1 x1 out3' v16
def zny (a0:Piece)(N:Nat)(v12:Int)(k1:(List Cut)->Option ((List Cut)))(x1:Bool):Lp (Nat×(List Cut)×Int) (Nat×Nat) ((List Cut)):=lpm ⟨[1,3,5,10,11,12,16],[0,200,90003],[(.slot 3,90003,37,2)],[]⟩ (λ (n,out3',v16)=>zma a0 N v12 k1 x1 n out3' v16) (λ (_,_,v16) (m0,m1)=>[.ptr 0 0, .rs 90003 m0, .kb x1, .rs 200 m1, .dat (iN (List.length [true,false]:Int)), .dat (iN v12), .dat (iN v16)]) (λ (_,out3',_) (_,_)=>[.box [.dat (iN a0.Label_.X), .dat (iN a0.Label_.Y), .dat (iN a0.Label_.W), .dat (iN a0.Label_.H), .dat (zap a0.labels)], .row 4 1 (List.map bN [true,false]), .row 37 2 (List.map Cut.d (out3'))]) λ (_,out3',_)=>(List.length (out3'),List.length [true,false])
instance Ef50_6 {a0 N v12 k1 x1 n out3' v16}:IsLp 2 2 (zma a0 N v12 k1 x1 n out3' v16) (zny a0 N v12 k1 x1) (n,out3',v16):=⟨rfl⟩
def znz (r3:(List Cut)->Int->Option ((List Cut)))(a0:Piece)(N:Nat)(k0:(List Cut)->Option ((List Cut)))(out3:List Cut)(v12:Int):Option ((List Cut)) :=
 bif decide (v12<(List.length [true,false]:Int)) then (zbC (zft a0 v12 r3) λ k1 =>
 (ix [true,false] v12).bind λ x1 =>
 zma a0 N v12 k1 x1 N out3 (0:Int))
 else (k0 out3)
def zmb (a0:Piece)(N:Nat)(k0:(List Cut)->Option ((List Cut))):Nat->(List Cut)->Int->Option ((List Cut))
 | 0,_,_=>none
 | n+1,out3,v12=>znz (zmb a0 N k0 n) a0 N k0 out3 v12
def znA (a0:Piece)(N:Nat)(k0:(List Cut)->Option ((List Cut))):Lp (Nat×(List Cut)×Int) (Nat×Nat) ((List Cut)):=lpm ⟨[1,3,10,11,12],[0,200,90003],[(.slot 3,90003,37,2)],[]⟩ (λ (n,out3,v12)=>zmb a0 N k0 n out3 v12) (λ (_,_,v12) (m0,m1)=>[.ptr 0 0, .rs 90003 m0, .rs 200 m1, .dat (iN (List.length [true,false]:Int)), .dat (iN v12)]) (λ (_,out3,_) (_,_)=>[.box [.dat (iN a0.Label_.X), .dat (iN a0.Label_.Y), .dat (iN a0.Label_.W), .dat (iN a0.Label_.H), .dat (zap a0.labels)], .row 4 1 (List.map bN [true,false]), .row 37 2 (List.map Cut.d out3)]) λ (_,out3,_)=>(List.length out3,List.length [true,false])
instance Ef50_3 {a0 N k0 n out3 v12}:IsLp 2 2 (zmb a0 N k0 n out3 v12) (znA a0 N k0) (n,out3,v12):=⟨rfl⟩
def f50 (N:Nat)(a0:Piece):Option ((List Cut)) :=
 zbC zfs λ k0 =>
 zmb a0 N k0 N [] (0:Int)
def G50 (ds:List D)(d:D):Prop:=∃ (N:Nat) (a0:Piece) (r:(List Cut)),ds=[Piece.d a0]/\f50 N a0=some r/\d=zbl r
theorem G50.step {a0}{A:_->Option ρ}{K:D->Prop}(hd:ds=[Piece.d a0])(h:∀ r,A r=some q->K (zbl r))(hF:(f50 N a0).bind A=some q):∃ d,G50 ds d/\K d:=by
 obtain⟨r,hr,hA⟩:=bind_some hF;exact⟨_,⟨N,a0,r,hd,hr,rfl⟩,h r hA⟩
set_option maxRecDepth 20000 in
set_option maxHeartbeats 4000000 in
theorem P50:PureOK Tryz.prog 50 G50:=by
 refine zau (c:=za2 zaO [(99,true,zbH [[0,0,0,0,4],[0,0]] G99)]) rfl tyOK (za5 (zal Tryz.func99 rfl rfl) P99 (zaB)) [[2]] 1 Tryz.func50 rfl rfl (by decide) (by kernel_rfl) ?_;rintro ds d ⟨N,a0,r,rfl,hF,rfl⟩ hok;clear hok;refine⟨rfl, ?_⟩;show vc _ _ _ _ ⟨[(0, .dat (Piece.d a0))],[]⟩ _;unfold f50 at hF
 repeat' (first
 | ((with_reducible first|refine q0 _ _ ?_|refine q1 _ _ _ _ ?_|refine q2 _ _ _ ?_);clear Q q0 q1 q2)
 | ((with_reducible first|refine zbz ?hx (λ Q q0 q1 q2=>?_)|refine zcD ?hx (λ Q q0 q1 q2=>?_));(case hx=>exact rfl);conv=>whnf)
 | ((with_reducible refine zbL ?_);(first|((refine zcK rfl ?hy ?_);(case hy=>first|assumption|exact notT (by assumption)|exact rfl))|((refine zcL rfl ?hy ?_);(case hy=>first|assumption|exact notF (by assumption)|exact rfl))|(revert hF;(with_reducible refine zfd ?hx ?_ ?_);(case hx=>exact rfl);all_goals (intro hc hF))))
 | ((with_reducible refine zaX ?_);(first|((with_reducible refine hR _ ?_);clear R hR)|((with_reducible refine hL _ ?_);clear L hL)))
 | ((with_reducible first|refine zbh ?_|refine zbD ?_|refine idx2 (by assumption) ?_|refine idx3 (by assumption) ?_);conv=>whnf)
 | (with_reducible first|refine zbd ?_|refine zaW ?_|refine zby ?_|refine zbI ?_|refine zaz (λ R hR=>?_)|refine zay ?_|refine zaJ ?_|refine zeM ?_|refine zaT ?_|refine zaK ?_|refine zba ?_|refine zaU ?_)
 | ((with_reducible refine zaZ [13,12] ?hx ?_);(case hx=>exact rfl))
 | ((with_reducible replace hF:=isE hF);(dsimp only[zgY,zgZ,zny,znA,zma,zmb] at hF);first|rewrite[zfs] at hF|rewrite[zft] at hF|rewrite[znx] at hF|rewrite[znz] at hF)
 | ((with_reducible refine zbi ?_);(with_reducible replace hF:=zdS 1 hF);((refine Lp.cutI hF rfl rfl ?_ ?_) <;> clear hF);(intro hF);rotate_left;(rintro _ hF);rotate_right)
 | ((with_reducible refine za9 ?_);(with_reducible replace hF:=toLp 1 1 hF);exact Lp.headI hF (_,()) ⟨_,rfl,rfl,rfl,rfl⟩ (pr2 (by first|exact rfl|assumption|omega|(simp only[List.length_set];done)) rfl))
 | ((with_reducible refine za9 ?_);(with_reducible replace hF:=toLp 2 1 hF);exact Lp.headI hF (_,_) ⟨_,rfl,rfl,rfl,rfl⟩ (pr2 (by first|exact rfl|assumption|omega|(simp only[List.length_set];done)) (by first|exact rfl|assumption|omega|(simp only[List.length_set];done))))
 | ((with_reducible refine zcr ?_);(with_reducible replace hF:=toLp 2 2 hF);((refine Lp.loopI hF (_,_) rfl ⟨_,rfl,rfl,rfl,rfl⟩ (pr2 (by first|exact rfl|assumption|omega|(simp only[List.length_set];done)) (by first|exact rfl|assumption|omega|(simp only[List.length_set];done))) (λ _=>rfl) ?_);clear hF);(rintro n ⟨_,_⟩ hF))
 | ((with_reducible refine zcs ?_);(with_reducible replace hF:=toLp 2 2 hF);exact Lp.backI hF (_,_) ⟨_,rfl,rfl,rfl,rfl⟩ (pr2 (by first|exact rfl|assumption|omega|(simp only[List.length_set];done)) (by first|exact rfl|assumption|omega|(simp only[List.length_set];done))))
 | (revert hF;(with_reducible refine G99.step ?hx ?_);(case hx=>exact rfl);intro v hF;conv=>whnf)
 | (revert hF;(with_reducible refine idx1 ?hn ?_);(case hn=>first|exact rfl|exact(List.length_map _)|assumption|omega|simp);intro x hx hF;conv=>whnf)
 | ((with_reducible have hG:=zc2 hF);clear hF;(first|((refine zdk hG ?hn ?hs (λ q hF=>?_));(case hn=>first|exact rfl|assumption|omega);(case hs=>exact rfl))|((refine zdj (d:=Cut.d) hG ?hs (λ q hF=>?_));(case hs=>exact rfl))|((refine zdl (d:=Cut.d) hG ?ho ?hn ?hs (λ q hF=>?_));(case ho=>exact rfl);(case hn=>exact rfl);(case hs=>exact rfl)));clear hG;conv=>whnf)
 | ((refine ze ?hn ?_);(case hn=>first|exact rfl|(simp;done)|(simp;omega));conv=>whnf)
 | ((with_reducible refine zfc ?hn ?_);(case hn=>first|exact rfl|assumption|omega);conv=>whnf)
 | ((refine⟨?hx,trivial⟩);(case hx=>(cases hF;exact rfl)))
 | with_reducible refine zcz ?_)
def zh8 (a1:List Cut)(is9:Bool)(b400_0:Int)(b401_0:Bool):Option (Int) :=
 bif b401_0 then (some ((22:Int)))
 else (bif !is9 then (some ((13:Int)))
 else (bif decide (b400_0<(List.length a1:Int)) then (some ((21:Int)))
 else (some ((0:Int)))))
def ziZ (a1:List Cut):Lp (Bool×Int×Bool) Unit (Int):=lp0 ⟨[3,6,7,9],[1,400,401],[],[]⟩ (λ (is9,_,_)=>[.ptr 1 0, .ptr 400 0, .ptr 401 0, .kb is9]) (λ (_,b400_0,b401_0)=>[.box [.dat (zbl a1)], .box [.dat (iN b400_0)], .box [.kb b401_0]]) (λ (is9,b400_0,b401_0)=>zh8 a1 is9 b400_0 b401_0)
instance Ef12_c6 {a1 is9 b400_0 b401_0}:IsLp 0 3 (zh8 a1 is9 b400_0 b401_0) (ziZ a1) (is9,b400_0,b401_0):=⟨rfl⟩
instance Cf12_c6 {a1}:IsCut 3 (zh8 a1) (ziZ a1) 6:=⟨⟩
def zbu (a0:Layout)(a1:List Cut)(k0:Bool->Int->Bool->Option (Int))(b400_0:Int)(b401_0:Bool):Option (Int) :=
 k0 true b400_0 b401_0
def zcv (a0:Layout)(a1:List Cut)(k0:Bool->Int->Bool->Option (Int)):Lp (Int×Bool) Unit (Int):=lp0 ⟨[4],[0,1,400,401,zpw],[],[]⟩ (λ (_,_)=>[.ptr zpw 0]) (λ (b400_0,b401_0)=>[.box [.dat (iN a0.W), .dat (iN a0.H), .dat (zap a0.Labels)], .box [.dat (zbl a1)], .box [.dat (iN b400_0)], .box [.kb b401_0], .box [.dat (iN (0:Int)), .dat (iN (0:Int)), .dat (iN (0:Int)), .dat (iN (0:Int)), .nil]]) (λ (b400_0,b401_0)=>zbu a0 a1 k0 b400_0 b401_0)
instance zn {a0 a1 k0 b400_0 b401_0}:IsLp 0 2 (zbu a0 a1 k0 b400_0 b401_0) (zcv a0 a1 k0) (b400_0,b401_0):=⟨rfl⟩
instance zna {a0 a1 k0}:IsCut 2 (zbu a0 a1 k0) (zcv a0 a1 k0) 503000000011:=⟨⟩
def zbN (a0:Layout)(a1:List Cut)(N:Nat)(k0:Bool->Int->Bool->Option (Int))(r2:(List Piece)->Int->Bool->Option (Int))(x3:Piece)(x4:List Piece)(is9:Bool)(b606_0:Bool)(b606_1:Int)(b400_0':Int)(b401_0':Bool):Option (Int) :=
 (f99 N x3 (Cut.mk b606_0 b606_1)).bind λ x5 =>
 bif !is9 then (k0 false (b400_0') (b401_0'))
 else (bif !x5.2.2 then (k0 false (b400_0') (b401_0'))
 else ((app 56 x4 [x5.2.1,x5.1]).bind λ x6 =>
 r2 x6 (b400_0') (b401_0')))
def zcS (a0:Layout)(a1:List Cut)(N:Nat)(k0:Bool->Int->Bool->Option (Int))(r2:(List Piece)->Int->Bool->Option (Int))(x3:Piece)(x4:List Piece):Lp (Bool×Bool×Int×Int×Bool) (Nat×Unit) (Int):=lpm ⟨[1,4,6,7,8,9],[0,1,400,401,zpw,503000306,503000606,503090006],[],[]⟩ (λ (is9,b606_0,b606_1,b400_0',b401_0')=>zbN a0 a1 N k0 r2 x3 x4 is9 b606_0 b606_1 b400_0' b401_0') (λ (is9,_,_,_,_) (m0,_)=>[.fn 53 [] [.ptr 400 0, .ptr 1 0, .ptr 401 0], .ptr zpw 0, .rs 503090006 m0, .ptr 503000306 0, .ptr 503000606 0, .kb is9]) (λ (_,b606_0,b606_1,b400_0',b401_0') (_,_)=>[.box [.dat (iN a0.W), .dat (iN a0.H), .dat (zap a0.Labels)], .box [.dat (zbl a1)], .box [.dat (iN (b400_0'))], .box [.kb (b401_0')], .box [.dat (iN (0:Int)), .dat (iN (0:Int)), .dat (iN (0:Int)), .dat (iN (0:Int)), .nil], .box [.dat (iN x3.Label_.X), .dat (iN x3.Label_.Y), .dat (iN x3.Label_.W), .dat (iN x3.Label_.H), .dat (zap x3.labels)], .box [.kb b606_0, .dat (iN b606_1)], .row 111 5 (List.map Piece.d x4)]) λ (_,_,_,_,_)=>(List.length x4,())
instance znB {a0 a1 N k0 r2 x3 x4 is9 b606_0 b606_1 b400_0' b401_0'}:IsLp 1 5 (zbN a0 a1 N k0 r2 x3 x4 is9 b606_0 b606_1 b400_0' b401_0') (zcS a0 a1 N k0 r2 x3 x4) (is9,b606_0,b606_1,b400_0',b401_0'):=⟨rfl⟩
instance znC {a0 a1 N k0 r2 x3 x4}:IsCut 5 (zbN a0 a1 N k0 r2 x3 x4) (zcS a0 a1 N k0 r2 x3 x4) 503000000007:=⟨⟩
def zfu (r2:(List Piece)->Int->Bool->Option (Int))(a0:Layout)(a1:List Cut)(N:Nat)(k0:Bool->Int->Bool->Option (Int))(k1:Int->Bool->Option (Int))(stack6:List Piece)(b400_0:Int)(b401_0:Bool):Option (Int) :=
 bif decide ((0:Int)<(List.length stack6:Int)) then ((ix stack6 (W ((List.length stack6:Int)-(1:Int)))).bind λ x3 =>
 (subR stack6 0 (W ((List.length stack6:Int)-(1:Int)))).bind λ x4 =>
 bif decide ((List.length x3.labels:Int)<(2:Int)) then (r2 x4 b400_0 b401_0)
 else (zbC (zbN a0 a1 N k0 r2 x3 x4) λ k2 =>
 bif decide (b400_0=(List.length a1:Int)) then (k2 false false (0:Int) b400_0 true)
 else ((ix a1 (W ((W (b400_0+(1:Int)))-(1:Int)))).bind λ x7 =>
 k2 true x7.Up x7.At (W (b400_0+(1:Int))) b401_0)))
 else (k1 b400_0 b401_0)
def zcf (a0:Layout)(a1:List Cut)(N:Nat)(k0:Bool->Int->Bool->Option (Int))(k1:Int->Bool->Option (Int)):Nat->(List Piece)->Int->Bool->Option (Int)
 | 0,_,_,_=>none
 | n+1,stack6,b400_0,b401_0=>zfu (zcf a0 a1 N k0 k1 n) a0 a1 N k0 k1 stack6 b400_0 b401_0
def zfv (a0:Layout)(a1:List Cut)(N:Nat)(k0:Bool->Int->Bool->Option (Int))(k1:Int->Bool->Option (Int)):Lp (Nat×(List Piece)×Int×Bool) (Nat×Unit) (Int):=lpm ⟨[1,4,6],[0,1,400,401,zpw,503090006],[(.slot 6,503090006,111,5)],[]⟩ (λ (n,stack6,b400_0,b401_0)=>zcf a0 a1 N k0 k1 n stack6 b400_0 b401_0) (λ (_,_,_,_) (m0,_)=>[.fn 53 [] [.ptr 400 0, .ptr 1 0, .ptr 401 0], .ptr zpw 0, .rs 503090006 m0]) (λ (_,stack6,b400_0,b401_0) (_,_)=>[.box [.dat (iN a0.W), .dat (iN a0.H), .dat (zap a0.Labels)], .box [.dat (zbl a1)], .box [.dat (iN b400_0)], .box [.kb b401_0], .box [.dat (iN (0:Int)), .dat (iN (0:Int)), .dat (iN (0:Int)), .dat (iN (0:Int)), .nil], .row 111 5 (List.map Piece.d stack6)]) λ (_,stack6,_,_)=>(List.length stack6,())
instance zoF {a0 a1 N k0 k1 n stack6 b400_0 b401_0}:IsLp 1 3 (zcf a0 a1 N k0 k1 n stack6 b400_0 b401_0) (zfv a0 a1 N k0 k1) (n,stack6,b400_0,b401_0):=⟨rfl⟩
def f12 (N:Nat)(a0:Layout)(a1:List Cut):Option (Int) :=
 (f48 N a0).bind λ x1 =>
 bif decide (¬ x1=(0:Int)) then (some (x1))
 else (zbC (zh8 a1) λ k0 =>
 (f49 N a0).bind λ x2 =>
 zbC (zbu a0 a1 k0) λ k1 =>
 zcf a0 a1 N k0 k1 N [x2] (0:Int) false)
def G12 (ds:List D)(d:D):Prop:=∃ (N:Nat) (a0:Layout) (a1:List Cut) (r:Int),ds=[Layout.d a0,zbl a1]/\f12 N a0 a1=some r/\d=iN r
theorem G12.lend {a0 a1}{A:_->Option ρ}{K:D->Prop}(hd:ds=[Layout.d a0,zbl a1])(h:∀ r,A r=some q->K (iN r))(hF:(f12 N a0 a1).bind A=some q):∃ d,(G12 ds d/\d.flatB=true)/\K d:=by
 obtain⟨r,hr,hA⟩:=bind_some hF;exact⟨_,⟨⟨N,a0,a1,r,hd,hr,rfl⟩,rfl⟩,h r hA⟩
set_option maxRecDepth 20000 in
set_option maxHeartbeats 4000000 in
theorem P12:PureOK Tryz.prog 12 G12:=by
 refine zau (c:=za2 zaO [(52,false,zhN (za2 zaO [(53,false,zhN (za2 zaO []) Tryz.f53),(99,true,zbH [[0,0,0,0,4],[0,0]] G99),(49,true,zbH [[0,0,4]] G49)]) Tryz.f52),(48,true,lendPg [[0,0,4]] G48)]) rfl tyOK (zdi (zal Tryz.func52 rfl rfl) (CallOK.inl rfl tyOK (zdi (zal Tryz.func53 rfl rfl) (CallOK.inl rfl tyOK (zaB) Tryz.func53 (by kernel_rfl)) (za5 (zal Tryz.func99 rfl rfl) P99 (za5 (zal Tryz.func49 rfl rfl) P49 (zaB)))) Tryz.func52 (by kernel_rfl)) (zaS (zal Tryz.func48 rfl rfl) P48 (zaB))) [[0]] 2 Tryz.func12 rfl rfl (by decide) (by kernel_rfl) ?_;rintro ds d ⟨N,a0,a1,r,rfl,hF,rfl⟩ hok;clear hok;refine⟨rfl, ?_⟩;show vc _ _ _ _ ⟨[(0, .dat (Layout.d a0)),(1, .dat (zbl a1))],[]⟩ _;unfold f12 at hF
 repeat' (first
 | ((with_reducible first|refine q0 _ _ ?_|refine q1 _ _ _ _ ?_|refine q2 _ _ _ ?_);clear Q q0 q1 q2)
 | ((with_reducible first|refine zbz ?hx (λ Q q0 q1 q2=>?_)|refine zcD ?hx (λ Q q0 q1 q2=>?_));(case hx=>exact rfl);conv=>whnf)
 | ((with_reducible first|refine zeN ?hx ?_|refine zdD ?hx ?_|refine zcC ?hx ?_|refine zdC ?hx ?_);(case hx=>exact rfl))
 | ((with_reducible refine zer ?_);(first|((first|refine zcM rfl ?hy (λ Q q0 q1 q2=>?_)|refine zbW rfl ?hy (λ Q q0 q1 q2=>?_));(case hy=>first|assumption|exact notT (by assumption)|exact rfl);conv=>whnf)|((first|refine zbV rfl ?hy ?_|refine zbs rfl ?hy ?_);(case hy=>first|assumption|exact notF (by assumption)|exact rfl))|(revert hF;(with_reducible first|refine zcN ?hx ?_ ?_|refine zbX ?hx ?_ ?_);(case hx=>exact rfl);(intro hc hF Q q0 q1 q2;conv=>whnf);rotate_left;(intro hc hF);rotate_right)|(revert hF;(with_reducible first|refine zcO ?hx ?_ ?_|refine zbY ?hx ?_ ?_);(case hx=>exact rfl);(intro hc hF);rotate_left;(intro hc hF Q q0 q1 q2;conv=>whnf);rotate_right)))
 | ((with_reducible refine zbL ?_);(first|((refine zcK rfl ?hy ?_);(case hy=>first|assumption|exact notT (by assumption)|exact rfl))|((refine zcL rfl ?hy ?_);(case hy=>first|assumption|exact notF (by assumption)|exact rfl))|(revert hF;(with_reducible refine zfd ?hx ?_ ?_);(case hx=>exact rfl);all_goals (intro hc hF))))
 | ((with_reducible refine zaX ?_);(first|((with_reducible refine hR _ ?_);clear R hR)|((with_reducible refine hL _ ?_);clear L hL)))
 | ((with_reducible first|refine zbh ?_|refine zbD ?_|refine idx2 (by assumption) ?_|refine idx3 (by assumption) ?_);conv=>whnf)
 | (with_reducible first|refine zbd ?_|refine zaW ?_|refine zby ?_|refine zbI ?_|refine zaz (λ R hR=>?_)|refine zay ?_|refine zaJ ?_|refine zeM ?_|refine zaT ?_|refine zaK ?_|refine zba ?_|refine zaU ?_)
 | ((with_reducible refine zaZ [6,503000000011,503000000007] ?hx ?_);(case hx=>exact rfl))
 | ((with_reducible replace hF:=isE hF);(dsimp only[ziZ,zcv,zcS,zfv,zcf] at hF);first|rewrite[zh8] at hF|rewrite[zbu] at hF|rewrite[zbN] at hF|rewrite[zfu] at hF)
 | ((with_reducible refine zbi ?_);(with_reducible replace hF:=zdS 3 hF);((refine Lp.cutI hF rfl rfl ?_ ?_) <;> clear hF);(intro hF);rotate_left;(rintro⟨_,_,_⟩ hF);rotate_right)
 | ((with_reducible refine za9 ?_);(with_reducible replace hF:=toLp 0 3 hF);exact Lp.headI hF () ⟨_,rfl,rfl,rfl,rfl⟩ rfl)
 | ((with_reducible refine zbi ?_);(with_reducible replace hF:=zdS 2 hF);((refine Lp.cutI hF rfl rfl ?_ ?_) <;> clear hF);(intro hF);rotate_left;(rintro⟨_,_⟩ hF);rotate_right)
 | ((with_reducible refine za9 ?_);(with_reducible replace hF:=toLp 0 2 hF);exact Lp.headI hF () ⟨_,rfl,rfl,rfl,rfl⟩ rfl)
 | ((with_reducible refine zbi ?_);(with_reducible replace hF:=zdS 5 hF);((refine Lp.cutI hF rfl rfl ?_ ?_) <;> clear hF);(intro hF);rotate_left;(rintro⟨_,_,_,_,_⟩ hF);rotate_right)
 | ((with_reducible refine za9 ?_);(with_reducible replace hF:=toLp 1 5 hF);exact Lp.headI hF (_,()) ⟨_,rfl,rfl,rfl,rfl⟩ (pr2 (by first|exact rfl|assumption|omega|(simp only[List.length_set];done)) rfl))
 | ((with_reducible refine zcr ?_);(with_reducible replace hF:=toLp 1 3 hF);((refine Lp.loopI hF (_,()) rfl ⟨_,rfl,rfl,rfl,rfl⟩ (pr2 (by first|exact rfl|assumption|omega|(simp only[List.length_set];done)) rfl) (λ _=>rfl) ?_);clear hF);(rintro n ⟨_,_,_⟩ hF))
 | ((with_reducible refine zcs ?_);(with_reducible replace hF:=toLp 1 3 hF);exact Lp.backI hF (_,()) ⟨_,rfl,rfl,rfl,rfl⟩ (pr2 (by first|exact rfl|assumption|omega|(simp only[List.length_set];done)) rfl))
 | (revert hF;(with_reducible refine G48.lend ?hx ?_);(case hx=>exact rfl);intro v hF;conv=>whnf)
 | (revert hF;(with_reducible refine G49.step ?hx ?_);(case hx=>exact rfl);intro v hF;conv=>whnf)
 | (revert hF;(with_reducible refine G99.step ?hx ?_);(case hx=>exact rfl);intro v hF;conv=>whnf)
 | (revert hF;(with_reducible refine idx1 ?hn ?_);(case hn=>first|exact rfl|exact(List.length_map _)|assumption|omega|simp);intro x hx hF;conv=>whnf)
 | ((with_reducible have hG:=zhQ hF);clear hF;(refine Or.inl (Or.inl ?_));(conv=>whnf);(refine zfb hG ?hn (λ q hF=>?_);(case hn=>first|exact rfl|assumption|omega));clear hG;conv=>whnf)
 | ((with_reducible have hG:=zc2 hF);clear hF;(first|((refine zdk hG ?hn ?hs (λ q hF=>?_));(case hn=>first|exact rfl|assumption|omega);(case hs=>exact rfl))|((refine zdj (d:=Piece.d) hG ?hs (λ q hF=>?_));(case hs=>exact rfl))|((refine zdl (d:=Piece.d) hG ?ho ?hn ?hs (λ q hF=>?_));(case ho=>exact rfl);(case hn=>exact rfl);(case hs=>exact rfl)));clear hG;conv=>whnf)
 | ((refine ze ?hn ?_);(case hn=>first|exact rfl|(simp;done)|(simp;omega));conv=>whnf)
 | ((with_reducible refine zfc ?hn ?_);(case hn=>first|exact rfl|assumption|omega);conv=>whnf)
 | ((with_reducible refine zep ?hx ?_);(case hx=>first|exact rfl|assumption|exact notT (by assumption));conv=>whnf)
 | ((with_reducible refine zeq ?hx ?_);(case hx=>first|exact rfl|assumption|exact notF (by assumption));conv=>whnf)
 | ((refine zbt 502 503000000 rfl rfl (zpt rfl) rfl (λ R hR=>?_));(conv=>whnf);(with_reducible refine hR _ ?ha ?_);(case ha=>exact rfl);clear R hR)
 | ((refine zbt 503000602 503000603000000 rfl rfl (zpt rfl) rfl (λ R hR=>?_));(conv=>whnf);(with_reducible refine hR _ ?ha ?_);(case ha=>exact rfl);clear R hR)
 | (show Kinl _ _ _ _ _ _ _;conv=>whnf)
 | ((with_reducible refine zdT ?ha ?hb ?_);(case ha=>exact rfl);(case hb=>exact rfl);conv=>whnf)
 | ((refine⟨?hx,trivial⟩);(case hx=>(cases hF;exact rfl)))
 | with_reducible refine zcz ?_)

end Go.Vc
namespace Go.Vc
open Go.Proofs
variable {N id:Nat} {ρ:Type} {q:ρ} {xs:List SV} {m:Nat->Blk} {l:List Loc} {ds:List D} {K:Dl->List Loc->Prop} {k0 k1 k2 k3 k4 k5 k6 k7 k8 k9 k10 k11 k12 k13 k14 k15 m0 m1 m2 m3 m4 m5:Nat}
def f10 (N:Nat)(a0:Layout):Option ((List Cut)×Int) :=
 (f48 N a0).bind λ x1 =>
 bif decide (¬ x1=(0:Int)) then (some ([],x1))
 else ((f49 N a0).bind λ x2 =>
 (f50 N x2).bind λ x3 =>
 some (x3,(0:Int)))
def G10 (ds:List D)(d:D):Prop:=∃ (N:Nat) (a0:Layout) (r:(List Cut)×Int),ds=[Layout.d a0]/\f10 N a0=some r/\d = .tup [zbl r.1,iN r.2]
theorem G10.step {a0}{A:_->Option ρ}{K:D->Prop}(hd:ds=[Layout.d a0])(h:∀ r,A r=some q->K (.tup [zbl r.1,iN r.2]))(hF:(f10 N a0).bind A=some q):∃ d,G10 ds d/\K d:=by
 obtain⟨r,hr,hA⟩:=bind_some hF;exact⟨_,⟨N,a0,r,hd,hr,rfl⟩,h r hA⟩
set_option maxRecDepth 20000 in
set_option maxHeartbeats 4000000 in
theorem P10:PureOK Tryz.prog 10 G10:=by
 refine zau (c:=za2 zaO [(50,true,zbH [[0,0,0,0,4]] G50),(49,true,zbH [[0,0,4]] G49),(48,true,lendPg [[0,0,4]] G48)]) rfl tyOK (za5 (zal Tryz.func50 rfl rfl) P50 (za5 (zal Tryz.func49 rfl rfl) P49 (zaS (zal Tryz.func48 rfl rfl) P48 (zaB)))) [[2],[0]] 1 Tryz.func10 rfl rfl (by decide) (by kernel_rfl) ?_;rintro ds d ⟨N,a0,r,rfl,hF,rfl⟩ hok;clear hok;refine⟨rfl, ?_⟩;show vc _ _ _ _ ⟨[(0, .dat (Layout.d a0))],[]⟩ _;unfold f10 at hF
 repeat' (first
 | ((with_reducible first|refine q0 _ _ ?_|refine q1 _ _ _ _ ?_|refine q2 _ _ _ ?_);clear Q q0 q1 q2)
 | ((with_reducible first|refine zbz ?hx (λ Q q0 q1 q2=>?_));(case hx=>exact rfl);conv=>whnf)
 | ((with_reducible refine zbL ?_);(first|((refine zcK rfl ?hy ?_);(case hy=>first|assumption|exact notT (by assumption)|exact rfl))|((refine zcL rfl ?hy ?_);(case hy=>first|assumption|exact notF (by assumption)|exact rfl))|(revert hF;(with_reducible refine zfd ?hx ?_ ?_);(case hx=>exact rfl);all_goals (intro hc hF))))
 | ((with_reducible refine zaX ?_);(first|((with_reducible refine hR _ ?_);clear R hR)|((with_reducible refine hL _ ?_);clear L hL)))
 | (with_reducible first|refine zbd ?_|refine zaW ?_|refine zby ?_|refine zbI ?_|refine zaz (λ R hR=>?_)|refine zay ?_|refine zaJ ?_|refine zeM ?_|refine zaT ?_|refine zaK ?_)
 | ((with_reducible refine zaZ [] ?hx ?_);(case hx=>exact rfl))
 | (revert hF;(with_reducible refine G48.lend ?hx ?_);(case hx=>exact rfl);intro v hF;conv=>whnf)
 | (revert hF;(with_reducible refine G49.step ?hx ?_);(case hx=>exact rfl);intro v hF;conv=>whnf)
 | (revert hF;(with_reducible refine G50.step ?hx ?_);(case hx=>exact rfl);intro v hF;conv=>whnf)
 | ((refine⟨?hx,trivial⟩);(case hx=>(cases hF;exact rfl)))
 | with_reducible refine zcz ?_)
def zbv (a0:Layout)(b1_0:List Cut):Option ((List Cut)×Piece×Bool) :=
 some (b1_0,(Piece.mk (Label.mk (0:Int) (0:Int) (0:Int) (0:Int)) []),true)
def zcw (a0:Layout):Lp ((List Cut)) (Nat×Unit) ((List Cut)×Piece×Bool):=lpm ⟨[4],[0,1,2,zpx,zpv],[(.cell 1 0,zpv,37,2)],[]⟩ (λ b1_0=>zbv a0 b1_0) (λ _ (_,_)=>[.ptr zpx 0]) (λ b1_0 (m0,_)=>[.box [.dat (iN a0.W), .dat (iN a0.H), .dat (zap a0.Labels)], .box [.rs zpv m0], .box [.dat (iN (0:Int)), .dat (iN (0:Int)), .dat (iN (0:Int)), .dat (iN (0:Int)), .nil], .box [.dat (iN (0:Int)), .dat (iN (0:Int)), .dat (iN (0:Int)), .dat (iN (0:Int)), .nil], .row 37 2 (List.map Cut.d b1_0)]) λ b1_0=>(List.length b1_0,())
instance znb {a0 b1_0}:IsLp 1 1 (zbv a0 b1_0) (zcw a0) b1_0:=⟨rfl⟩
instance znc {a0}:IsCut 1 (zbv a0) (zcw a0) 103000000011:=⟨⟩
def zbO (a0:Layout)(N:Nat)(r2:(List Piece)->(List Cut)->Option ((List Cut)×Piece×Bool))(x2:Piece)(x3:List Piece)(is9:Bool)(b606_0:Bool)(b606_1:Int)(b1_0':List Cut):Option ((List Cut)×Piece×Bool) :=
 (f99 N x2 (Cut.mk b606_0 b606_1)).bind λ x4 =>
 bif !is9 then (some (b1_0',x2,false))
 else (bif !x4.2.2 then (some (b1_0',x2,false))
 else ((app 56 x3 [x4.2.1,x4.1]).bind λ x5 =>
 r2 x5 (b1_0')))
def zcT (a0:Layout)(N:Nat)(r2:(List Piece)->(List Cut)->Option ((List Cut)×Piece×Bool))(x2:Piece)(x3:List Piece):Lp (Bool×Bool×Int×(List Cut)) (Nat×Nat) ((List Cut)×Piece×Bool):=lpm ⟨[1,4,6,7,8,9],[0,1,2,zpx,103000306,103000606,103090006,zpv],[(.cell 1 0,zpv,37,2)],[]⟩ (λ (is9,b606_0,b606_1,b1_0')=>zbO a0 N r2 x2 x3 is9 b606_0 b606_1 b1_0') (λ (is9,_,_,_) (m0,_)=>[.fn 100 [] [.ptr 1 0], .ptr zpx 0, .rs 103090006 m0, .ptr 103000306 0, .ptr 103000606 0, .kb is9]) (λ (_,b606_0,b606_1,b1_0') (_,m1)=>[.box [.dat (iN a0.W), .dat (iN a0.H), .dat (zap a0.Labels)], .box [.rs zpv m1], .box [.dat (iN (0:Int)), .dat (iN (0:Int)), .dat (iN (0:Int)), .dat (iN (0:Int)), .nil], .box [.dat (iN (0:Int)), .dat (iN (0:Int)), .dat (iN (0:Int)), .dat (iN (0:Int)), .nil], .box [.dat (iN x2.Label_.X), .dat (iN x2.Label_.Y), .dat (iN x2.Label_.W), .dat (iN x2.Label_.H), .dat (zap x2.labels)], .box [.kb b606_0, .dat (iN b606_1)], .row 111 5 (List.map Piece.d x3), .row 37 2 (List.map Cut.d (b1_0'))]) λ (_,_,_,b1_0')=>(List.length x3,List.length (b1_0'))
instance znD {a0 N r2 x2 x3 is9 b606_0 b606_1 b1_0'}:IsLp 2 4 (zbO a0 N r2 x2 x3 is9 b606_0 b606_1 b1_0') (zcT a0 N r2 x2 x3) (is9,b606_0,b606_1,b1_0'):=⟨rfl⟩
instance znE {a0 N r2 x2 x3}:IsCut 4 (zbO a0 N r2 x2 x3) (zcT a0 N r2 x2 x3) 103000000007:=⟨⟩
def zfw (r2:(List Piece)->(List Cut)->Option ((List Cut)×Piece×Bool))(a0:Layout)(N:Nat)(k0:(List Cut)->Option ((List Cut)×Piece×Bool))(stack6:List Piece)(b1_0:List Cut):Option ((List Cut)×Piece×Bool) :=
 bif decide ((0:Int)<(List.length stack6:Int)) then ((ix stack6 (W ((List.length stack6:Int)-(1:Int)))).bind λ x2 =>
 (subR stack6 0 (W ((List.length stack6:Int)-(1:Int)))).bind λ x3 =>
 bif decide ((List.length x2.labels:Int)<(2:Int)) then (r2 x3 b1_0)
 else (zbC (zbO a0 N r2 x2 x3) λ k1 =>
 (f50 N x2).bind λ x6 =>
 bif decide ((List.length x6:Int)=(0:Int)) then (k1 false false (0:Int) b1_0)
 else ((ix x6 (0:Int)).bind λ x7 =>
 (app 16 b1_0 [x7]).bind λ x8 =>
 (ix x6 (0:Int)).bind λ x9 =>
 k1 true x9.Up x9.At x8)))
 else (k0 b1_0)
def zcg (a0:Layout)(N:Nat)(k0:(List Cut)->Option ((List Cut)×Piece×Bool)):Nat->(List Piece)->(List Cut)->Option ((List Cut)×Piece×Bool)
 | 0,_,_=>none
 | n+1,stack6,b1_0=>zfw (zcg a0 N k0 n) a0 N k0 stack6 b1_0
def zfx (a0:Layout)(N:Nat)(k0:(List Cut)->Option ((List Cut)×Piece×Bool)):Lp (Nat×(List Piece)×(List Cut)) (Nat×Nat) ((List Cut)×Piece×Bool):=lpm ⟨[1,4,6],[0,1,2,zpx,103090006,zpv],[(.slot 6,103090006,111,5),(.cell 1 0,zpv,37,2)],[]⟩ (λ (n,stack6,b1_0)=>zcg a0 N k0 n stack6 b1_0) (λ (_,_,_) (m0,_)=>[.fn 100 [] [.ptr 1 0], .ptr zpx 0, .rs 103090006 m0]) (λ (_,stack6,b1_0) (_,m1)=>[.box [.dat (iN a0.W), .dat (iN a0.H), .dat (zap a0.Labels)], .box [.rs zpv m1], .box [.dat (iN (0:Int)), .dat (iN (0:Int)), .dat (iN (0:Int)), .dat (iN (0:Int)), .nil], .box [.dat (iN (0:Int)), .dat (iN (0:Int)), .dat (iN (0:Int)), .dat (iN (0:Int)), .nil], .row 111 5 (List.map Piece.d stack6), .row 37 2 (List.map Cut.d b1_0)]) λ (_,stack6,b1_0)=>(List.length stack6,List.length b1_0)
instance zoG {a0 N k0 n stack6 b1_0}:IsLp 2 2 (zcg a0 N k0 n stack6 b1_0) (zfx a0 N k0) (n,stack6,b1_0):=⟨rfl⟩
def f51 (N:Nat)(a0:Layout):Option ((List Cut)×Piece×Bool) :=
 (f49 N a0).bind λ x1 =>
 zbC (zbv a0) λ k0 =>
 zcg a0 N k0 N [x1] []
def G51 (ds:List D)(d:D):Prop:=∃ (N:Nat) (a0:Layout) (r:(List Cut)×Piece×Bool),ds=[Layout.d a0]/\f51 N a0=some r/\d = .tup [zbl r.1,Piece.d r.2.1,bN r.2.2]
theorem G51.step {a0}{A:_->Option ρ}{K:D->Prop}(hd:ds=[Layout.d a0])(h:∀ r,A r=some q->K (.tup [zbl r.1,Piece.d r.2.1,bN r.2.2]))(hF:(f51 N a0).bind A=some q):∃ d,G51 ds d/\K d:=by
 obtain⟨r,hr,hA⟩:=bind_some hF;exact⟨_,⟨N,a0,r,hd,hr,rfl⟩,h r hA⟩
set_option maxRecDepth 20000 in
set_option maxHeartbeats 4000000 in
theorem P51:PureOK Tryz.prog 51 G51:=by
 refine zau (c:=za2 zaO [(52,false,zhN (za2 zaO [(100,false,zhN (za2 zaO [(50,true,zbH [[0,0,0,0,4]] G50)]) Tryz.f100),(99,true,zbH [[0,0,0,0,4],[0,0]] G99),(49,true,zbH [[0,0,4]] G49)]) Tryz.f52)]) rfl tyOK (zdi (zal Tryz.func52 rfl rfl) (CallOK.inl rfl tyOK (zdi (zal Tryz.func100 rfl rfl) (CallOK.inl rfl tyOK (za5 (zal Tryz.func50 rfl rfl) P50 (zaB)) Tryz.func100 (by kernel_rfl)) (za5 (zal Tryz.func99 rfl rfl) P99 (za5 (zal Tryz.func49 rfl rfl) P49 (zaB)))) Tryz.func52 (by kernel_rfl)) (zaB)) [[2],[0,0,0,0,4],[0]] 1 Tryz.func51 rfl rfl (by decide) (by kernel_rfl) ?_;rintro ds d ⟨N,a0,r,rfl,hF,rfl⟩ hok;clear hok;refine⟨rfl, ?_⟩;show vc _ _ _ _ ⟨[(0, .dat (Layout.d a0))],[]⟩ _;unfold f51 at hF
 repeat' (first
 | ((with_reducible first|refine q0 _ _ ?_|refine q1 _ _ _ _ ?_|refine q2 _ _ _ ?_);clear Q q0 q1 q2)
 | ((with_reducible first|refine zbz ?hx (λ Q q0 q1 q2=>?_)|refine zd2 ?hx (λ Q q0 q1 q2=>?_)|refine zcD ?hx (λ Q q0 q1 q2=>?_)|refine zgd ?hx (λ Q q0 q1 q2=>?_));(case hx=>exact rfl);conv=>whnf)
 | ((with_reducible first|refine zeN ?hx ?_|refine zdD ?hx ?_|refine zge ?hx ?_|refine zeO ?hx ?_|refine zcC ?hx ?_|refine zdC ?hx ?_);(case hx=>exact rfl))
 | ((with_reducible refine zer ?_);(first|((first|refine zcM rfl ?hy (λ Q q0 q1 q2=>?_)|refine zbW rfl ?hy (λ Q q0 q1 q2=>?_));(case hy=>first|assumption|exact notT (by assumption)|exact rfl);conv=>whnf)|((first|refine zbV rfl ?hy ?_|refine zbs rfl ?hy ?_);(case hy=>first|assumption|exact notF (by assumption)|exact rfl))|(revert hF;(with_reducible first|refine zcN ?hx ?_ ?_|refine zbX ?hx ?_ ?_);(case hx=>exact rfl);(intro hc hF Q q0 q1 q2;conv=>whnf);rotate_left;(intro hc hF);rotate_right)|(revert hF;(with_reducible first|refine zcO ?hx ?_ ?_|refine zbY ?hx ?_ ?_);(case hx=>exact rfl);(intro hc hF);rotate_left;(intro hc hF Q q0 q1 q2;conv=>whnf);rotate_right)))
 | ((with_reducible refine zbL ?_);(first|((refine zcK rfl ?hy ?_);(case hy=>first|assumption|exact notT (by assumption)|exact rfl))|((refine zcL rfl ?hy ?_);(case hy=>first|assumption|exact notF (by assumption)|exact rfl))|(revert hF;(with_reducible refine zfd ?hx ?_ ?_);(case hx=>exact rfl);all_goals (intro hc hF))))
 | ((with_reducible refine zaX ?_);(first|((with_reducible refine hR _ ?_);clear R hR)|((with_reducible refine hL _ ?_);clear L hL)))
 | ((with_reducible refine zcW ?_);(with_reducible refine hR _ _ ?hx ?_);(case hx=>kernel_rfl);clear R hR)
 | ((with_reducible first|refine zbh ?_|refine zbD ?_|refine idx2 (by assumption) ?_|refine idx3 (by assumption) ?_);conv=>whnf)
 | (with_reducible first|refine zbd ?_|refine zaW ?_|refine zby ?_|refine zbI ?_|refine zaz (λ R hR=>?_)|refine zay ?_|refine zaJ ?_|refine zeM ?_|refine zaT ?_|refine zaK ?_|refine zba ?_|refine zaU ?_)
 | ((with_reducible refine zaZ [103000000011,103000000007] ?hx ?_);(case hx=>exact rfl))
 | ((with_reducible refine zd0 ?hx (λ R L hL hR=>?_));(case hx=>exact rfl))
 | ((with_reducible replace hF:=isE hF);(dsimp only[zcw,zcT,zfx,zcg] at hF);first|rewrite[zbv] at hF|rewrite[zbO] at hF|rewrite[zfw] at hF)
 | ((with_reducible refine zbi ?_);(with_reducible replace hF:=zdS 1 hF);((refine Lp.cutI hF rfl rfl ?_ ?_) <;> clear hF);(intro hF);rotate_left;(rintro _ hF);rotate_right)
 | ((with_reducible refine za9 ?_);(with_reducible replace hF:=toLp 1 1 hF);exact Lp.headI hF (_,()) ⟨_,rfl,rfl,rfl,rfl⟩ (pr2 (by first|exact rfl|assumption|omega|(simp only[List.length_set];done)) rfl))
 | ((with_reducible refine zbi ?_);(with_reducible replace hF:=zdS 4 hF);((refine Lp.cutI hF rfl rfl ?_ ?_) <;> clear hF);(intro hF);rotate_left;(rintro⟨_,_,_,_⟩ hF);rotate_right)
 | ((with_reducible refine za9 ?_);(with_reducible replace hF:=toLp 2 4 hF);exact Lp.headI hF (_,_) ⟨_,rfl,rfl,rfl,rfl⟩ (pr2 (by first|exact rfl|assumption|omega|(simp only[List.length_set];done)) (by first|exact rfl|assumption|omega|(simp only[List.length_set];done))))
 | ((with_reducible refine zcr ?_);(with_reducible replace hF:=toLp 2 2 hF);((refine Lp.loopI hF (_,_) rfl ⟨_,rfl,rfl,rfl,rfl⟩ (pr2 (by first|exact rfl|assumption|omega|(simp only[List.length_set];done)) (by first|exact rfl|assumption|omega|(simp only[List.length_set];done))) (λ _=>rfl) ?_);clear hF);(rintro n ⟨_,_⟩ hF))
 | ((with_reducible refine zcs ?_);(with_reducible replace hF:=toLp 2 2 hF);exact Lp.backI hF (_,_) ⟨_,rfl,rfl,rfl,rfl⟩ (pr2 (by first|exact rfl|assumption|omega|(simp only[List.length_set];done)) (by first|exact rfl|assumption|omega|(simp only[List.length_set];done))))
 | (revert hF;(with_reducible refine G49.step ?hx ?_);(case hx=>exact rfl);intro v hF;conv=>whnf)
 | (revert hF;(with_reducible refine G50.step ?hx ?_);(case hx=>exact rfl);intro v hF;conv=>whnf)
 | (revert hF;(with_reducible refine G99.step ?hx ?_);(case hx=>exact rfl);intro v hF;conv=>whnf)
 | (revert hF;(with_reducible refine idx1 ?hn ?_);(case hn=>first|exact rfl|exact(List.length_map _)|assumption|omega|simp);intro x hx hF;conv=>whnf)
 | ((with_reducible have hG:=zhQ hF);clear hF;(refine Or.inl (Or.inl ?_));(conv=>whnf);(refine zfb hG ?hn (λ q hF=>?_);(case hn=>first|exact rfl|assumption|omega));clear hG;conv=>whnf)
 | ((with_reducible have hG:=zc2 hF);clear hF;(first|((refine zdk hG ?hn ?hs (λ q hF=>?_));(case hn=>first|exact rfl|assumption|omega);(case hs=>exact rfl))|((refine zdj (d:=Cut.d) hG ?hs (λ q hF=>?_));(case hs=>exact rfl))|((refine zdl (d:=Cut.d) hG ?ho ?hn ?hs (λ q hF=>?_));(case ho=>exact rfl);(case hn=>exact rfl);(case hs=>exact rfl))| ((refine zdj (d:=Piece.d) hG ?hs (λ q hF=>?_));(case hs=>exact rfl))|((refine zdl (d:=Piece.d) hG ?ho ?hn ?hs (λ q hF=>?_));(case ho=>exact rfl);(case hn=>exact rfl);(case hs=>exact rfl)));clear hG;conv=>whnf)
 | ((refine ze ?hn ?_);(case hn=>first|exact rfl|(simp;done)|(simp;omega));conv=>whnf)
 | ((with_reducible refine zfc ?hn ?_);(case hn=>first|exact rfl|assumption|omega);conv=>whnf)
 | ((with_reducible refine zep ?hx ?_);(case hx=>first|exact rfl|assumption|exact notT (by assumption));conv=>whnf)
 | ((with_reducible refine zeq ?hx ?_);(case hx=>first|exact rfl|assumption|exact notF (by assumption));conv=>whnf)
 | ((refine zbt 102 103000000 rfl rfl (zpt rfl) rfl (λ R hR=>?_));(conv=>whnf);(with_reducible refine hR _ ?ha ?_);(case ha=>exact rfl);clear R hR)
 | ((refine zbt 103000602 103000603000000 rfl rfl (zpt rfl) rfl (λ R hR=>?_));(conv=>whnf);(with_reducible refine hR _ ?ha ?_);(case ha=>exact rfl);clear R hR)
 | (show Kinl _ _ _ _ _ _ _;conv=>whnf)
 | ((with_reducible refine zdT ?ha ?hb ?_);(case ha=>exact rfl);(case hb=>exact rfl);conv=>whnf)
 | ((refine⟨?hx,trivial⟩);(case hx=>(cases hF;exact rfl)))
 | with_reducible refine zcz ?_)

end Go.Vc
namespace Go.Vc
open Go.Proofs
variable {N id:Nat} {ρ:Type} {q:ρ} {xs:List SV} {m:Nat->Blk} {l:List Loc} {ds:List D} {K:Dl->List Loc->Prop} {k0 k1 k2 k3 k4 k5 k6 k7 k8 k9 k10 k11 k12 k13 k14 k15 m0 m1 m2 m3 m4 m5:Nat}
def f11 (N:Nat)(a0:Layout):Option ((List Cut)×Int) :=
 (f48 N a0).bind λ x1 =>
 bif decide (¬ x1=(0:Int)) then (some ([],x1))
 else ((f51 N a0).bind λ x2 =>
 bif !x2.2.2 then (some ([],(14:Int)))
 else (some (x2.1,(0:Int))))
def G11 (ds:List D)(d:D):Prop:=∃ (N:Nat) (a0:Layout) (r:(List Cut)×Int),ds=[Layout.d a0]/\f11 N a0=some r/\d = .tup [zbl r.1,iN r.2]
theorem G11.step {a0}{A:_->Option ρ}{K:D->Prop}(hd:ds=[Layout.d a0])(h:∀ r,A r=some q->K (.tup [zbl r.1,iN r.2]))(hF:(f11 N a0).bind A=some q):∃ d,G11 ds d/\K d:=by
 obtain⟨r,hr,hA⟩:=bind_some hF;exact⟨_,⟨N,a0,r,hd,hr,rfl⟩,h r hA⟩
set_option maxRecDepth 20000 in
set_option maxHeartbeats 4000000 in
theorem P11:PureOK Tryz.prog 11 G11:=by
 refine zau (c:=za2 zaO [(51,true,zbH [[0,0,4]] G51),(48,true,lendPg [[0,0,4]] G48)]) rfl tyOK (za5 (zal Tryz.func51 rfl rfl) P51 (zaS (zal Tryz.func48 rfl rfl) P48 (zaB))) [[2],[0]] 1 Tryz.func11 rfl rfl (by decide) (by kernel_rfl) ?_;rintro ds d ⟨N,a0,r,rfl,hF,rfl⟩ hok;clear hok;refine⟨rfl, ?_⟩;show vc _ _ _ _ ⟨[(0, .dat (Layout.d a0))],[]⟩ _;unfold f11 at hF
 repeat' (first
 | ((with_reducible first|refine q0 _ _ ?_|refine q1 _ _ _ _ ?_|refine q2 _ _ _ ?_);clear Q q0 q1 q2)
 | ((with_reducible first|refine zbz ?hx (λ Q q0 q1 q2=>?_)|refine zcD ?hx (λ Q q0 q1 q2=>?_));(case hx=>exact rfl);conv=>whnf)
 | ((with_reducible refine zbL ?_);(first|((refine zcK rfl ?hy ?_);(case hy=>first|assumption|exact notT (by assumption)|exact rfl))|((refine zcL rfl ?hy ?_);(case hy=>first|assumption|exact notF (by assumption)|exact rfl))|(revert hF;(with_reducible refine zfd ?hx ?_ ?_);(case hx=>exact rfl);all_goals (intro hc hF))))
 | ((with_reducible refine zaX ?_);(first|((with_reducible refine hR _ ?_);clear R hR)|((with_reducible refine hL _ ?_);clear L hL)))
 | (with_reducible first|refine zbd ?_|refine zaW ?_|refine zby ?_|refine zbI ?_|refine zaz (λ R hR=>?_)|refine zay ?_|refine zaJ ?_|refine zeM ?_|refine zaT ?_|refine zaK ?_)
 | ((with_reducible refine zaZ [] ?hx ?_);(case hx=>exact rfl))
 | (revert hF;(with_reducible refine G48.lend ?hx ?_);(case hx=>exact rfl);intro v hF;conv=>whnf)
 | (revert hF;(with_reducible refine G51.step ?hx ?_);(case hx=>exact rfl);intro v hF;conv=>whnf)
 | ((refine⟨?hx,trivial⟩);(case hx=>(cases hF;exact rfl)))
 | with_reducible refine zcz ?_)

end Go.Vc
namespace Go.Vc
open Go.Proofs
variable {N id:Nat} {ρ:Type} {q:ρ} {xs:List SV} {m:Nat->Blk} {l:List Loc} {ds:List D} {K:Dl->List Loc->Prop} {k0 k1 k2 k3 k4 k5 k6 k7 k8 k9 k10 k11 k12 k13 k14 k15 m0 m1 m2 m3 m4 m5:Nat}
def zdX (a1:Int)(N:Nat)(x3:Int)(b506_2:List Label)(x4:(List Cut)×Int):Option (Bool) :=
 (f12 N (Layout.mk x3 (W ((1:Int)+(Int.tmod a1 (12:Int)))) b506_2) x4.1).bind λ x7 =>
 bif decide (x7=(0:Int)) then ((f13 N ).bind λ x8 =>
 some (x8))
 else (some (false))
def zi0 (a1:Int)(N:Nat)(x3:Int)(b506_2:List Label)(x4:(List Cut)×Int):Lp (Unit) (Nat×Unit) (Bool):=lpm ⟨[7,9],[506,90500],[],[90500]⟩ (λ _=>zdX a1 N x3 b506_2 x4) (λ _ (_,_)=>[.ptr 506 0, .dat (zbl x4.1)]) (λ _ (m0,_)=>[.box [.dat (iN x3), .dat (iN (W ((1:Int)+(Int.tmod a1 (12:Int))))), .rs 90500 m0], .fz 31 4 (List.map Label.d b506_2)]) λ _=>(List.length b506_2,())
instance Ef3_c20 {a1 N x3 b506_2 x4}:IsLp 1 0 (zdX a1 N x3 b506_2 x4) (zi0 a1 N x3 b506_2 x4) ():=⟨rfl⟩
instance Cf3_c20 {a1 N x3 b506_2 x4}:IsCut 0 (zdX a1 N x3 b506_2 x4) (zi0 a1 N x3 b506_2 x4) 20:=⟨⟩
def zjM (r15:Int->Option (Bool))(a1:Int)(x1:List Int)(x3:Int)(b506_2:List Label)(x4:(List Cut)×Int)(k0:Option (Bool))(v100:Int):Option (Bool) :=
 bif decide (v100<(List.length x4.1:Int)) then ((ix x4.1 v100).bind λ x9 =>
 (ix x1 (W (v100+(1:Int)))).bind λ x10 =>
 bif !((x9.Up == true)&&(decide (x9.At=x10)&&true)) then (some (false))
 else (r15 (W (v100+(1:Int)))))
 else k0
def zg0 (a1:Int)(x1:List Int)(x3:Int)(b506_2:List Label)(x4:(List Cut)×Int)(k0:Option (Bool)):Nat->Int->Option (Bool)
 | 0,_=>none
 | n+1,v100=>zjM (zg0 a1 x1 x3 b506_2 x4 k0 n) a1 x1 x3 b506_2 x4 k0 v100
def znF (a1:Int)(x1:List Int)(x3:Int)(b506_2:List Label)(x4:(List Cut)×Int)(k0:Option (Bool)):Lp (Nat×Int) (Nat×Unit) (Bool):=lpm ⟨[5,7,9,98,99,100],[506,90500],[],[90500]⟩ (λ (n,v100)=>zg0 a1 x1 x3 b506_2 x4 k0 n v100) (λ (_,v100) (_,_)=>[.dat (zev x1), .ptr 506 0, .dat (zbl x4.1), .dat (zbl x4.1), .dat (iN (List.length x4.1:Int)), .dat (iN v100)]) (λ (_,_) (m0,_)=>[.box [.dat (iN x3), .dat (iN (W ((1:Int)+(Int.tmod a1 (12:Int))))), .rs 90500 m0], .fz 31 4 (List.map Label.d b506_2)]) λ (_,_)=>(List.length b506_2,())
instance Ef3_15 {a1 x1 x3 b506_2 x4 k0 n v100}:IsLp 1 1 (zg0 a1 x1 x3 b506_2 x4 k0 n v100) (znF a1 x1 x3 b506_2 x4 k0) (n,v100):=⟨rfl⟩
def zdY (a1:Int)(N:Nat)(x1:List Int)(x3:Int)(b506_2:List Label):Option (Bool) :=
 (f10 N (Layout.mk x3 (W ((1:Int)+(Int.tmod a1 (12:Int)))) b506_2)).bind λ x4 =>
 (f11 N (Layout.mk x3 (W ((1:Int)+(Int.tmod a1 (12:Int)))) b506_2)).bind λ x5 =>
 bif decide (¬ x4.2=(0:Int)) then (some (false))
 else (bif decide (¬ x5.2=(0:Int)) then (some (false))
 else (bif decide (¬ (List.length x4.1:Int)=(W ((List.length x1:Int)-(2:Int)))) then (some (false))
 else (bif decide (¬ (List.length x5.1:Int)=(List.length x4.1:Int)) then (some (false))
 else ((f12 N (Layout.mk x3 (W ((1:Int)+(Int.tmod a1 (12:Int)))) b506_2) x5.1).bind λ x6 =>
 bif decide (¬ x6=(0:Int)) then (some (false))
 else (zbC (zdX a1 N x3 b506_2 x4) λ k0 =>
 zg0 a1 x1 x3 b506_2 x4 k0 N (0:Int))))))
def zi1 (a1:Int)(N:Nat)(x1:List Int)(x3:Int):Lp ((List Label)) (Nat×Unit) (Bool):=lpm ⟨[5,7],[506,90500],[(.cell 506 2,90500,31,4)],[]⟩ (λ b506_2=>zdY a1 N x1 x3 b506_2) (λ _ (_,_)=>[.dat (zev x1), .ptr 506 0]) (λ b506_2 (m0,_)=>[.box [.dat (iN x3), .dat (iN (W ((1:Int)+(Int.tmod a1 (12:Int))))), .rs 90500 m0], .row 31 4 (List.map Label.d b506_2)]) λ b506_2=>(List.length b506_2,())
instance Ef3_c10 {a1 N x1 x3 b506_2}:IsLp 1 1 (zdY a1 N x1 x3 b506_2) (zi1 a1 N x1 x3) b506_2:=⟨rfl⟩
instance Cf3_c10 {a1 N x1 x3}:IsCut 1 (zdY a1 N x1 x3) (zi1 a1 N x1 x3) 10:=⟨⟩
def zmc (r7:Int->(List Label)->Option (Bool))(a1:Int)(x1:List Int)(x3:Int)(k1:(List Label)->Option (Bool))(v8:Int)(b506_2:List Label):Option (Bool) :=
 bif decide (v8<(List.length x1:Int)) then ((ix x1 (W (v8-(1:Int)))).bind λ x11 =>
 (ix x1 v8).bind λ x12 =>
 (ix x1 (W (v8-(1:Int)))).bind λ x13 =>
 (app 32 b506_2 [(Label.mk x11 (0:Int) (W (x12-x13)) (W ((1:Int)+(Int.tmod a1 (12:Int)))))]).bind λ x14 =>
 r7 (W (v8+(1:Int))) x14)
 else (k1 b506_2)
def f3_7 (a1:Int)(x1:List Int)(x3:Int)(k1:(List Label)->Option (Bool)):Nat->Int->(List Label)->Option (Bool)
 | 0,_,_=>none
 | n+1,v8,b506_2=>zmc (f3_7 a1 x1 x3 k1 n) a1 x1 x3 k1 v8 b506_2
def zpk (a1:Int)(x1:List Int)(x3:Int)(k1:(List Label)->Option (Bool)):Lp (Nat×Int×(List Label)) (Nat×Unit) (Bool):=lpm ⟨[5,7,8],[506,90500],[(.cell 506 2,90500,31,4)],[]⟩ (λ (n,v8,b506_2)=>f3_7 a1 x1 x3 k1 n v8 b506_2) (λ (_,v8,_) (_,_)=>[.dat (zev x1), .ptr 506 0, .dat (iN v8)]) (λ (_,_,b506_2) (m0,_)=>[.box [.dat (iN x3), .dat (iN (W ((1:Int)+(Int.tmod a1 (12:Int))))), .rs 90500 m0], .row 31 4 (List.map Label.d b506_2)]) λ (_,_,b506_2)=>(List.length b506_2,())
instance Ef3_7 {a1 x1 x3 k1 n v8 b506_2}:IsLp 1 2 (f3_7 a1 x1 x3 k1 n v8 b506_2) (zpk a1 x1 x3 k1) (n,v8,b506_2):=⟨rfl⟩
def f3 (N:Nat)(a0:List Int)(a1:Int):Option (Bool) :=
 (f8 N a0 (4:Int) (12:Int)).bind λ x1 =>
 (f9 N x1).bind λ x2 =>
 bif decide (¬ x2=(0:Int)) then (some (false))
 else ((ix x1 (W ((List.length x1:Int)-(1:Int)))).bind λ x3 =>
 zbC (zdY a1 N x1 x3) λ k1 =>
 f3_7 a1 x1 x3 k1 N (1:Int) [])
def G3 (ds:List D)(d:D):Prop:=∃ (N:Nat) (a0:List Int) (a1:Int) (r:Bool),ds=[zfo a0,u8N a1]/\f3 N a0 a1=some r/\d=bN r
set_option maxRecDepth 20000 in
set_option maxHeartbeats 4000000 in
theorem P3:PureOK Tryz.prog 3 G3:=by
 refine zau (c:=za2 zaO [(13,true,lendPg [] G13),(12,true,lendPg [[0,0,4],[2]] G12),(11,true,zbH [[0,0,4]] G11),(10,true,zbH [[0,0,4]] G10),(9,true,lendPg [[1]] G9),(8,true,zbH [[1],[0],[0]] G8)]) rfl tyOK (zaS (zal Tryz.func13 rfl rfl) P13 (zaS (zal Tryz.func12 rfl rfl) P12 (za5 (zal Tryz.func11 rfl rfl) P11 (za5 (zal Tryz.func10 rfl rfl) P10 (zaS (zal Tryz.func9 rfl rfl) P9 (za5 (zal Tryz.func8 rfl rfl) P8 (zaB))))))) [[0]] 2 Tryz.func3 rfl rfl (by decide) (by kernel_rfl) ?_;rintro ds d ⟨N,a0,a1,r,rfl,hF,rfl⟩ hok;clear hok;refine⟨rfl, ?_⟩;show vc _ _ _ _ ⟨[(0, .dat (zfo a0)),(1, .dat (u8N a1))],[]⟩ _;unfold f3 at hF
 repeat' (first
 | ((with_reducible first|refine q0 _ _ ?_|refine q1 _ _ _ _ ?_|refine q2 _ _ _ ?_);clear Q q0 q1 q2)
 | ((with_reducible first|refine zbz ?hx (λ Q q0 q1 q2=>?_)|refine zd2 ?hx (λ Q q0 q1 q2=>?_)|refine zcD ?hx (λ Q q0 q1 q2=>?_)|refine zgd ?hx (λ Q q0 q1 q2=>?_));(case hx=>exact rfl);conv=>whnf)
 | ((with_reducible first|refine zeN ?hx ?_|refine zdD ?hx ?_|refine zge ?hx ?_|refine zeO ?hx ?_|refine zcC ?hx ?_|refine zdC ?hx ?_);(case hx=>exact rfl))
 | ((with_reducible refine zer ?_);(first|((first|refine zcM rfl ?hy (λ Q q0 q1 q2=>?_)|refine zbW rfl ?hy (λ Q q0 q1 q2=>?_));(case hy=>first|assumption|exact notT (by assumption)|exact rfl);conv=>whnf)|((first|refine zbV rfl ?hy ?_|refine zbs rfl ?hy ?_);(case hy=>first|assumption|exact notF (by assumption)|exact rfl))|(revert hF;(with_reducible first|refine zcN ?hx ?_ ?_|refine zbX ?hx ?_ ?_);(case hx=>exact rfl);(intro hc hF Q q0 q1 q2;conv=>whnf);rotate_left;(intro hc hF);rotate_right)|(revert hF;(with_reducible first|refine zcO ?hx ?_ ?_|refine zbY ?hx ?_ ?_);(case hx=>exact rfl);(intro hc hF);rotate_left;(intro hc hF Q q0 q1 q2;conv=>whnf);rotate_right)))
 | ((with_reducible refine zbL ?_);(first|((refine zcK rfl ?hy ?_);(case hy=>first|assumption|exact notT (by assumption)|exact rfl))|((refine zcL rfl ?hy ?_);(case hy=>first|assumption|exact notF (by assumption)|exact rfl))|(revert hF;(with_reducible refine zfd ?hx ?_ ?_);(case hx=>exact rfl);all_goals (intro hc hF))))
 | ((with_reducible refine zaX ?_);(first|((with_reducible refine hR _ ?_);clear R hR)|((with_reducible refine hL _ ?_);clear L hL)))
 | ((with_reducible refine zcW ?_);(with_reducible refine hR _ _ ?hx ?_);(case hx=>kernel_rfl);clear R hR)
 | ((with_reducible first|refine zbh ?_|refine zbD ?_|refine idx2 (by assumption) ?_|refine idx3 (by assumption) ?_);conv=>whnf)
 | (with_reducible first|refine zbd ?_|refine zaW ?_|refine zby ?_|refine zbI ?_|refine zaz (λ R hR=>?_)|refine zay ?_|refine zaJ ?_|refine zeM ?_|refine zaT ?_|refine zaK ?_|refine zba ?_|refine zaU ?_)
 | ((with_reducible refine zaZ [20,10] ?hx ?_);(case hx=>exact rfl))
 | ((with_reducible refine zd0 ?hx (λ R L hL hR=>?_));(case hx=>exact rfl))
 | ((with_reducible replace hF:=isE hF);(dsimp only[zi0,znF,zi1,zpk,zg0,f3_7] at hF);first|((with_reducible replace hF:=chkE (e:=zdX ..) hF);rewrite[zdX] at hF)|rewrite[zjM] at hF|rewrite[zdY] at hF|rewrite[zmc] at hF)
 | ((with_reducible refine zbi ?_);(with_reducible replace hF:=zdS 0 hF);((refine Lp.cutI hF rfl rfl ?_ ?_) <;> clear hF);(intro hF);rotate_left;(rintro _ hF);rotate_right)
 | ((with_reducible refine za9 ?_);(with_reducible replace hF:=toLp 1 0 hF);exact Lp.headI hF (_,()) ⟨_,rfl,rfl,rfl,rfl⟩ (pr2 (by first|exact rfl|assumption|omega|(simp only[List.length_set];done)) rfl))
 | ((with_reducible refine zcr ?_);(with_reducible replace hF:=toLp 1 1 hF);((refine Lp.loopI hF (_,()) rfl ⟨_,rfl,rfl,rfl,rfl⟩ (pr2 (by first|exact rfl|assumption|omega|(simp only[List.length_set];done)) rfl) (λ _=>rfl) ?_);clear hF);(rintro n _ hF))
 | ((with_reducible refine zcs ?_);(with_reducible replace hF:=toLp 1 1 hF);exact Lp.backI hF (_,()) ⟨_,rfl,rfl,rfl,rfl⟩ (pr2 (by first|exact rfl|assumption|omega|(simp only[List.length_set];done)) rfl))
 | ((with_reducible refine zbi ?_);(with_reducible replace hF:=zdS 1 hF);((refine Lp.cutI hF rfl rfl ?_ ?_) <;> clear hF);(intro hF);rotate_left;(rintro _ hF);rotate_right)
 | ((with_reducible refine za9 ?_);(with_reducible replace hF:=toLp 1 1 hF);exact Lp.headI hF (_,()) ⟨_,rfl,rfl,rfl,rfl⟩ (pr2 (by first|exact rfl|assumption|omega|(simp only[List.length_set];done)) rfl))
 | ((with_reducible refine zcr ?_);(with_reducible replace hF:=toLp 1 2 hF);((refine Lp.loopI hF (_,()) rfl ⟨_,rfl,rfl,rfl,rfl⟩ (pr2 (by first|exact rfl|assumption|omega|(simp only[List.length_set];done)) rfl) (λ _=>rfl) ?_);clear hF);(rintro n ⟨_,_⟩ hF))
 | ((with_reducible refine zcs ?_);(with_reducible replace hF:=toLp 1 2 hF);exact Lp.backI hF (_,()) ⟨_,rfl,rfl,rfl,rfl⟩ (pr2 (by first|exact rfl|assumption|omega|(simp only[List.length_set];done)) rfl))
 | (revert hF;(with_reducible refine G8.step ?hx ?_);(case hx=>exact rfl);intro v hF;conv=>whnf)
 | (revert hF;(with_reducible refine G9.lend ?hx ?_);(case hx=>exact rfl);intro v hF;conv=>whnf)
 | (revert hF;(with_reducible refine G10.step ?hx ?_);(case hx=>exact rfl);intro v hF;conv=>whnf)
 | (revert hF;(with_reducible refine G11.step ?hx ?_);(case hx=>exact rfl);intro v hF;conv=>whnf)
 | (revert hF;(with_reducible refine G12.lend ?hx ?_);(case hx=>exact rfl);intro v hF;conv=>whnf)
 | (revert hF;(with_reducible refine G13.lend ?hx ?_);(case hx=>exact rfl);intro v hF;conv=>whnf)
 | (revert hF;(with_reducible refine idx1 ?hn ?_);(case hn=>first|exact rfl|exact(List.length_map _)|assumption|omega|simp);intro x hx hF;conv=>whnf)
 | ((with_reducible have hG:=zc2 hF);clear hF;(first|((refine zdk hG ?hn ?hs (λ q hF=>?_));(case hn=>first|exact rfl|assumption|omega);(case hs=>exact rfl))|((refine zdj (d:=Label.d) hG ?hs (λ q hF=>?_));(case hs=>exact rfl))|((refine zdl (d:=Label.d) hG ?ho ?hn ?hs (λ q hF=>?_));(case ho=>exact rfl);(case hn=>exact rfl);(case hs=>exact rfl)));clear hG;conv=>whnf)
 | ((refine ze ?hn ?_);(case hn=>first|exact rfl|(simp;done)|(simp;omega));conv=>whnf)
 | ((with_reducible refine zlA ?_);conv=>whnf)
 | ((with_reducible refine zep ?hx ?_);(case hx=>first|exact rfl|assumption|exact notT (by assumption));conv=>whnf)
 | ((with_reducible refine zeq ?hx ?_);(case hx=>first|exact rfl|assumption|exact notF (by assumption));conv=>whnf)
 | ((refine⟨?hx,trivial⟩);(case hx=>(cases hF;exact rfl)))
 | ((refine⟨?hx, ?_⟩);(case hx=>decide);conv=>whnf)
 | with_reducible refine zcz ?_)

end Go.Vc
namespace Go.Vc
def lev (last:Int):Nat->List (List Int)
 | 0=>[[0]]
 | n+1=>(lev last n).flatMap λ l=>([1,2,3,4].map λ d=>l++[l.getLastD 0+d]).filter λ l=>decide (l.getLastD 0<=last)
def zi2 (last:Int):List (List Int):=lev last 1++(lev last 2++(lev last 3++lev last 4))
theorem zmd {last:Int}(h0:0<=last):∀ {n:Nat} {l:List Int},l∈lev last n->l.length=n+1/\0<=l.getLastD 0/\l.getLastD 0<=last
 | 0,l,h=>by simp[lev] at h;subst h;simp;exact h0
 | n+1,l,h=>by
  simp only[lev,List.mem_flatMap,List.mem_filter,decide_eq_true_eq,List.mem_map] at h;obtain⟨q,hq,⟨d,hd,rfl⟩,hl⟩:=h;obtain⟨h1,h2,h3⟩:=zmd h0 hq
  have h4:1<=d:=by
   simp at hd;omega
  have e:(q++[q.getLastD 0+d]).getLastD 0=q.getLastD 0+d:=by simp
  rw[e] at hl ⊢;exact⟨by simp[h1],by omega,hl⟩
theorem zoH {last:Int}{n:Nat}{l:List Int}(h:l∈lev last n){d:Int}(h1:1<=d)(h4:d<=4)(hl:l.getLastD 0+d<=last):l++[l.getLastD 0+d]∈lev last (n+1):=by
 simp only[lev,List.mem_flatMap,List.mem_filter,decide_eq_true_eq,List.mem_map];exact⟨l,h,⟨d,by simp;omega,rfl⟩,by simpa using hl⟩
theorem zoI {l:List Int}{n:Nat}(h:l.length=n+1)(hn:n<=100):ix l (W ((List.length l:Int)-(1:Int)))=some (l.getLastD 0):=by
 rw[W_of (by omega) (by omega),show (l.length:Int)-1=((n:Nat):Int) by omega,znp (by omega)]
 have e:l[l.length-1]? = some l[n]:=by rw[show l.length-1=n by omega];exact zpq (by omega)
 rw[List.getLastD_eq_getLast?,List.getLast?_eq_getElem?,e];rfl
theorem zoJ {last:Int}(h0:2<=last)(h1:last<=100){a0:List Int}(ha:∀ x,x∈a0->0<=x)(hl:a0.length<=9223372036854775807) :
  ∀ (n i k:Nat) (l:List Int),l∈lev last k->k<=4->i<=a0.length->a0.length-i<n->∃ r,r∈zi2 last/\f8_3 a0 4 last zfN n l (i:Int)=some r:=by
 have hfin:∀ k l,l∈lev last k->k<=4->∃ r,r∈zi2 last/\zfN l=some r:=by
  intro k l hm hk;obtain⟨h3,_,_⟩:=zmd (by omega) hm;unfold zfN;by_cases h2:(List.length l:Int)<(2:Int)
  .rw [decide_eq_true h2,cond_true]
   obtain rfl:k=0:=by omega
   simp[lev] at hm;subst hm;refine⟨[0,2], ?_,rfl⟩;simp only[zi2,List.mem_append];refine Or.inl ?_;simp[lev];omega
  .rw [decide_eq_false h2,cond_false]
   refine⟨l, ?_,rfl⟩;simp only[zi2,List.mem_append]
   match k,hk,h3,hm with
   | 0,_,h3,_=>omega
   | 1,_,_,hm=>exact Or.inl hm
   | 2,_,_,hm=>exact Or.inr (Or.inl hm)
   | 3,_,_,hm=>exact Or.inr (Or.inr (Or.inl hm))
   | 4,_,_,hm=>exact Or.inr (Or.inr (Or.inr hm))
   | k+5,hk,_,_=>omega
 intro n
 induction n with
 | zero=>intro i k l _ _ _ h;omega
 | succ n ih =>
  intro i k l hm hk hi hn;obtain⟨h3,h5,h6⟩:=zmd (by omega) hm;show ∃ r,r∈zi2 last/\zm9 (f8_3 a0 4 last zfN n) a0 4 last zfN l (i:Int)=some r;unfold zm9;by_cases hlt:i<a0.length
  .rw [decide_eq_true (show (i:Int)<(a0.length:Int) by omega),cond_true]
   by_cases h7:(List.length l:Int)<(5:Int)
   .rw [decide_eq_true h7,cond_true,zoI h3 (by omega),zpo,znp hlt,zpo]
    rw[show chk (decide ((4:Int)≠0))=some () from rfl,zpo,W_nat (by omega)]
    have hd:0<=Int.tmod a0[i] 4/\Int.tmod a0[i] 4<=3:=by
     have:=ha a0[i] (List.getElem_mem hlt);rw[Int.tmod_eq_emod_of_nonneg this];omega
    obtain⟨d,hd'⟩:∃ d,d=Int.tmod a0[i] 4:=⟨_,rfl⟩;rw[<- hd'] at hd ⊢;rw[W_of (n:=l.getLastD 0+1) (by omega) (by omega),W_of (n:=l.getLastD 0+1+d) (by omega) (by omega)];by_cases hle:l.getLastD 0+1+d<=last
    .rw [decide_eq_true hle,cond_true,zo9 (by simp;omega) (by simp;omega),zpo]
     rw[show l.getLastD 0+1+d=l.getLastD 0+(1+d) by omega];exact ih (i+1) (k+1) _ (zoH hm (by omega) (by omega) (by omega)) (by omega) (by omega) (by omega)
    .rw [decide_eq_false hle,cond_false]
     exact ih (i+1) k l hm hk (by omega) (by omega)
   .rw [decide_eq_false h7,cond_false]
    exact hfin k l hm hk
  .rw [decide_eq_false (show ¬ (i:Int)<(a0.length:Int) by omega),cond_false]
   exact hfin k l hm hk
theorem znd {last:Int}(h0:2<=last)(h1:last<=100){a0:List Int}(ha:∀ x,x∈a0->0<=x)(hl:a0.length<=9223372036854775807){N:Nat}(hN:a0.length<N) :
  ∃ r,r∈zi2 last/\f8 N a0 4 last=some r :=
 zoJ h0 h1 ha hl N 0 0 [0] (by simp[lev]) (by omega) (by omega) (by omega)
end Go.Vc
namespace Go.Vc
def g3 (N:Nat)(h:Int)(x1:List Int):Option Bool :=
 (f9 N x1).bind λ x2 =>
 bif decide (¬ x2=(0:Int)) then (some (false))
 else ((ix x1 (W ((List.length x1:Int)-(1:Int)))).bind λ x3 =>
 zbC (zdY h N x1 x3) λ k1 =>
 f3_7 h x1 x3 k1 N (1:Int) [])
def yes:Option Bool->Bool
 | some b=>b
 | none=>false
theorem zpl {x:Option Bool}(h:yes x=true):x=some true:=by
 cases x with
 | none=>cases h
 | some b=>exact congrArg some h
def allB (N:Nat)(h:Int):Bool:=(zi2 12).all λ l=>yes (g3 (N+100) h l)
end Go.Vc
