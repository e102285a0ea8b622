/-
  A library for proofs about Go functions by symbolic evaluation,and plain Lean functions that the walked Go functions compute (written by a program of this claim).
-/
import Derived.Test.YtlngljdmmlbhgaaGreatDoorTTF1
import Derived.Test.YtlngljdmmlbhgaaGreatDoorTTF2
import Derived.Test.YtlngljdmmlbhgaaGreatDoorTTF3
import Derived.Test.YtlngljdmmlbhgaaGreatDoorTTF5
import Derived.Test.YtlngljdmmlbhgaaGreatDoorVc5
set_option linter.unusedVariables false
set_option linter.unnecessarySimpa false
set_option linter.unusedSimpArgs false
namespace Go.Vc
abbrev zrl:Nat:=605000000
abbrev zrm:Nat:=605000001
abbrev zrn:Nat:=606000002
abbrev zro:Nat:=606000003
abbrev zrp:Nat:=606000004
abbrev zrq:Nat:=606000005
abbrev zrr:Nat:=606000000
abbrev zrs:Nat:=606000001
abbrev zrt:Nat:=606000104000609000000
open Go.Proofs
variable {N id:Nat} {ρ:Type} {q:ρ} {xs:List SV} {m:Nat->Blk} {l:List Loc} {ds:List D} {K:Dl->List Loc->Prop} {k0 k1 k2 k3 k4 k5 k6 k7 k8 k9 k10 k11 k12 k13 k14 k15 m0 m1 m2 m3 m4 m5:Nat}
def zf3 (l7:List Int):Option ((List Int)) :=
 bif decide ((List.length l7:Int)<(2:Int)) then ((app 8 l7 [(2:Int)]).bind λ x1 =>
 some (x1))
 else (some (l7))
def znm:Lp ((List Int)) (Nat×Unit) ((List Int)):=lpm ⟨[7],[90007],[(.slot 7,90007,3,1)],[]⟩ (λ l7=>zf3 l7) (λ _ (m0,_)=>[.rs 90007 m0]) (λ l7 (_,_)=>[.row 3 1 (List.map iN l7)]) λ l7=>(List.length l7,())
instance Ef8_c8 {l7}:IsLp 1 1 (zf3 l7) (znm) l7:=⟨rfl⟩
instance Cf8_c8:IsCut 1 (zf3) (znm) 8:=⟨⟩
def zoA (r3:(List Int)->Int->Option ((List Int)))(a0:List Int)(a1:Int)(a2:Int)(k0:(List Int)->Option ((List Int)))(l7:List Int)(i8':Int):Option ((List Int)) :=
 bif decide ((i8')<(List.length a0:Int)) then (bif decide ((List.length l7:Int)<(5:Int)) then ((ix l7 (W ((List.length l7:Int)-(1:Int)))).bind λ x2 =>
 (ix a0 (i8')).bind λ x3 =>
 (chk (decide (a1≠0))).bind λ _ =>
 bif decide ((W ((W (x2+(1:Int)))+(Int.tmod x3 a1)))<=a2) then ((app 8 l7 [W ((W (x2+(1:Int)))+(Int.tmod x3 a1))]).bind λ x4 =>
 r3 x4 (W ((i8')+(1:Int))))
 else (r3 l7 (W ((i8')+(1:Int)))))
 else (k0 l7))
 else (k0 l7)
def f8_3 (a0:List Int)(a1:Int)(a2:Int)(k0:(List Int)->Option ((List Int))):Nat->(List Int)->Int->Option ((List Int))
 | 0,_,_=>none
 | n+1,l7,i8' => zoA (f8_3 a0 a1 a2 k0 n) a0 a1 a2 k0 l7 i8'
def zq0 (a0:List Int)(a1:Int)(a2:Int)(k0:(List Int)->Option ((List Int))):Lp (Nat×(List Int)×Int) (Nat×Unit) ((List Int)):=lpm ⟨[0,1,2,7,8],[90007],[(.slot 7,90007,3,1)],[]⟩ (λ (n,l7,i8')=>f8_3 a0 a1 a2 k0 n l7 i8') (λ (_,_,i8') (m0,_)=>[.dat (zfF a0), .dat (iN a1), .dat (iN a2), .rs 90007 m0, .dat (iN (i8'))]) (λ (_,l7,_) (_,_)=>[.row 3 1 (List.map iN l7)]) λ (_,l7,_)=>(List.length l7,())
instance Ef8_3 {a0 a1 a2 k0 n l7 i8'}:IsLp 1 2 (f8_3 a0 a1 a2 k0 n l7 i8') (zq0 a0 a1 a2 k0) (n,l7,i8'):=⟨rfl⟩
def f8 (N:Nat)(a0:List Int)(a1:Int)(a2:Int):Option ((List Int)) :=
 zbI zf3 λ k0 =>
 f8_3 a0 a1 a2 k0 N [(0:Int)] (0:Int)
def G8 (ds:List D)(d:D):Prop:=∃ (N:Nat) (a0:List Int) (a1:Int) (a2:Int) (r:(List Int)),ds=[zfF a0,iN a1,iN a2]/\f8 N a0 a1 a2=some r/\d=zbp r
theorem G8.step {a0 a1 a2}{A:_->Option ρ}{K:D->Prop}(hd:ds=[zfF a0,iN a1,iN a2])(h:∀ r,A r=some q->K (zbp r))(hF:(f8 N a0 a1 a2).bind A=some q):∃ d,G8 ds d/\K d:=by
 obtain⟨r,hr,hA⟩:=bind_some hF;exact⟨_,⟨N,a0,a1,a2,r,hd,hr,rfl⟩,h r hA⟩
set_option maxRecDepth 20000 in
set_option maxHeartbeats 4000000 in
theorem P8:PureOK Tryz.prog 8 G8:=by
 refine za1 (c:=zbo za9 []) rfl tyOK (zaZ) [[1]] 3 Tryz.func8 rfl rfl (by decide) (by kernel_rfl) ?_;rintro ds d ⟨N,a0,a1,a2,r,rfl,hF,rfl⟩ hok;clear hok;refine⟨rfl, ?_⟩;show vc _ _ _ _ ⟨[(0, .dat (zfF a0)),(1, .dat (iN a1)),(2, .dat (iN a2))],[]⟩ _;unfold f8 at hF
 repeat' (first
 | ((with_reducible first|refine q0 _ _ ?_|refine q1 _ _ _ _ ?_|refine q2 _ _ _ ?_);clear Q q0 q1 q2)
 | ((with_reducible first|refine zdm ?hx (λ Q q0 q1 q2=>?_)|refine zi2 ?hx (λ Q q0 q1 q2=>?_));(case hx=>exact rfl);conv=>whnf)
 | ((with_reducible refine zgm ?_);(first|((first|refine zeo rfl ?hy (λ Q q0 q1 q2=>?_)|refine zde rfl ?hy (λ Q q0 q1 q2=>?_));(case hy=>first|assumption|exact notT (by assumption)|exact rfl);conv=>whnf)|((first|refine zdd rfl ?hy ?_|refine zcq rfl ?hy ?_);(case hy=>first|assumption|exact notF (by assumption)|exact rfl))|(revert hF;(with_reducible first|refine zep ?hx ?_ ?_|refine zdf ?hx ?_ ?_);(case hx=>exact rfl);(intro hc hF Q q0 q1 q2;conv=>whnf);rotate_left;(intro hc hF);rotate_right)|(revert hF;(with_reducible first|refine zeq ?hx ?_ ?_|refine zdg ?hx ?_ ?_);(case hx=>exact rfl);(intro hc hF);rotate_left;(intro hc hF Q q0 q1 q2;conv=>whnf);rotate_right)))
 | ((with_reducible refine zcG ?_);(first|((refine zd8 rfl ?hy ?_);(case hy=>first|assumption|exact notT (by assumption)|exact rfl))|((refine zd9 rfl ?hy ?_);(case hy=>first|assumption|exact notF (by assumption)|exact rfl))|(revert hF;(with_reducible refine zhi ?hx ?_ ?_);(case hx=>exact rfl);all_goals (intro hc hF))))
 | ((with_reducible refine zcb ?_);(first|((with_reducible refine hR _ ?_);clear R hR)|((with_reducible refine hL _ ?_);clear L hL)))
 | ((with_reducible refine zgK ?_);(with_reducible refine hR _ _ ?hx ?_);(case hx=>kernel_rfl);clear R hR)
 | ((with_reducible first|refine zb7 ?_|refine zcD ?_|refine idx2 (by assumption) ?_|refine idx3 (by assumption) ?_);conv=>whnf)
 | (with_reducible first|refine zbR ?_|refine zca ?_|refine zdl ?_|refine zcv ?_|refine zbd (λ R hR=>?_)|refine zbc ?_|refine za5 ?_|refine zgG ?_|refine zbs ?_|refine za6 ?_|refine zbl ?_|refine za3 ?_)
 | ((with_reducible refine zcf [8] ?hx ?_);(case hx=>exact rfl))
 | ((with_reducible refine zi0 ?hx (λ R L hL hR=>?_));(case hx=>exact rfl))
 | ((with_reducible replace hF:=isE hF);(dsimp only[znm,zq0,f8_3] at hF);first|rewrite[zf3] at hF|rewrite[zoA] at hF)
 | ((with_reducible refine zcE ?_);(with_reducible replace hF:=zhj 1 hF);((refine Lp.cutI hF rfl rfl ?_ ?_) <;> clear hF);(intro hF);rotate_left;(rintro _ hF);rotate_right)
 | ((with_reducible refine zcF ?_);(with_reducible replace hF:=toLp 1 1 hF);exact Lp.headI hF (_,()) ⟨_,rfl,rfl,rfl,rfl⟩ (pr2 (by first|exact rfl|assumption|omega|(simp only[List.length_set];done)) rfl))
 | ((with_reducible refine zcX ?_);(with_reducible replace hF:=toLp 1 2 hF);((refine Lp.loopI hF (_,()) rfl ⟨_,rfl,rfl,rfl,rfl⟩ (pr2 (by first|exact rfl|assumption|omega|(simp only[List.length_set];done)) rfl) (λ _=>rfl) ?_);clear hF);(rintro n ⟨_,_⟩ hF))
 | ((with_reducible refine zcY ?_);(with_reducible replace hF:=toLp 1 2 hF);exact Lp.backI hF (_,()) ⟨_,rfl,rfl,rfl,rfl⟩ (pr2 (by first|exact rfl|assumption|omega|(simp only[List.length_set];done)) rfl))
 | (revert hF;(with_reducible refine idx1 ?hn ?_);(case hn=>first|exact rfl|exact(List.length_map _)|assumption|omega|simp);intro x hx hF;conv=>whnf)
 | ((with_reducible have hG:=zks hF);clear hF;(first|((refine zjC hG ?hn ?hs (λ q hF=>?_));(case hn=>first|exact rfl|assumption|omega);(case hs=>exact rfl))|((refine zmN (d:=iN) hG ?hs (λ q hF=>?_));(case hs=>exact rfl))|((refine zmO (d:=iN) hG ?ho ?hn ?hs (λ q hF=>?_));(case ho=>exact rfl);(case hn=>exact rfl);(case hs=>exact rfl)));clear hG;conv=>whnf)
 | ((refine zmR ?hn ?_);(case hn=>first|exact rfl|(simp;done)|(simp;omega));conv=>whnf)
 | ((with_reducible refine zmQ ?hn ?_);(case hn=>first|exact rfl|assumption|omega);conv=>whnf)
 | ((with_reducible refine zen ?_);conv=>whnf)
 | ((with_reducible have hG:=zhh hF);clear hF;(refine⟨?hx, ?_⟩);(case hx=>(first|exact of_decide_eq_true hG.1|exact hG.1));have hF:=hG.2;clear hG;conv=>whnf)
 | ((with_reducible refine zgk ?hx ?_);(case hx=>first|exact rfl|assumption|exact notT (by assumption));conv=>whnf)
 | ((with_reducible refine zgl ?hx ?_);(case hx=>first|exact rfl|assumption|exact notF (by assumption));conv=>whnf)
 | ((refine⟨?hx,trivial⟩);(case hx=>(cases hF;exact rfl)))
 | with_reducible refine zeI ?_)
def f13 (N:Nat):Option (Bool) :=
 some true
def G13 (ds:List D)(d:D):Prop:=∃ (N:Nat) (r:Bool),ds=[]/\f13 N  = some r/\d=bN r
theorem G13.lend {A:_->Option ρ}{K:D->Prop}(hd:ds=[])(h:∀ r,A r=some q->K (bN r))(hF:(f13 N ).bind A=some q):∃ d,(G13 ds d/\d.flatB=true)/\K d:=by
 obtain⟨r,hr,hA⟩:=bind_some hF;exact⟨_,⟨⟨N,r,hd,hr,rfl⟩,rfl⟩,h r hA⟩
theorem P13:PureOK Tryz.prog 13 G13:=λ w Z vs ds d h1 h2 h3 h4 h5=>Cv.P13 w Z vs ds d h1 h2 h3 h4 (by
 obtain⟨N,r,rfl,hF,rfl⟩:=h5
 cases hF
 exact⟨rfl,rfl⟩)
def f56 (N:Nat)(a0:Int)(a1:Int)(a2:Int):Option (Bool) :=
 bif decide (a0<=a1) then (some (decide (a1<=a2)))
 else (some (false))
def G56 (ds:List D)(d:D):Prop:=∃ (N:Nat) (a0:Int) (a1:Int) (a2:Int) (r:Bool),ds=[iN a0,iN a1,iN a2]/\f56 N a0 a1 a2=some r/\d=bN r
theorem G56.lend {a0 a1 a2}{A:_->Option ρ}{K:D->Prop}(hd:ds=[iN a0,iN a1,iN a2])(h:∀ r,A r=some q->K (bN r))(hF:(f56 N a0 a1 a2).bind A=some q):∃ d,(G56 ds d/\d.flatB=true)/\K d:=by
 obtain⟨r,hr,hA⟩:=bind_some hF;exact⟨_,⟨⟨N,a0,a1,a2,r,hd,hr,rfl⟩,rfl⟩,h r hA⟩
set_option maxRecDepth 20000 in
set_option maxHeartbeats 4000000 in
theorem P56:PureOK Tryz.prog 56 G56:=by
 refine za1 (c:=zbo za9 []) rfl tyOK (zaZ) [[0]] 3 Tryz.func56 rfl rfl (by decide) (by kernel_rfl) ?_;rintro ds d ⟨N,a0,a1,a2,r,rfl,hF,rfl⟩ hok;clear hok;refine⟨rfl, ?_⟩;show vc _ _ _ _ ⟨[(0, .dat (iN a0)),(1, .dat (iN a1)),(2, .dat (iN a2))],[]⟩ _;unfold f56 at hF
 repeat' (first
 | ((with_reducible first|refine q0 _ _ ?_|refine q1 _ _ _ _ ?_|refine q2 _ _ _ ?_);clear Q q0 q1 q2)
 | ((with_reducible first|refine zdm ?hx (λ Q q0 q1 q2=>?_));(case hx=>exact rfl);conv=>whnf)
 | ((with_reducible refine zgm ?_);(first|((first|refine zeo rfl ?hy (λ Q q0 q1 q2=>?_)|refine zde rfl ?hy (λ Q q0 q1 q2=>?_));(case hy=>first|assumption|exact notT (by assumption)|exact rfl);conv=>whnf)|((first|refine zdd rfl ?hy ?_|refine zcq rfl ?hy ?_);(case hy=>first|assumption|exact notF (by assumption)|exact rfl))|(revert hF;(with_reducible first|refine zep ?hx ?_ ?_|refine zdf ?hx ?_ ?_);(case hx=>exact rfl);(intro hc hF Q q0 q1 q2;conv=>whnf);rotate_left;(intro hc hF);rotate_right)|(revert hF;(with_reducible first|refine zeq ?hx ?_ ?_|refine zdg ?hx ?_ ?_);(case hx=>exact rfl);(intro hc hF);rotate_left;(intro hc hF Q q0 q1 q2;conv=>whnf);rotate_right)))
 | ((with_reducible refine zcb ?_);(first|((with_reducible refine hR _ ?_);clear R hR)|((with_reducible refine hL _ ?_);clear L hL)))
 | (with_reducible first|refine zca ?_|refine zdl ?_|refine zbd (λ R hR=>?_)|refine zbc ?_)
 | ((with_reducible refine zcf [] ?hx ?_);(case hx=>exact rfl))
 | ((with_reducible refine zgk ?hx ?_);(case hx=>first|exact rfl|assumption|exact notT (by assumption));conv=>whnf)
 | ((with_reducible refine zgl ?hx ?_);(case hx=>first|exact rfl|assumption|exact notF (by assumption));conv=>whnf)
 | ((refine⟨?hx,trivial⟩);(case hx=>(cases hF;exact rfl)))
 | with_reducible refine zeI ?_)
def zcJ (out5:ByteArray):Option (ByteArray) :=
 some (out5)
def zhw:Lp (ByteArray) Unit (ByteArray):=lp0 ⟨[5],[],[],[]⟩ (λ out5=>[.dat (strN out5)]) (λ _=>[]) (λ out5=>zcJ out5)
instance Ef15_c13 {out5}:IsLp 0 1 (zcJ out5) (zhw) out5:=⟨rfl⟩
instance Cf15_c13:IsCut 1 (zcJ) (zhw) 13:=⟨⟩
def zgq (a0:List Int)(a1:Int)(p6:Int)(r3:ByteArray->Int->Option (ByteArray))(out5':ByteArray):Option (ByteArray) :=
 r3 (out5') (W (p6+(1:Int)))
def zjO (a0:List Int)(a1:Int)(p6:Int)(r3:ByteArray->Int->Option (ByteArray)):Lp (ByteArray) Unit (ByteArray):=lp0 ⟨[0,1,5,6],[],[],[]⟩ (λ out5' => [.dat (zbp a0), .dat (iN a1), .dat (strN (out5')), .dat (iN p6)]) (λ _=>[]) (λ out5' => zgq a0 a1 p6 r3 out5')
instance Ef15_c4 {a0 a1 p6 r3 out5'}:IsLp 0 1 (zgq a0 a1 p6 r3 out5') (zjO a0 a1 p6 r3) out5':=⟨rfl⟩
instance Cf15_c4 {a0 a1 p6 r3}:IsCut 1 (zgq a0 a1 p6 r3) (zjO a0 a1 p6 r3) 4:=⟨⟩
def zeu (a0:List Int)(a1:Int)(out5:ByteArray)(p6:Int)(k1:ByteArray->Option (ByteArray))(figure7:ByteArray):Option (ByteArray) :=
 (addS out5 figure7).bind λ x1 =>
 k1 x1
def zhx (a0:List Int)(a1:Int)(out5:ByteArray)(p6:Int)(k1:ByteArray->Option (ByteArray)):Lp (ByteArray) Unit (ByteArray):=lp0 ⟨[0,1,5,6,7],[],[],[]⟩ (λ figure7=>[.dat (zbp a0), .dat (iN a1), .dat (strN out5), .dat (iN p6), .dat (strN figure7)]) (λ _=>[]) (λ figure7=>zeu a0 a1 out5 p6 k1 figure7)
instance Ef15_c12 {a0 a1 out5 p6 k1 figure7}:IsLp 0 1 (zeu a0 a1 out5 p6 k1 figure7) (zhx a0 a1 out5 p6 k1) figure7:=⟨rfl⟩
instance Cf15_c12 {a0 a1 out5 p6 k1}:IsCut 1 (zeu a0 a1 out5 p6 k1) (zhx a0 a1 out5 p6 k1) 12:=⟨⟩
def zgr (r7:ByteArray->Int->Option (ByteArray))(a0:List Int)(a1:Int)(out5:ByteArray)(p6:Int)(k2:ByteArray->Option (ByteArray))(figure7:ByteArray)(v17:Int):Option (ByteArray) :=
 bif decide (v17<(List.length a0:Int)) then ((ix a0 v17).bind λ x2 =>
 bif decide (x2=p6) then (r7 (strC [98]) (W (v17+(1:Int))))
 else (r7 figure7 (W (v17+(1:Int)))))
 else (k2 figure7)
def zjP (a0:List Int)(a1:Int)(out5:ByteArray)(p6:Int)(k2:ByteArray->Option (ByteArray)):Nat->ByteArray->Int->Option (ByteArray)
 | 0,_,_=>none
 | n+1,figure7,v17=>zgr (zjP a0 a1 out5 p6 k2 n) a0 a1 out5 p6 k2 figure7 v17
def zo1 (a0:List Int)(a1:Int)(out5:ByteArray)(p6:Int)(k2:ByteArray->Option (ByteArray)):Lp (Nat×ByteArray×Int) Unit (ByteArray):=lp0 ⟨[0,1,5,6,7,15,16,17],[],[],[]⟩ (λ (_,figure7,v17)=>[.dat (zbp a0), .dat (iN a1), .dat (strN out5), .dat (iN p6), .dat (strN figure7), .dat (zbp a0), .dat (iN (List.length a0:Int)), .dat (iN v17)]) (λ (_,_,_)=>[]) (λ (n,figure7,v17)=>zjP a0 a1 out5 p6 k2 n figure7 v17)
instance Ef15_7 {a0 a1 out5 p6 k2 n figure7 v17}:IsLp 0 2 (zjP a0 a1 out5 p6 k2 n figure7 v17) (zo1 a0 a1 out5 p6 k2) (n,figure7,v17):=⟨rfl⟩
def zgs (r3:ByteArray->Int->Option (ByteArray))(a0:List Int)(a1:Int)(N:Nat)(k0:ByteArray->Option (ByteArray))(out5:ByteArray)(p6:Int):Option (ByteArray) :=
 bif decide (p6<a1) then (zbI (zgq a0 a1 p6 r3) λ k1 =>
 zbI (zeu a0 a1 out5 p6 k1) λ k2 =>
 zjP a0 a1 out5 p6 k2 N (strC [97]) (0:Int))
 else (k0 out5)
def zlI (a0:List Int)(a1:Int)(N:Nat)(k0:ByteArray->Option (ByteArray)):Nat->ByteArray->Int->Option (ByteArray)
 | 0,_,_=>none
 | n+1,out5,p6=>zgs (zlI a0 a1 N k0 n) a0 a1 N k0 out5 p6
def zo2 (a0:List Int)(a1:Int)(N:Nat)(k0:ByteArray->Option (ByteArray)):Lp (Nat×ByteArray×Int) Unit (ByteArray):=lp0 ⟨[0,1,5,6],[],[],[]⟩ (λ (_,out5,p6)=>[.dat (zbp a0), .dat (iN a1), .dat (strN out5), .dat (iN p6)]) (λ (_,_,_)=>[]) (λ (n,out5,p6)=>zlI a0 a1 N k0 n out5 p6)
instance Ef15_3 {a0 a1 N k0 n out5 p6}:IsLp 0 2 (zlI a0 a1 N k0 n out5 p6) (zo2 a0 a1 N k0) (n,out5,p6):=⟨rfl⟩
def f15 (N:Nat)(a0:List Int)(a1:Int):Option (ByteArray) :=
 zbI zcJ λ k0 =>
 zlI a0 a1 N k0 N zft (0:Int)
def G15 (ds:List D)(d:D):Prop:=∃ (N:Nat) (a0:List Int) (a1:Int) (r:ByteArray),ds=[zbp a0,iN a1]/\f15 N a0 a1=some r/\d=strN r
theorem G15.lend {a0 a1}{A:_->Option ρ}{K:D->Prop}(hd:ds=[zbp a0,iN a1])(h:∀ r,A r=some q->K (strN r))(hF:(f15 N a0 a1).bind A=some q):∃ d,(G15 ds d/\d.flatB=true)/\K d:=by
 obtain⟨r,hr,hA⟩:=bind_some hF;exact⟨_,⟨⟨N,a0,a1,r,hd,hr,rfl⟩,rfl⟩,h r hA⟩
set_option maxRecDepth 20000 in
set_option maxHeartbeats 4000000 in
theorem P15:PureOK Tryz.prog 15 G15:=by
 refine za1 (c:=zbo za9 []) rfl tyOK (zaZ) [[0]] 2 Tryz.func15 rfl rfl (by decide) (by kernel_rfl) ?_;rintro ds d ⟨N,a0,a1,r,rfl,hF,rfl⟩ hok;clear hok;refine⟨rfl, ?_⟩;show vc _ _ _ _ ⟨[(0, .dat (zbp a0)),(1, .dat (iN a1))],[]⟩ _;unfold f15 at hF
 repeat' (first
 | ((with_reducible first|refine q0 _ _ ?_|refine q1 _ _ _ _ ?_|refine q2 _ _ _ ?_);clear Q q0 q1 q2)
 | ((with_reducible first|refine zdm ?hx (λ Q q0 q1 q2=>?_));(case hx=>exact rfl);conv=>whnf)
 | ((with_reducible refine zcG ?_);(first|((refine zd8 rfl ?hy ?_);(case hy=>first|assumption|exact notT (by assumption)|exact rfl))|((refine zd9 rfl ?hy ?_);(case hy=>first|assumption|exact notF (by assumption)|exact rfl))|(revert hF;(with_reducible refine zhi ?hx ?_ ?_);(case hx=>exact rfl);all_goals (intro hc hF))))
 | ((with_reducible refine zcb ?_);(first|((with_reducible refine hR _ ?_);clear R hR)|((with_reducible refine hL _ ?_);clear L hL)))
 | ((with_reducible first|refine zb7 ?_|refine zcD ?_|refine idx2 (by assumption) ?_|refine idx3 (by assumption) ?_);conv=>whnf)
 | (with_reducible first|refine zbR ?_|refine zca ?_|refine zdl ?_|refine zcv ?_|refine zbd (λ R hR=>?_)|refine zbc ?_|refine za5 ?_|refine zgG ?_|refine zbs ?_|refine za6 ?_|refine zbl ?_|refine za3 ?_)
 | ((with_reducible refine zcf [13,4,12] ?hx ?_);(case hx=>exact rfl))
 | ((with_reducible replace hF:=isE hF);(dsimp only[zhw,zjO,zhx,zo1,zo2,zjP,zlI] at hF);first|rewrite[zcJ] at hF|rewrite[zgq] at hF|rewrite[zeu] at hF|rewrite[zgr] at hF|rewrite[zgs] at hF)
 | ((with_reducible refine zcE ?_);(with_reducible replace hF:=zhj 1 hF);((refine Lp.cutI hF rfl rfl ?_ ?_) <;> clear hF);(intro hF);rotate_left;(rintro _ hF);rotate_right)
 | ((with_reducible refine zcF ?_);(with_reducible replace hF:=toLp 0 1 hF);exact Lp.headI hF () ⟨_,rfl,rfl,rfl,rfl⟩ rfl)
 | ((with_reducible refine zcX ?_);(with_reducible replace hF:=toLp 0 2 hF);((refine Lp.loopI hF () rfl ⟨_,rfl,rfl,rfl,rfl⟩ rfl (λ _=>rfl) ?_);clear hF);(rintro n ⟨_,_⟩ hF))
 | ((with_reducible refine zcY ?_);(with_reducible replace hF:=toLp 0 2 hF);exact Lp.backI hF () ⟨_,rfl,rfl,rfl,rfl⟩ rfl)
 | ((with_reducible have hI:=zjD hF);clear hI;revert hF;(refine zfu ?_);intro x hF;conv=>whnf)
 | (revert hF;(with_reducible refine idx1 ?hn ?_);(case hn=>first|exact rfl|exact(List.length_map _)|assumption|omega|simp);intro x hx hF;conv=>whnf)
 | ((refine⟨?hx,trivial⟩);(case hx=>(cases hF;exact rfl)))
 | with_reducible refine zeI ?_)
def zdE:Option (Int) :=
 some ((0:Int))
def zhy:Lp (Unit) Unit (Int):=lp0 ⟨[],[],[],[]⟩ (λ _=>[]) (λ _=>[]) (λ _=>zdE)
instance Ef60_c10:IsLp 0 0 (zdE) (zhy) ():=⟨rfl⟩
instance Cf60_c10:IsCut 0 (zdE) (zhy) 10:=⟨⟩
def znn (r6:Nat->Option (Int))(a0:ByteArray)(k0:Option (Int))(p501:Nat):Option (Int) :=
 bif decide (p501<ByteArray.size a0) then ((some (zdM a0 p501)).bind λ x1 =>
 bif decide (x1.1<(97:Int)) then (some ((9:Int)))
 else (bif decide ((122:Int)<x1.1) then (some ((9:Int)))
 else (r6 x1.2)))
 else k0
def zjQ (a0:ByteArray)(k0:Option (Int)):Nat->Nat->Option (Int)
 | 0,_=>none
 | n+1,p501=>znn (zjQ a0 k0 n) a0 k0 p501
def zo3 (a0:ByteArray)(k0:Option (Int)):Lp (Nat×Nat) Unit (Int):=lp0 ⟨[13],[501],[],[]⟩ (λ (_,_)=>[.ptr 501 0]) (λ (_,p501)=>[.sit a0 p501]) (λ (n,p501)=>zjQ a0 k0 n p501)
instance Ef60_6 {a0 k0 n p501}:IsLp 0 1 (zjQ a0 k0 n p501) (zo3 a0 k0) (n,p501):=⟨rfl⟩
def f60 (N:Nat)(a0:ByteArray):Option (Int) :=
 bif decide (a0=zft) then (some ((1:Int)))
 else (bif decide ((24:Int)<(ByteArray.size a0:Int)) then (some ((19:Int)))
 else (zbI zdE λ k0 =>
 zjQ a0 k0 N 0))
def G60 (ds:List D)(d:D):Prop:=∃ (N:Nat) (a0:ByteArray) (r:Int),ds=[strN a0]/\f60 N a0=some r/\d=iN r
theorem G60.lend {a0}{A:_->Option ρ}{K:D->Prop}(hd:ds=[strN a0])(h:∀ r,A r=some q->K (iN r))(hF:(f60 N a0).bind A=some q):∃ d,(G60 ds d/\d.flatB=true)/\K d:=by
 obtain⟨r,hr,hA⟩:=bind_some hF;exact⟨_,⟨⟨N,a0,r,hd,hr,rfl⟩,rfl⟩,h r hA⟩
set_option maxRecDepth 20000 in
set_option maxHeartbeats 4000000 in
theorem P60:PureOK Tryz.prog 60 G60:=by
 refine za1 (c:=zbo za9 []) rfl tyOK (zaZ) [[0]] 1 Tryz.func60 rfl rfl (by decide) (by kernel_rfl) ?_;rintro ds d ⟨N,a0,r,rfl,hF,rfl⟩ hok;clear hok;refine⟨rfl, ?_⟩;show vc _ _ _ _ ⟨[(0, .dat (strN a0))],[]⟩ _;unfold f60 at hF
 repeat' (first
 | ((with_reducible first|refine q0 _ _ ?_|refine q1 _ _ _ _ ?_|refine q2 _ _ _ ?_);clear Q q0 q1 q2)
 | ((with_reducible first|refine zdm ?hx (λ Q q0 q1 q2=>?_));(case hx=>exact rfl);conv=>whnf)
 | ((with_reducible first|refine zi1 ?hx ?_|refine zgJ ?hx ?_|refine ze1 ?hx ?_|refine zgH ?hx ?_);(case hx=>exact rfl))
 | ((with_reducible refine zgm ?_);(first|((first|refine zeo rfl ?hy (λ Q q0 q1 q2=>?_)|refine zde rfl ?hy (λ Q q0 q1 q2=>?_));(case hy=>first|assumption|exact notT (by assumption)|exact rfl);conv=>whnf)|((first|refine zdd rfl ?hy ?_|refine zcq rfl ?hy ?_);(case hy=>first|assumption|exact notF (by assumption)|exact rfl))|(revert hF;(with_reducible first|refine zep ?hx ?_ ?_|refine zdf ?hx ?_ ?_);(case hx=>exact rfl);(intro hc hF Q q0 q1 q2;conv=>whnf);rotate_left;(intro hc hF);rotate_right)|(revert hF;(with_reducible first|refine zeq ?hx ?_ ?_|refine zdg ?hx ?_ ?_);(case hx=>exact rfl);(intro hc hF);rotate_left;(intro hc hF Q q0 q1 q2;conv=>whnf);rotate_right)))
 | ((with_reducible refine zcG ?_);(first|((refine zd8 rfl ?hy ?_);(case hy=>first|assumption|exact notT (by assumption)|exact rfl))|((refine zd9 rfl ?hy ?_);(case hy=>first|assumption|exact notF (by assumption)|exact rfl))|(revert hF;(with_reducible refine zhi ?hx ?_ ?_);(case hx=>exact rfl);all_goals (intro hc hF))))
 | ((with_reducible refine zcb ?_);(first|((with_reducible refine hR _ ?_);clear R hR)|((with_reducible refine hL _ ?_);clear L hL)))
 | (with_reducible first|refine zbR ?_|refine zca ?_|refine zdl ?_|refine zcv ?_|refine zbd (λ R hR=>?_)|refine zbc ?_|refine za5 ?_|refine zgG ?_|refine zbs ?_|refine za6 ?_|refine zbl ?_|refine za3 ?_)
 | ((with_reducible refine zcf [10] ?hx ?_);(case hx=>exact rfl))
 | ((with_reducible replace hF:=isE hF);(dsimp only[zhy,zo3,zjQ] at hF);first|((with_reducible replace hF:=chkE (e:=zdE) hF);rewrite[zdE] at hF)|rewrite[znn] at hF)
 | ((with_reducible refine zcE ?_);(with_reducible replace hF:=zhj 0 hF);((refine Lp.cutI hF rfl rfl ?_ ?_) <;> clear hF);(intro hF);rotate_left;(rintro _ hF);rotate_right)
 | ((with_reducible refine zcF ?_);(with_reducible replace hF:=toLp 0 0 hF);exact Lp.headI hF () ⟨_,rfl,rfl,rfl,rfl⟩ rfl)
 | ((with_reducible refine zcX ?_);(with_reducible replace hF:=toLp 0 1 hF);((refine Lp.loopI hF () rfl ⟨_,rfl,rfl,rfl,rfl⟩ rfl (λ _=>rfl) ?_);clear hF);(rintro n _ hF))
 | ((with_reducible refine zcY ?_);(with_reducible replace hF:=toLp 0 1 hF);exact Lp.backI hF () ⟨_,rfl,rfl,rfl,rfl⟩ rfl)
 | (revert hF;(refine ziA ?_);intro x hF;conv=>whnf)
 | ((with_reducible refine zen ?_);conv=>whnf)
 | ((with_reducible refine zgk ?hx ?_);(case hx=>first|exact rfl|assumption|exact notT (by assumption));conv=>whnf)
 | ((with_reducible refine zgl ?hx ?_);(case hx=>first|exact rfl|assumption|exact notF (by assumption));conv=>whnf)
 | (revert hF;(with_reducible refine zaK ?_ ?_) <;> (intro hc hF;conv=>whnf))
 | ((refine⟨?hx,trivial⟩);(case hx=>(cases hF;exact rfl)))
 | with_reducible refine zeI ?_)
def f61 (N:Nat)(a0:ByteArray)(a1:ByteArray):Option (Bool) :=
 if a0.size<=1000 then some (Lib.contains a0.data.toList a1.data.toList) else none
def G61 (ds:List D)(d:D):Prop:=∃ (N:Nat) (a0:ByteArray) (a1:ByteArray) (r:Bool),ds=[strN a0,strN a1]/\f61 N a0 a1=some r/\d=bN r
theorem G61.lend {a0 a1}{A:_->Option ρ}{K:D->Prop}(hd:ds=[strN a0,strN a1])(h:∀ r,A r=some q->K (bN r))(hF:(f61 N a0 a1).bind A=some q):∃ d,(G61 ds d/\d.flatB=true)/\K d:=by
 obtain⟨r,hr,hA⟩:=bind_some hF;exact⟨_,⟨⟨N,a0,a1,r,hd,hr,rfl⟩,rfl⟩,h r hA⟩
theorem P61:PureOK Tryz.prog 61 G61:=zm0 (λ a b=>.bool (Lib.contains a.data.toList b.data.toList)) (λ a b=>a.size<=1000) (by
 rintro ds d ⟨N,a0,a1,r,rfl,hF,rfl⟩;simp only[f61] at hF
 split at hF
 .rename_i h
  cases hF
  exact⟨a0,a1,rfl,rfl,h⟩
 .cases hF) λ a b w hg _ _ h=>by
 obtain⟨m,hm⟩:=zpN hg Go.Proofs.Tryz.laysM144.s1_3;exact⟨trivial,Go.Proofs.Tryz.strings_Contains a b m w (by omega) hm⟩

end Go.Vc
namespace Go.Vc
open Go.Proofs
variable {N id:Nat} {ρ:Type} {q:ρ} {xs:List SV} {m:Nat->Blk} {l:List Loc} {ds:List D} {K:Dl->List Loc->Prop} {k0 k1 k2 k3 k4 k5 k6 k7 k8 k9 k10 k11 k12 k13 k14 k15 m0 m1 m2 m3 m4 m5:Nat}
def zc3:Option (Int) :=
 some ((0:Int))
def zhz:Lp (Unit) Unit (Int):=lp0 ⟨[],[],[],[]⟩ (λ _=>[]) (λ _=>[]) (λ _=>zc3)
instance Ef47_c11:IsLp 0 0 (zc3) (zhz) ():=⟨rfl⟩
instance Cf47_c11:IsCut 0 (zc3) (zhz) 11:=⟨⟩
def zkH (r3:Int->Int->Option (Int))(a0:List Int)(a1:Int)(a2:Int)(N:Nat)(k0:Option (Int))(last7:Int)(v14:Int):Option (Int) :=
 bif decide (v14<(List.length a0:Int)) then ((ix a0 v14).bind λ x1 =>
 (f56 N a1 x1 a2).bind λ x2 =>
 bif !x2 then (some ((4:Int)))
 else (bif decide (x1<=last7) then (some ((7:Int)))
 else (r3 x1 (W (v14+(1:Int))))))
 else k0
def zlJ (a0:List Int)(a1:Int)(a2:Int)(N:Nat)(k0:Option (Int)):Nat->Int->Int->Option (Int)
 | 0,_,_=>none
 | n+1,last7,v14=>zkH (zlJ a0 a1 a2 N k0 n) a0 a1 a2 N k0 last7 v14
def zo4 (a0:List Int)(a1:Int)(a2:Int)(N:Nat)(k0:Option (Int)):Lp (Nat×Int×Int) Unit (Int):=lp0 ⟨[1,2,7,12,13,14],[],[],[]⟩ (λ (_,last7,v14)=>[.dat (iN a1), .dat (iN a2), .dat (iN last7), .dat (zbp a0), .dat (iN (List.length a0:Int)), .dat (iN v14)]) (λ (_,_,_)=>[]) (λ (n,last7,v14)=>zlJ a0 a1 a2 N k0 n last7 v14)
instance Ef47_3 {a0 a1 a2 N k0 n last7 v14}:IsLp 0 2 (zlJ a0 a1 a2 N k0 n last7 v14) (zo4 a0 a1 a2 N k0) (n,last7,v14):=⟨rfl⟩
def f47 (N:Nat)(a0:List Int)(a1:Int)(a2:Int):Option (Int) :=
 zbI zc3 λ k0 =>
 zlJ a0 a1 a2 N k0 N (W (a1-(1:Int))) (0:Int)
def G47 (ds:List D)(d:D):Prop:=∃ (N:Nat) (a0:List Int) (a1:Int) (a2:Int) (r:Int),ds=[zbp a0,iN a1,iN a2]/\f47 N a0 a1 a2=some r/\d=iN r
theorem G47.lend {a0 a1 a2}{A:_->Option ρ}{K:D->Prop}(hd:ds=[zbp a0,iN a1,iN a2])(h:∀ r,A r=some q->K (iN r))(hF:(f47 N a0 a1 a2).bind A=some q):∃ d,(G47 ds d/\d.flatB=true)/\K d:=by
 obtain⟨r,hr,hA⟩:=bind_some hF;exact⟨_,⟨⟨N,a0,a1,a2,r,hd,hr,rfl⟩,rfl⟩,h r hA⟩
set_option maxRecDepth 20000 in
set_option maxHeartbeats 4000000 in
theorem P47:PureOK Tryz.prog 47 G47:=by
 refine za1 (c:=zbo za9 [(56,true,lendPg [[0],[0],[0]] G56)]) rfl tyOK (za8 (zaG Tryz.func56 rfl rfl) P56 (zaZ)) [[0]] 3 Tryz.func47 rfl rfl (by decide) (by kernel_rfl) ?_;rintro ds d ⟨N,a0,a1,a2,r,rfl,hF,rfl⟩ hok;clear hok;refine⟨rfl, ?_⟩;show vc _ _ _ _ ⟨[(0, .dat (zbp a0)),(1, .dat (iN a1)),(2, .dat (iN a2))],[]⟩ _;unfold f47 at hF
 repeat' (first
 | ((with_reducible first|refine q0 _ _ ?_|refine q1 _ _ _ _ ?_|refine q2 _ _ _ ?_);clear Q q0 q1 q2)
 | ((with_reducible first|refine zdm ?hx (λ Q q0 q1 q2=>?_));(case hx=>exact rfl);conv=>whnf)
 | ((with_reducible refine zcG ?_);(first|((refine zd8 rfl ?hy ?_);(case hy=>first|assumption|exact notT (by assumption)|exact rfl))|((refine zd9 rfl ?hy ?_);(case hy=>first|assumption|exact notF (by assumption)|exact rfl))|(revert hF;(with_reducible refine zhi ?hx ?_ ?_);(case hx=>exact rfl);all_goals (intro hc hF))))
 | ((with_reducible refine zcb ?_);(first|((with_reducible refine hR _ ?_);clear R hR)|((with_reducible refine hL _ ?_);clear L hL)))
 | ((with_reducible first|refine zb7 ?_|refine zcD ?_|refine idx2 (by assumption) ?_|refine idx3 (by assumption) ?_);conv=>whnf)
 | (with_reducible first|refine zbR ?_|refine zca ?_|refine zdl ?_|refine zcv ?_|refine zbd (λ R hR=>?_)|refine zbc ?_|refine za5 ?_|refine zgG ?_|refine zbs ?_|refine za6 ?_|refine zbl ?_|refine za3 ?_)
 | ((with_reducible refine zcf [11] ?hx ?_);(case hx=>exact rfl))
 | ((with_reducible replace hF:=isE hF);(dsimp only[zhz,zo4,zlJ] at hF);first|((with_reducible replace hF:=chkE (e:=zc3) hF);rewrite[zc3] at hF)|rewrite[zkH] at hF)
 | ((with_reducible refine zcE ?_);(with_reducible replace hF:=zhj 0 hF);((refine Lp.cutI hF rfl rfl ?_ ?_) <;> clear hF);(intro hF);rotate_left;(rintro _ hF);rotate_right)
 | ((with_reducible refine zcF ?_);(with_reducible replace hF:=toLp 0 0 hF);exact Lp.headI hF () ⟨_,rfl,rfl,rfl,rfl⟩ rfl)
 | ((with_reducible refine zcX ?_);(with_reducible replace hF:=toLp 0 2 hF);((refine Lp.loopI hF () rfl ⟨_,rfl,rfl,rfl,rfl⟩ rfl (λ _=>rfl) ?_);clear hF);(rintro n ⟨_,_⟩ hF))
 | ((with_reducible refine zcY ?_);(with_reducible replace hF:=toLp 0 2 hF);exact Lp.backI hF () ⟨_,rfl,rfl,rfl,rfl⟩ rfl)
 | (revert hF;(with_reducible refine G56.lend ?hx ?_);(case hx=>exact rfl);intro v hF;conv=>whnf)
 | (revert hF;(with_reducible refine idx1 ?hn ?_);(case hn=>first|exact rfl|exact(List.length_map _)|assumption|omega|simp);intro x hx hF;conv=>whnf)
 | ((refine⟨?hx,trivial⟩);(case hx=>(cases hF;exact rfl)))
 | with_reducible refine zeI ?_)
def zfI (a0:ByteArray)(a1:ByteArray)(N:Nat):Option (Bool×Int) :=
 bif decide ((ByteArray.size a0:Int)=(ByteArray.size a1:Int)) then ((addS a0 a0).bind λ x1 =>
 (f61 N x1 a1).bind λ x2 =>
 some (x2,(0:Int)))
 else (some (false,(0:Int)))
def zjR (a0:ByteArray)(a1:ByteArray)(N:Nat):Lp (Unit) Unit (Bool×Int):=lp0 ⟨[0,1],[],[],[]⟩ (λ _=>[.dat (strN a0), .dat (strN a1)]) (λ _=>[]) (λ _=>zfI a0 a1 N)
instance Ef16_c8 {a0 a1 N}:IsLp 0 0 (zfI a0 a1 N) (zjR a0 a1 N) ():=⟨rfl⟩
instance Cf16_c8 {a0 a1 N}:IsCut 0 (zfI a0 a1 N) (zjR a0 a1 N) 8:=⟨⟩
def ziP (r2:Int->Option (Bool×Int))(a0:ByteArray)(a1:ByteArray)(N:Nat)(k0:Option (Bool×Int))(v13:Int):Option (Bool×Int) :=
 bif decide (v13<(List.length [a0,a1]:Int)) then ((ix [a0,a1] v13).bind λ x3 =>
 (f60 N x3).bind λ x4 =>
 bif decide (¬ x4=(0:Int)) then (some (false,x4))
 else (r2 (W (v13+(1:Int)))))
 else k0
def ziQ (a0:ByteArray)(a1:ByteArray)(N:Nat)(k0:Option (Bool×Int)):Nat->Int->Option (Bool×Int)
 | 0,_=>none
 | n+1,v13=>ziP (ziQ a0 a1 N k0 n) a0 a1 N k0 v13
def zo5 (a0:ByteArray)(a1:ByteArray)(N:Nat)(k0:Option (Bool×Int)):Lp (Nat×Int) (Nat×Unit) (Bool×Int):=lpm ⟨[0,1,11,12,13],[102],[],[]⟩ (λ (n,v13)=>ziQ a0 a1 N k0 n v13) (λ (_,v13) (m0,_)=>[.dat (strN a0), .dat (strN a1), .rs 102 m0, .dat (iN (List.length [a0,a1]:Int)), .dat (iN v13)]) (λ (_,_) (_,_)=>[.row 9 1 (List.map strN [a0,a1])]) λ (_,_)=>(List.length [a0,a1],())
instance Ef16_2 {a0 a1 N k0 n v13}:IsLp 1 1 (ziQ a0 a1 N k0 n v13) (zo5 a0 a1 N k0) (n,v13):=⟨rfl⟩
def f16 (N:Nat)(a0:ByteArray)(a1:ByteArray):Option (Bool×Int) :=
 zbI (zfI a0 a1 N) λ k0 =>
 ziQ a0 a1 N k0 N (0:Int)
def G16 (ds:List D)(d:D):Prop:=∃ (N:Nat) (a0:ByteArray) (a1:ByteArray) (r:Bool×Int),ds=[strN a0,strN a1]/\f16 N a0 a1=some r/\d = .tup [bN r.1,iN r.2]
theorem G16.lend {a0 a1}{A:_->Option ρ}{K:D->Prop}(hd:ds=[strN a0,strN a1])(h:∀ r,A r=some q->K (.tup [bN r.1,iN r.2]))(hF:(f16 N a0 a1).bind A=some q):∃ d,(G16 ds d/\d.flatB=true)/\K d:=by
 obtain⟨r,hr,hA⟩:=bind_some hF;exact⟨_,⟨⟨N,a0,a1,r,hd,hr,rfl⟩,rfl⟩,h r hA⟩
set_option maxRecDepth 20000 in
set_option maxHeartbeats 4000000 in
theorem P16:PureOK Tryz.prog 16 G16:=by
 refine za1 (c:=zbo za9 [(61,true,lendPg [[0],[0]] G61),(60,true,lendPg [[0]] G60)]) rfl tyOK (za8 (zaG Tryz.func61 rfl rfl) P61 (za8 (zaG Tryz.func60 rfl rfl) P60 (zaZ))) [[0],[0]] 2 Tryz.func16 rfl rfl (by decide) (by kernel_rfl) ?_;rintro ds d ⟨N,a0,a1,r,rfl,hF,rfl⟩ hok;clear hok;refine⟨rfl, ?_⟩;show vc _ _ _ _ ⟨[(0, .dat (strN a0)),(1, .dat (strN a1))],[]⟩ _;unfold f16 at hF
 repeat' (first
 | ((with_reducible first|refine q0 _ _ ?_|refine q1 _ _ _ _ ?_|refine q2 _ _ _ ?_);clear Q q0 q1 q2)
 | ((with_reducible first|refine zdm ?hx (λ Q q0 q1 q2=>?_));(case hx=>exact rfl);conv=>whnf)
 | ((with_reducible refine zgm ?_);(first|((first|refine zeo rfl ?hy (λ Q q0 q1 q2=>?_)|refine zde rfl ?hy (λ Q q0 q1 q2=>?_));(case hy=>first|assumption|exact notT (by assumption)|exact rfl);conv=>whnf)|((first|refine zdd rfl ?hy ?_|refine zcq rfl ?hy ?_);(case hy=>first|assumption|exact notF (by assumption)|exact rfl))|(revert hF;(with_reducible first|refine zep ?hx ?_ ?_|refine zdf ?hx ?_ ?_);(case hx=>exact rfl);(intro hc hF Q q0 q1 q2;conv=>whnf);rotate_left;(intro hc hF);rotate_right)|(revert hF;(with_reducible first|refine zeq ?hx ?_ ?_|refine zdg ?hx ?_ ?_);(case hx=>exact rfl);(intro hc hF);rotate_left;(intro hc hF Q q0 q1 q2;conv=>whnf);rotate_right)))
 | ((with_reducible refine zcG ?_);(first|((refine zd8 rfl ?hy ?_);(case hy=>first|assumption|exact notT (by assumption)|exact rfl))|((refine zd9 rfl ?hy ?_);(case hy=>first|assumption|exact notF (by assumption)|exact rfl))|(revert hF;(with_reducible refine zhi ?hx ?_ ?_);(case hx=>exact rfl);all_goals (intro hc hF))))
 | ((with_reducible refine zcb ?_);(first|((with_reducible refine hR _ ?_);clear R hR)|((with_reducible refine hL _ ?_);clear L hL)))
 | ((with_reducible first|refine zb7 ?_|refine zcD ?_|refine idx2 (by assumption) ?_|refine idx3 (by assumption) ?_);conv=>whnf)
 | (with_reducible first|refine zbR ?_|refine zca ?_|refine zdl ?_|refine zcv ?_|refine zbd (λ R hR=>?_)|refine zbc ?_|refine za5 ?_|refine zgG ?_|refine zbs ?_|refine za6 ?_|refine zbl ?_|refine za3 ?_)
 | ((with_reducible refine zcf [8] ?hx ?_);(case hx=>exact rfl))
 | ((with_reducible replace hF:=isE hF);(dsimp only[zjR,zo5,ziQ] at hF);first|((with_reducible replace hF:=chkE (e:=zfI ..) hF);rewrite[zfI] at hF)|rewrite[ziP] at hF)
 | ((with_reducible refine zcE ?_);(with_reducible replace hF:=zhj 0 hF);((refine Lp.cutI hF rfl rfl ?_ ?_) <;> clear hF);(intro hF);rotate_left;(rintro _ hF);rotate_right)
 | ((with_reducible refine zcF ?_);(with_reducible replace hF:=toLp 0 0 hF);exact Lp.headI hF () ⟨_,rfl,rfl,rfl,rfl⟩ rfl)
 | ((with_reducible refine zcX ?_);(with_reducible replace hF:=toLp 1 1 hF);((refine Lp.loopI hF (_,()) rfl ⟨_,rfl,rfl,rfl,rfl⟩ (pr2 (by first|exact rfl|assumption|omega|(simp only[List.length_set];done)) rfl) (λ _=>rfl) ?_);clear hF);(rintro n _ hF))
 | ((with_reducible refine zcY ?_);(with_reducible replace hF:=toLp 1 1 hF);exact Lp.backI hF (_,()) ⟨_,rfl,rfl,rfl,rfl⟩ (pr2 (by first|exact rfl|assumption|omega|(simp only[List.length_set];done)) rfl))
 | (revert hF;(with_reducible refine G60.lend ?hx ?_);(case hx=>exact rfl);intro v hF;conv=>whnf)
 | (revert hF;(with_reducible refine G61.lend ?hx ?_);(case hx=>exact rfl);intro v hF;conv=>whnf)
 | ((with_reducible have hI:=zjD hF);clear hI;revert hF;(refine zfu ?_);intro x hF;conv=>whnf)
 | (revert hF;(with_reducible refine idx1 ?hn ?_);(case hn=>first|exact rfl|exact(List.length_map _)|assumption|omega|simp);intro x hx hF;conv=>whnf)
 | ((with_reducible refine zmQ ?hn ?_);(case hn=>first|exact rfl|assumption|omega);conv=>whnf)
 | ((with_reducible refine zen ?_);conv=>whnf)
 | ((with_reducible refine zgk ?hx ?_);(case hx=>first|exact rfl|assumption|exact notT (by assumption));conv=>whnf)
 | ((with_reducible refine zgl ?hx ?_);(case hx=>first|exact rfl|assumption|exact notF (by assumption));conv=>whnf)
 | ((refine⟨?hx,trivial⟩);(case hx=>(cases hF;exact rfl)))
 | with_reducible refine zeI ?_)
def zdF (out5:ByteArray):Option (ByteArray×Int) :=
 some (out5,(0:Int))
def zhA:Lp (ByteArray) Unit (ByteArray×Int):=lp0 ⟨[5],[],[],[]⟩ (λ out5=>[.dat (strN out5)]) (λ _=>[]) (λ out5=>zdF out5)
instance Ef17_c10 {out5}:IsLp 0 1 (zdF out5) (zhA) out5:=⟨rfl⟩
instance Cf17_c10:IsCut 1 (zdF) (zhA) 10:=⟨⟩
def zkI (r6:ByteArray->Int->Option (ByteArray×Int))(a0:ByteArray)(k0:ByteArray->Option (ByteArray×Int))(out5:ByteArray)(v15:Int):Option (ByteArray×Int) :=
 bif decide (v15<(ByteArray.size a0:Int)) then ((subS a0 v15 (ByteArray.size a0:Int)).bind λ x2 =>
 (subS a0 0 v15).bind λ x3 =>
 (addS x2 x3).bind λ x4 =>
 (some (minS out5 x4)).bind λ x5 =>
 r6 x5 (W (v15+(1:Int))))
 else (k0 out5)
def ziR (a0:ByteArray)(k0:ByteArray->Option (ByteArray×Int)):Nat->ByteArray->Int->Option (ByteArray×Int)
 | 0,_,_=>none
 | n+1,out5,v15=>zkI (ziR a0 k0 n) a0 k0 out5 v15
def zo6 (a0:ByteArray)(k0:ByteArray->Option (ByteArray×Int)):Lp (Nat×ByteArray×Int) Unit (ByteArray×Int):=lp0 ⟨[0,5,14,15],[],[],[]⟩ (λ (_,out5,v15)=>[.dat (strN a0), .dat (strN out5), .dat (iN (ByteArray.size a0:Int)), .dat (iN v15)]) (λ (_,_,_)=>[]) (λ (n,out5,v15)=>ziR a0 k0 n out5 v15)
instance Ef17_6 {a0 k0 n out5 v15}:IsLp 0 2 (ziR a0 k0 n out5 v15) (zo6 a0 k0) (n,out5,v15):=⟨rfl⟩
def f17 (N:Nat)(a0:ByteArray):Option (ByteArray×Int) :=
 (f60 N a0).bind λ x1 =>
 bif decide (¬ x1=(0:Int)) then (some (zft,x1))
 else (zbI zdF λ k0 =>
 ziR a0 k0 N a0 (0:Int))
def G17 (ds:List D)(d:D):Prop:=∃ (N:Nat) (a0:ByteArray) (r:ByteArray×Int),ds=[strN a0]/\f17 N a0=some r/\d = .tup [strN r.1,iN r.2]
theorem G17.lend {a0}{A:_->Option ρ}{K:D->Prop}(hd:ds=[strN a0])(h:∀ r,A r=some q->K (.tup [strN r.1,iN r.2]))(hF:(f17 N a0).bind A=some q):∃ d,(G17 ds d/\d.flatB=true)/\K d:=by
 obtain⟨r,hr,hA⟩:=bind_some hF;exact⟨_,⟨⟨N,a0,r,hd,hr,rfl⟩,rfl⟩,h r hA⟩
set_option maxRecDepth 20000 in
set_option maxHeartbeats 4000000 in
theorem P17:PureOK Tryz.prog 17 G17:=by
 refine za1 (c:=zbo za9 [(60,true,lendPg [[0]] G60)]) rfl tyOK (za8 (zaG Tryz.func60 rfl rfl) P60 (zaZ)) [[0],[0]] 1 Tryz.func17 rfl rfl (by decide) (by kernel_rfl) ?_;rintro ds d ⟨N,a0,r,rfl,hF,rfl⟩ hok;clear hok;refine⟨rfl, ?_⟩;show vc _ _ _ _ ⟨[(0, .dat (strN a0))],[]⟩ _;unfold f17 at hF
 repeat' (first
 | ((with_reducible first|refine q0 _ _ ?_|refine q1 _ _ _ _ ?_|refine q2 _ _ _ ?_);clear Q q0 q1 q2)
 | ((with_reducible first|refine zdm ?hx (λ Q q0 q1 q2=>?_)|refine zi2 ?hx (λ Q q0 q1 q2=>?_));(case hx=>exact rfl);conv=>whnf)
 | ((with_reducible refine zcG ?_);(first|((refine zd8 rfl ?hy ?_);(case hy=>first|assumption|exact notT (by assumption)|exact rfl))|((refine zd9 rfl ?hy ?_);(case hy=>first|assumption|exact notF (by assumption)|exact rfl))|(revert hF;(with_reducible refine zhi ?hx ?_ ?_);(case hx=>exact rfl);all_goals (intro hc hF))))
 | ((with_reducible refine zcb ?_);(first|((with_reducible refine hR _ ?_);clear R hR)|((with_reducible refine hL _ ?_);clear L hL)))
 | ((with_reducible refine zgK ?_);(with_reducible refine hR _ _ ?hx ?_);(case hx=>kernel_rfl);clear R hR)
 | ((with_reducible first|refine zb7 ?_);conv=>whnf)
 | (with_reducible first|refine zbR ?_|refine zca ?_|refine zdl ?_|refine zcv ?_|refine zbd (λ R hR=>?_)|refine zbc ?_|refine za5 ?_|refine zgG ?_|refine zbs ?_|refine za6 ?_|refine zbl ?_|refine za3 ?_)
 | ((with_reducible refine zcf [10] ?hx ?_);(case hx=>exact rfl))
 | ((with_reducible refine zi0 ?hx (λ R L hL hR=>?_));(case hx=>exact rfl))
 | ((with_reducible replace hF:=isE hF);(dsimp only[zhA,zo6,ziR] at hF);first|rewrite[zdF] at hF|rewrite[zkI] at hF)
 | ((with_reducible refine zcE ?_);(with_reducible replace hF:=zhj 1 hF);((refine Lp.cutI hF rfl rfl ?_ ?_) <;> clear hF);(intro hF);rotate_left;(rintro _ hF);rotate_right)
 | ((with_reducible refine zcF ?_);(with_reducible replace hF:=toLp 0 1 hF);exact Lp.headI hF () ⟨_,rfl,rfl,rfl,rfl⟩ rfl)
 | ((with_reducible refine zcX ?_);(with_reducible replace hF:=toLp 0 2 hF);((refine Lp.loopI hF () rfl ⟨_,rfl,rfl,rfl,rfl⟩ rfl (λ _=>rfl) ?_);clear hF);(rintro n ⟨_,_⟩ hF))
 | ((with_reducible refine zcY ?_);(with_reducible replace hF:=toLp 0 2 hF);exact Lp.backI hF () ⟨_,rfl,rfl,rfl,rfl⟩ rfl)
 | (revert hF;(with_reducible refine G60.lend ?hx ?_);(case hx=>exact rfl);intro v hF;conv=>whnf)
 | ((with_reducible have hI:=zpP hF);clear hI;revert hF;(refine zmP ?_);intro x hF;conv=>whnf)
 | ((with_reducible have hI:=zjD hF);clear hI;revert hF;(refine zfu ?_);intro x hF;conv=>whnf)
 | (revert hF;(refine ziA ?_);intro x hF;conv=>whnf)
 | ((with_reducible refine zen ?_);conv=>whnf)
 | ((refine⟨?hx,trivial⟩);(case hx=>(cases hF;exact rfl)))
 | with_reducible refine zeI ?_)
def f18 (N:Nat)(a0:ByteArray):Option (ByteArray×Int×Int) :=
 if a0.size<=1000 then (f60 N a0).bind λ x=>if 0<=x/\x<=1000/\0<=(zbq a0 (perL a0)).2/\(zbq a0 (perL a0)).2<=1000/\(zbq a0 (perL a0)).1.size<=1000 then some (if x=0 then ((zbq a0 (perL a0)).1,(zbq a0 (perL a0)).2,0) else (zft,0,x)) else none
 else none
def G18 (ds:List D)(d:D):Prop:=∃ (N:Nat) (a0:ByteArray) (r:ByteArray×Int×Int),ds=[strN a0]/\f18 N a0=some r/\d = .tup [strN r.1,iN r.2.1,iN r.2.2]
theorem G18.lend {a0}{A:_->Option ρ}{K:D->Prop}(hd:ds=[strN a0])(h:∀ r,A r=some q->K (.tup [strN r.1,iN r.2.1,iN r.2.2]))(hF:(f18 N a0).bind A=some q):∃ d,(G18 ds d/\d.flatB=true)/\K d:=by
 obtain⟨r,hr,hA⟩:=bind_some hF;exact⟨_,⟨⟨N,a0,r,hd,hr,rfl⟩,rfl⟩,h r hA⟩
open Go.RowKit in
theorem P18:PureOK Tryz.prog 18 G18:=by
 rintro w Z vs ds d hZ hl hr hg ⟨N,a0,r,rfl,hF,rfl⟩;obtain⟨v,rfl,h1⟩:=zqP hl hr;obtain⟨rfl,l1⟩:=zmZ h1;simp only[f18] at hF
 split at hF
 .rename_i hs
  obtain⟨c,hc,hA⟩:=bind_some hF
  split at hA
  .rename_i hb
   obtain⟨hb1,hb2,hb3,hb4,hb5⟩:=hb;have hA:=Option.some.inj hA
   have hC:∀ w1,Below w.heap.size w w1->Calls Tryz.prog 60 #[.string a0] w1 λ e w' => (e = .returned (.int .i64 c)/\Below w1.heap.size w1 w'):=λ w1 hb=>by
    have h:=P60 w1 (λ _=>False) [.string a0] [strN a0] (iN c) (λ _ h=>h.elim) rfl (by
     intro i v x h1 h2
     cases i with
     | zero=>simp at h1 h2;subst h1 h2;exact .v l1
     | succ i=>simp at h1) (hg.same λ b hb' => hb.block b (hg.lt hb')) ⟨N,a0,c,rfl,hc,rfl⟩
    refine h.mono ?_;rintro e w' ⟨v,rfl,hx,hv⟩
    cases hv with|v _=>exact⟨rfl,hx.os,hx.tape,hx.output,hx.size,hx.old⟩
   have ok:∀ n:Int,0<=n->n<=1000->pl (.int .i64 n):=λ n h1 h2=>by simp only[pl,IntKind.min,IntKind.max,IntKind.signed,IntKind.bits];simp;omega
   have okS:∀ q:ByteArray,q.size<=1000->pl (.string q):=λ q h=>by show q.size<=maxLen;simp only[maxLen];omega
   refine(Go.Proofs.Tryz.root_in a0 hs c w hC).mono ?_;rintro e w' ⟨rfl,hB⟩;refine⟨_,rfl,Ext.of_below hB, ?_⟩
   have tup3:∀ (F:Nat->Prop) (x y z:Value) , pl x->pl y->pl z->Rd F w' (.tuple #[x,y,z]) (.tup [.v x, .v y, .v z]):=λ F x y z hx hy hz=>.tup (vs:=[x,y,z]) rfl λ i u d hu hd=>by
    match i,hu,hd with
    | 0,hu,hd=>cases hu;cases hd;exact .v hx
    | 1,hu,hd=>cases hu;cases hd;exact .v hy
    | 2,hu,hd=>cases hu;cases hd;exact .v hz
    | (n+3),hu,hd=>simp at hu
   by_cases h0:c=0
   .subst h0
    rw[if_pos rfl] at hA ⊢;subst hA;exact tup3 _ _ _ _ (okS _ hb5) (ok _ hb3 hb4) (ok _ (by omega) (by omega))
   .rw [if_neg h0] at hA ⊢
    subst hA;exact tup3 _ _ _ _ (okS _ (by decide)) (ok _ (by omega) (by omega)) (ok _ hb1 hb2)
  .cases hA
 .cases hF

end Go.Vc
namespace Go.Vc
open Go.Proofs
variable {N id:Nat} {ρ:Type} {q:ρ} {xs:List SV} {m:Nat->Blk} {l:List Loc} {ds:List D} {K:Dl->List Loc->Prop} {k0 k1 k2 k3 k4 k5 k6 k7 k8 k9 k10 k11 k12 k13 k14 k15 m0 m1 m2 m3 m4 m5:Nat}
def f9 (N:Nat)(a0:List Int):Option (Int) :=
 bif decide ((List.length a0:Int)<(2:Int)) then (some ((1:Int)))
 else (bif decide ((8:Int)<(List.length a0:Int)) then (some ((2:Int)))
 else ((f47 N a0 (0:Int) (60:Int)).bind λ x1 =>
 some (x1)))
def G9 (ds:List D)(d:D):Prop:=∃ (N:Nat) (a0:List Int) (r:Int),ds=[zbp a0]/\f9 N a0=some r/\d=iN r
theorem G9.lend {a0}{A:_->Option ρ}{K:D->Prop}(hd:ds=[zbp a0])(h:∀ r,A r=some q->K (iN r))(hF:(f9 N a0).bind A=some q):∃ d,(G9 ds d/\d.flatB=true)/\K d:=by
 obtain⟨r,hr,hA⟩:=bind_some hF;exact⟨_,⟨⟨N,a0,r,hd,hr,rfl⟩,rfl⟩,h r hA⟩
set_option maxRecDepth 20000 in
set_option maxHeartbeats 4000000 in
theorem P9:PureOK Tryz.prog 9 G9:=by
 refine za1 (c:=zbo za9 [(47,true,lendPg [[1],[0],[0]] G47)]) rfl tyOK (za8 (zaG Tryz.func47 rfl rfl) P47 (zaZ)) [[0]] 1 Tryz.func9 rfl rfl (by decide) (by kernel_rfl) ?_;rintro ds d ⟨N,a0,r,rfl,hF,rfl⟩ hok;clear hok;refine⟨rfl, ?_⟩;show vc _ _ _ _ ⟨[(0, .dat (zbp a0))],[]⟩ _;unfold f9 at hF
 repeat' (first
 | ((with_reducible first|refine q0 _ _ ?_|refine q1 _ _ _ _ ?_|refine q2 _ _ _ ?_);clear Q q0 q1 q2)
 | ((with_reducible first|refine zdm ?hx (λ Q q0 q1 q2=>?_));(case hx=>exact rfl);conv=>whnf)
 | ((with_reducible refine zcG ?_);(first|((refine zd8 rfl ?hy ?_);(case hy=>first|assumption|exact notT (by assumption)|exact rfl))|((refine zd9 rfl ?hy ?_);(case hy=>first|assumption|exact notF (by assumption)|exact rfl))|(revert hF;(with_reducible refine zhi ?hx ?_ ?_);(case hx=>exact rfl);all_goals (intro hc hF))))
 | ((with_reducible refine zcb ?_);(first|((with_reducible refine hR _ ?_);clear R hR)|((with_reducible refine hL _ ?_);clear L hL)))
 | ((with_reducible first|refine zb7 ?_|refine zcD ?_);conv=>whnf)
 | (with_reducible first|refine zbR ?_|refine zca ?_|refine zdl ?_|refine zcv ?_|refine zbd (λ R hR=>?_)|refine zbc ?_|refine za5 ?_|refine zgG ?_|refine zbs ?_|refine za6 ?_)
 | ((with_reducible refine zcf [] ?hx ?_);(case hx=>exact rfl))
 | (revert hF;(with_reducible refine G47.lend ?hx ?_);(case hx=>exact rfl);intro v hF;conv=>whnf)
 | ((refine⟨?hx,trivial⟩);(case hx=>(cases hF;exact rfl)))
 | with_reducible refine zeI ?_)

end Go.Vc
namespace Go.Vc
open Go.Proofs
variable {N id:Nat} {ρ:Type} {q:ρ} {xs:List SV} {m:Nat->Blk} {l:List Loc} {ds:List D} {K:Dl->List Loc->Prop} {k0 k1 k2 k3 k4 k5 k6 k7 k8 k9 k10 k11 k12 k13 k14 k15 m0 m1 m2 m3 m4 m5:Nat}
def zaO (found7:Bool)(b0_0:Int)(b0_1:Int)(b1_0:Int)(b1_1:Int):Option (A2iN×A2iN×Int) :=
 bif !found7 then (some ((A2iN.mk b0_0 b0_1),(A2iN.mk b1_0 b1_1),(5:Int)))
 else (some ((A2iN.mk b0_0 b0_1),(A2iN.mk b1_0 b1_1),(0:Int)))
def zjS:Lp (Bool×Int×Int×Int×Int) Unit (A2iN×A2iN×Int):=lp0 ⟨[4,5,7],[0,1],[],[]⟩ (λ (found7,_,_,_,_)=>[.ptr 0 0, .ptr 1 0, .kb found7]) (λ (_,b0_0,b0_1,b1_0,b1_1)=>[.box [.dat (iN b0_0), .dat (iN b0_1)], .box [.dat (iN b1_0), .dat (iN b1_1)]]) (λ (found7,b0_0,b0_1,b1_0,b1_1)=>zaO found7 b0_0 b0_1 b1_0 b1_1)
instance Ef14_c7 {found7 b0_0 b0_1 b1_0 b1_1}:IsLp 0 5 (zaO found7 b0_0 b0_1 b1_0 b1_1) (zjS) (found7,b0_0,b0_1,b1_0,b1_1):=⟨rfl⟩
instance Cf14_c7:IsCut 5 (zaO) (zjS) 7:=⟨⟩
def zaz (a0:List Int)(a1:Int)(v7:Int)(r1:Int->Option (A2iN×A2iN×Int)):Option (A2iN×A2iN×Int) :=
 r1 (W (v7+(1:Int)))
def za0 (a0:List Int)(a1:Int)(v7:Int)(r1:Int->Option (A2iN×A2iN×Int)):Lp (Unit) Unit (A2iN×A2iN×Int):=lp0 ⟨[0,1,6,7],[0,1,zrl,zrm,zrr,zrs,zrn,zro,zrp,zrq],[],[]⟩ (λ _=>[.dat (iN (List.length a0:Int)), .fn 105 [] [.ptr zrs 0, .ptr zrr 0, .ptr zrn 0, .ptr zro 0, .ptr zrp 0, .ptr zrq 0], .dat (iN (List.length a0:Int)), .dat (iN v7)]) (λ _=>[.box [.dat (iN (0:Int)), .dat (iN (0:Int))], .box [.dat (iN (0:Int)), .dat (iN (0:Int))], .box [.dat (zbp a0)], .box [.dat (iN a1)], .box [.dat (iN (List.length a0:Int))], .box [.dat (.v (.func (.func 58) #[] #[]))], .box [.fn 107 [] [.ptr zrl 0, .ptr zrm 0]], .box [.dat (iN (0:Int)), .dat (iN (0:Int))], .box [.dat (iN (0:Int)), .dat (iN (0:Int))], .box [.kb false]]) (λ _=>zaz a0 a1 v7 r1)
instance zhB {a0 a1 v7 r1}:IsLp 0 0 (zaz a0 a1 v7 r1) (za0 a0 a1 v7 r1) ():=⟨rfl⟩
instance zhC {a0 a1 v7 r1}:IsCut 0 (zaz a0 a1 v7 r1) (za0 a0 a1 v7 r1) 606000104000000008:=⟨⟩
def zae (a0:List Int)(a1:Int)(v7:Int)(v11:Int)(v7':Int)(r1x:Int->Option (A2iN×A2iN×Int)):Option (A2iN×A2iN×Int) :=
 r1x (W ((v7')+(1:Int)))
def zao (a0:List Int)(a1:Int)(v7:Int)(v11:Int)(v7':Int)(r1x:Int->Option (A2iN×A2iN×Int)):Lp (Unit) Unit (A2iN×A2iN×Int):=lp0 ⟨[0,1,6,7],[0,1,zrl,zrm,zrr,zrs,zrn,zro,zrp,zrq,zrt],[],[]⟩ (λ _=>[.dat (iN (List.length a0:Int)), .fn 106 [] [.ptr zrt 0, .ptr zrn 0, .ptr zro 0, .ptr zrp 0, .ptr zrq 0], .dat (iN (List.length a0:Int)), .dat (iN (v7'))]) (λ _=>[.box [.dat (iN (0:Int)), .dat (iN (0:Int))], .box [.dat (iN (0:Int)), .dat (iN (0:Int))], .box [.dat (zbp a0)], .box [.dat (iN a1)], .box [.dat (iN (List.length a0:Int))], .box [.dat (.v (.func (.func 58) #[] #[]))], .box [.fn 107 [] [.ptr zrl 0, .ptr zrm 0]], .box [.dat (iN (0:Int)), .dat (iN (0:Int))], .box [.dat (iN (0:Int)), .dat (iN (0:Int))], .box [.kb false], .box [.dat (iN v7), .dat (iN v11)]]) (λ _=>zae a0 a1 v7 v11 v7' r1x)
instance zbx {a0 a1 v7 v11 v7' r1x}:IsLp 0 0 (zae a0 a1 v7 v11 v7' r1x) (zao a0 a1 v7 v11 v7' r1x) ():=⟨rfl⟩
instance zby {a0 a1 v7 v11 v7' r1x}:IsCut 0 (zae a0 a1 v7 v11 v7' r1x) (zao a0 a1 v7 v11 v7' r1x) 606000104000609000104000000008:=⟨⟩
def zai (r4x:Int->Option (A2iN×A2iN×Int))(a0:List Int)(a1:Int)(k0:Bool->Int->Int->Int->Int->Option (A2iN×A2iN×Int))(v7:Int)(v11:Int)(v7':Int)(k2:Option (A2iN×A2iN×Int))(v11':Int):Option (A2iN×A2iN×Int) :=
 bif decide ((v11')<(List.length a0:Int)) then (bif decide (¬ (v7')=(v11')) then (bif !(decide (v7=v7')&&(decide (v11=v11')&&true)) then ((ix a0 v11).bind λ x4 =>
 (ix a0 v7).bind λ x5 =>
 (chk (decide (a1≠0))).bind λ _ =>
 (ix a0 (v11')).bind λ x6 =>
 (ix a0 (v7')).bind λ x7 =>
 (chk (decide (a1≠0))).bind λ _ =>
 bif decide ((Int.tmod (W ((W (x4-x5))+a1)) a1)=(Int.tmod (W ((W (x6-x7))+a1)) a1)) then (k0 true v7 v11 (v7') (v11'))
 else (r4x (W ((v11')+(1:Int)))))
 else (r4x (W ((v11')+(1:Int)))))
 else (r4x (W ((v11')+(1:Int)))))
 else k2
def zab (a0:List Int)(a1:Int)(k0:Bool->Int->Int->Int->Int->Option (A2iN×A2iN×Int))(v7:Int)(v11:Int)(v7':Int)(k2:Option (A2iN×A2iN×Int)):Nat->Int->Option (A2iN×A2iN×Int)
 | 0,_=>none
 | n+1,v11' => zai (zab a0 a1 k0 v7 v11 v7' k2 n) a0 a1 k0 v7 v11 v7' k2 v11'
def zaq (a0:List Int)(a1:Int)(k0:Bool->Int->Int->Int->Int->Option (A2iN×A2iN×Int))(v7:Int)(v11:Int)(v7':Int)(k2:Option (A2iN×A2iN×Int)):Lp (Nat×Int) Unit (A2iN×A2iN×Int):=lp0 ⟨[0,1,4,6,7,10,11],[0,1,zrl,zrm,zrr,zrs,zrn,zro,zrp,zrq,zrt],[],[]⟩ (λ (_,v11')=>[.dat (iN (List.length a0:Int)), .fn 106 [] [.ptr zrt 0, .ptr zrn 0, .ptr zro 0, .ptr zrp 0, .ptr zrq 0], .dat (iN (v7')), .dat (iN (List.length a0:Int)), .dat (iN (v7')), .dat (iN (List.length a0:Int)), .dat (iN (v11'))]) (λ (_,_)=>[.box [.dat (iN (0:Int)), .dat (iN (0:Int))], .box [.dat (iN (0:Int)), .dat (iN (0:Int))], .box [.dat (zbp a0)], .box [.dat (iN a1)], .box [.dat (iN (List.length a0:Int))], .box [.dat (.v (.func (.func 58) #[] #[]))], .box [.fn 107 [] [.ptr zrl 0, .ptr zrm 0]], .box [.dat (iN (0:Int)), .dat (iN (0:Int))], .box [.dat (iN (0:Int)), .dat (iN (0:Int))], .box [.kb false], .box [.dat (iN v7), .dat (iN v11)]]) (λ (n,v11')=>zab a0 a1 k0 v7 v11 v7' k2 n v11')
instance zbz {a0 a1 k0 v7 v11 v7' k2 n v11'}:IsLp 0 1 (zab a0 a1 k0 v7 v11 v7' k2 n v11') (zaq a0 a1 k0 v7 v11 v7' k2) (n,v11'):=⟨rfl⟩
def zad (r1x:Int->Option (A2iN×A2iN×Int))(a0:List Int)(a1:Int)(N:Nat)(k0:Bool->Int->Int->Int->Int->Option (A2iN×A2iN×Int))(v7:Int)(v11:Int)(r4:Int->Option (A2iN×A2iN×Int))(v7':Int):Option (A2iN×A2iN×Int) :=
 bif decide ((v7')<(List.length a0:Int)) then (zbI (zae a0 a1 v7 v11 v7' r1x) λ k2 =>
 zab a0 a1 k0 v7 v11 v7' k2 N (0:Int))
 else (r4 (W (v11+(1:Int))))
def zaf (a0:List Int)(a1:Int)(N:Nat)(k0:Bool->Int->Int->Int->Int->Option (A2iN×A2iN×Int))(v7:Int)(v11:Int)(r4:Int->Option (A2iN×A2iN×Int)):Nat->Int->Option (A2iN×A2iN×Int)
 | 0,_=>none
 | n+1,v7' => zad (zaf a0 a1 N k0 v7 v11 r4 n) a0 a1 N k0 v7 v11 r4 v7'
def zar (a0:List Int)(a1:Int)(N:Nat)(k0:Bool->Int->Int->Int->Int->Option (A2iN×A2iN×Int))(v7:Int)(v11:Int)(r4:Int->Option (A2iN×A2iN×Int)):Lp (Nat×Int) Unit (A2iN×A2iN×Int):=lp0 ⟨[0,1,6,7],[0,1,zrl,zrm,zrr,zrs,zrn,zro,zrp,zrq,zrt],[],[]⟩ (λ (_,v7')=>[.dat (iN (List.length a0:Int)), .fn 106 [] [.ptr zrt 0, .ptr zrn 0, .ptr zro 0, .ptr zrp 0, .ptr zrq 0], .dat (iN (List.length a0:Int)), .dat (iN (v7'))]) (λ (_,_)=>[.box [.dat (iN (0:Int)), .dat (iN (0:Int))], .box [.dat (iN (0:Int)), .dat (iN (0:Int))], .box [.dat (zbp a0)], .box [.dat (iN a1)], .box [.dat (iN (List.length a0:Int))], .box [.dat (.v (.func (.func 58) #[] #[]))], .box [.fn 107 [] [.ptr zrl 0, .ptr zrm 0]], .box [.dat (iN (0:Int)), .dat (iN (0:Int))], .box [.dat (iN (0:Int)), .dat (iN (0:Int))], .box [.kb false], .box [.dat (iN v7), .dat (iN v11)]]) (λ (n,v7')=>zaf a0 a1 N k0 v7 v11 r4 n v7')
instance zbA {a0 a1 N k0 v7 v11 r4 n v7'}:IsLp 0 1 (zaf a0 a1 N k0 v7 v11 r4 n v7') (zar a0 a1 N k0 v7 v11 r4) (n,v7'):=⟨rfl⟩
def zas (r4:Int->Option (A2iN×A2iN×Int))(a0:List Int)(a1:Int)(N:Nat)(k0:Bool->Int->Int->Int->Int->Option (A2iN×A2iN×Int))(v7:Int)(k1:Option (A2iN×A2iN×Int))(v11:Int):Option (A2iN×A2iN×Int) :=
 bif decide (v11<(List.length a0:Int)) then (bif decide (¬ v7=v11) then (zaf a0 a1 N k0 v7 v11 r4 N (0:Int))
 else (r4 (W (v11+(1:Int)))))
 else k1
def zaA (a0:List Int)(a1:Int)(N:Nat)(k0:Bool->Int->Int->Int->Int->Option (A2iN×A2iN×Int))(v7:Int)(k1:Option (A2iN×A2iN×Int)):Nat->Int->Option (A2iN×A2iN×Int)
 | 0,_=>none
 | n+1,v11=>zas (zaA a0 a1 N k0 v7 k1 n) a0 a1 N k0 v7 k1 v11
def zbC (a0:List Int)(a1:Int)(N:Nat)(k0:Bool->Int->Int->Int->Int->Option (A2iN×A2iN×Int))(v7:Int)(k1:Option (A2iN×A2iN×Int)):Lp (Nat×Int) Unit (A2iN×A2iN×Int):=lp0 ⟨[0,1,4,6,7,10,11],[0,1,zrl,zrm,zrr,zrs,zrn,zro,zrp,zrq],[],[]⟩ (λ (_,v11)=>[.dat (iN (List.length a0:Int)), .fn 105 [] [.ptr zrs 0, .ptr zrr 0, .ptr zrn 0, .ptr zro 0, .ptr zrp 0, .ptr zrq 0], .dat (iN v7), .dat (iN (List.length a0:Int)), .dat (iN v7), .dat (iN (List.length a0:Int)), .dat (iN v11)]) (λ (_,_)=>[.box [.dat (iN (0:Int)), .dat (iN (0:Int))], .box [.dat (iN (0:Int)), .dat (iN (0:Int))], .box [.dat (zbp a0)], .box [.dat (iN a1)], .box [.dat (iN (List.length a0:Int))], .box [.dat (.v (.func (.func 58) #[] #[]))], .box [.fn 107 [] [.ptr zrl 0, .ptr zrm 0]], .box [.dat (iN (0:Int)), .dat (iN (0:Int))], .box [.dat (iN (0:Int)), .dat (iN (0:Int))], .box [.kb false]]) (λ (n,v11)=>zaA a0 a1 N k0 v7 k1 n v11)
instance zhG {a0 a1 N k0 v7 k1 n v11}:IsLp 0 1 (zaA a0 a1 N k0 v7 k1 n v11) (zbC a0 a1 N k0 v7 k1) (n,v11):=⟨rfl⟩
def zat (r1:Int->Option (A2iN×A2iN×Int))(a0:List Int)(a1:Int)(N:Nat)(k0:Bool->Int->Int->Int->Int->Option (A2iN×A2iN×Int))(v7:Int):Option (A2iN×A2iN×Int) :=
 bif decide (v7<(List.length a0:Int)) then (zbI (zaz a0 a1 v7 r1) λ k1 =>
 zaA a0 a1 N k0 v7 k1 N (0:Int))
 else (k0 false (0:Int) (0:Int) (0:Int) (0:Int))
def zaB (a0:List Int)(a1:Int)(N:Nat)(k0:Bool->Int->Int->Int->Int->Option (A2iN×A2iN×Int)):Nat->Int->Option (A2iN×A2iN×Int)
 | 0,_=>none
 | n+1,v7=>zat (zaB a0 a1 N k0 n) a0 a1 N k0 v7
def zbD (a0:List Int)(a1:Int)(N:Nat)(k0:Bool->Int->Int->Int->Int->Option (A2iN×A2iN×Int)):Lp (Nat×Int) Unit (A2iN×A2iN×Int):=lp0 ⟨[0,1,6,7],[0,1,zrl,zrm,zrr,zrs,zrn,zro,zrp,zrq],[],[]⟩ (λ (_,v7)=>[.dat (iN (List.length a0:Int)), .fn 105 [] [.ptr zrs 0, .ptr zrr 0, .ptr zrn 0, .ptr zro 0, .ptr zrp 0, .ptr zrq 0], .dat (iN (List.length a0:Int)), .dat (iN v7)]) (λ (_,_)=>[.box [.dat (iN (0:Int)), .dat (iN (0:Int))], .box [.dat (iN (0:Int)), .dat (iN (0:Int))], .box [.dat (zbp a0)], .box [.dat (iN a1)], .box [.dat (iN (List.length a0:Int))], .box [.dat (.v (.func (.func 58) #[] #[]))], .box [.fn 107 [] [.ptr zrl 0, .ptr zrm 0]], .box [.dat (iN (0:Int)), .dat (iN (0:Int))], .box [.dat (iN (0:Int)), .dat (iN (0:Int))], .box [.kb false]]) (λ (n,v7)=>zaB a0 a1 N k0 n v7)
instance zhH {a0 a1 N k0 n v7}:IsLp 0 1 (zaB a0 a1 N k0 n v7) (zbD a0 a1 N k0) (n,v7):=⟨rfl⟩
def f14 (N:Nat)(a0:List Int)(a1:Int):Option (A2iN×A2iN×Int) :=
 (f9 N a0).bind λ x1 =>
 bif decide (¬ x1=(0:Int)) then (some ((A2iN.mk (0:Int) (0:Int)),(A2iN.mk (0:Int) (0:Int)),x1))
 else ((f56 N (2:Int) a1 (40:Int)).bind λ x2 =>
 bif !x2 then (some ((A2iN.mk (0:Int) (0:Int)),(A2iN.mk (0:Int) (0:Int)),(4:Int)))
 else ((ix a0 (W ((List.length a0:Int)-(1:Int)))).bind λ x3 =>
 bif decide (a1<=x3) then (some ((A2iN.mk (0:Int) (0:Int)),(A2iN.mk (0:Int) (0:Int)),(4:Int)))
 else (zbI zaO λ k0 =>
 zaB a0 a1 N k0 N (0:Int))))
def G14 (ds:List D)(d:D):Prop:=∃ (N:Nat) (a0:List Int) (a1:Int) (r:A2iN×A2iN×Int),ds=[zbp a0,iN a1]/\f14 N a0 a1=some r/\d = .tup [A2iN.d r.1,A2iN.d r.2.1,iN r.2.2]
theorem G14.lend {a0 a1}{A:_->Option ρ}{K:D->Prop}(hd:ds=[zbp a0,iN a1])(h:∀ r,A r=some q->K (.tup [A2iN.d r.1,A2iN.d r.2.1,iN r.2.2]))(hF:(f14 N a0 a1).bind A=some q):∃ d,(G14 ds d/\d.flatB=true)/\K d:=by
 obtain⟨r,hr,hA⟩:=bind_some hF;exact⟨_,⟨⟨N,a0,a1,r,hd,hr,rfl⟩,rfl⟩,h r hA⟩
set_option maxRecDepth 20000 in
set_option maxHeartbeats 4000000 in
theorem P14:PureOK Tryz.prog 14 G14:=by
 refine za1 (c:=zbo za9 [(59,false,ziw (zbo za9 []) Tryz.f59),(57,false,ziw (zbo za9 [(58,false,ziw (zbo za9 [(105,false,ziw (zbo za9 [(58,false,ziw (zbo za9 [(106,false,ziw (zbo za9 [(107,true,zfr (zbo za9 [(148,true,zfr (zbo za9 []) Tryz.f148),(108,true,zfr (zbo za9 []) Tryz.f108)]) Tryz.f107)]) Tryz.f106)]) Tryz.f58)]) Tryz.f105)]) Tryz.f58)]) Tryz.f57),(56,true,lendPg [[0],[0],[0]] G56),(9,true,lendPg [[1]] G9)]) rfl tyOK (zem (zaG Tryz.func59 rfl rfl) (CallOK.inl rfl tyOK (zaZ) Tryz.func59 (by kernel_rfl)) (zem (zaG Tryz.func57 rfl rfl) (CallOK.inl rfl tyOK (zem (zaG Tryz.func58 rfl rfl) (CallOK.inl rfl tyOK (zem (zaG Tryz.func105 rfl rfl) (CallOK.inl rfl tyOK (zem (zaG Tryz.func58 rfl rfl) (CallOK.inl rfl tyOK (zem (zaG Tryz.func106 rfl rfl) (CallOK.inl rfl tyOK (zhg rfl tyOK (zhg rfl tyOK (zaZ) Tryz.func148 (by kernel_rfl) (zaG Tryz.func148 rfl rfl) (zhg rfl tyOK (zaZ) Tryz.func108 (by kernel_rfl) (zaG Tryz.func108 rfl rfl) (zaZ))) Tryz.func107 (by kernel_rfl) (zaG Tryz.func107 rfl rfl) (zaZ)) Tryz.func106 (by kernel_rfl)) (zaZ)) Tryz.func58 (by kernel_rfl)) (zaZ)) Tryz.func105 (by kernel_rfl)) (zaZ)) Tryz.func58 (by kernel_rfl)) (zaZ)) Tryz.func57 (by kernel_rfl)) (za8 (zaG Tryz.func56 rfl rfl) P56 (za8 (zaG Tryz.func9 rfl rfl) P9 (zaZ))))) [[0,0],[0,0],[0]] 2 Tryz.func14 rfl rfl (by decide) (by kernel_rfl) ?_;rintro ds d ⟨N,a0,a1,r,rfl,hF,rfl⟩ hok;clear hok;refine⟨rfl, ?_⟩;show vc _ _ _ _ ⟨[(0, .dat (zbp a0)),(1, .dat (iN a1))],[]⟩ _;unfold f14 at hF
 repeat' (first
 | ((with_reducible first|refine q0 _ _ ?_|refine q1 _ _ _ _ ?_|refine q2 _ _ _ ?_);clear Q q0 q1 q2)
 | ((with_reducible first|refine zdm ?hx (λ Q q0 q1 q2=>?_)|refine zi2 ?hx (λ Q q0 q1 q2=>?_)|refine zl4 ?hx (λ Q q0 q1 q2=>?_)|refine znI ?hx (λ Q q0 q1 q2=>?_));(case hx=>exact rfl);conv=>whnf)
 | ((with_reducible first|refine zi1 ?hx ?_|refine zgJ ?hx ?_|refine znJ ?hx ?_|refine zl5 ?hx ?_|refine ze1 ?hx ?_|refine zgH ?hx ?_);(case hx=>exact rfl))
 | ((with_reducible refine zgm ?_);(first|((first|refine zeo rfl ?hy (λ Q q0 q1 q2=>?_)|refine zde rfl ?hy (λ Q q0 q1 q2=>?_));(case hy=>first|assumption|exact notT (by assumption)|exact rfl);conv=>whnf)|((first|refine zdd rfl ?hy ?_|refine zcq rfl ?hy ?_);(case hy=>first|assumption|exact notF (by assumption)|exact rfl))|(revert hF;(with_reducible first|refine zep ?hx ?_ ?_|refine zdf ?hx ?_ ?_);(case hx=>exact rfl);(intro hc hF Q q0 q1 q2;conv=>whnf);rotate_left;(intro hc hF);rotate_right)|(revert hF;(with_reducible first|refine zeq ?hx ?_ ?_|refine zdg ?hx ?_ ?_);(case hx=>exact rfl);(intro hc hF);rotate_left;(intro hc hF Q q0 q1 q2;conv=>whnf);rotate_right)))
 | ((with_reducible refine zpM ?_);(first|((first|refine zoi rfl ?hy (λ Q q0 q1 q2=>?_)|refine zmW rfl ?hy (λ Q q0 q1 q2=>?_));(case hy=>first|assumption|exact notT (by assumption)|exact rfl);conv=>whnf)|((first|refine zmV rfl ?hy ?_|refine zlw rfl ?hy ?_);(case hy=>first|assumption|exact notF (by assumption)|exact rfl))|(revert hF;(with_reducible first|refine zoj ?hx ?_ ?_|refine zmX ?hx ?_ ?_);(case hx=>exact rfl);(intro hc hF Q q0 q1 q2;conv=>whnf);rotate_left;(intro hc hF);rotate_right)|(revert hF;(with_reducible first|refine zok ?hx ?_ ?_|refine zmY ?hx ?_ ?_);(case hx=>exact rfl);(intro hc hF);rotate_left;(intro hc hF Q q0 q1 q2;conv=>whnf);rotate_right)))
 | ((with_reducible refine zcG ?_);(first|((refine zd8 rfl ?hy ?_);(case hy=>first|assumption|exact notT (by assumption)|exact rfl))|((refine zd9 rfl ?hy ?_);(case hy=>first|assumption|exact notF (by assumption)|exact rfl))|(revert hF;(with_reducible refine zhi ?hx ?_ ?_);(case hx=>exact rfl);all_goals (intro hc hF))))
 | ((with_reducible refine zcb ?_);(first|((with_reducible refine hR _ ?_);clear R hR)|((with_reducible refine hL _ ?_);clear L hL)))
 | ((with_reducible refine zgK ?_);(with_reducible refine hR _ _ ?hx ?_);(case hx=>kernel_rfl);clear R hR)
 | ((with_reducible first|refine zb7 ?_|refine zcD ?_|refine idx2 (by assumption) ?_|refine idx3 (by assumption) ?_);conv=>whnf)
 | (with_reducible first|refine zbR ?_|refine zca ?_|refine zdl ?_|refine zcv ?_|refine zbd (λ R hR=>?_)|refine zbc ?_|refine za5 ?_|refine zgG ?_|refine zbs ?_|refine za6 ?_|refine zbl ?_|refine za3 ?_)
 | ((with_reducible refine zcf [7,606000104000000008,606000104000609000104000000008] ?hx ?_);(case hx=>exact rfl))
 | ((with_reducible refine zi0 ?hx (λ R L hL hR=>?_));(case hx=>exact rfl))
 | (with_reducible first|refine zqI ?_|refine zmK (λ R hR=>?_)|refine zpF ?_|refine zqJ ?_|refine zoh ?_|refine zpG ?_)
 | ((with_reducible refine zpH ?hx (λ R L hL hR=>?_));(case hx=>exact rfl))
 | ((with_reducible replace hF:=isE hF);(dsimp only[zjS,za0,zao,zaq,zar,zbC,zbD,zab,zaf,zaA,zaB] at hF);first|((with_reducible replace hF:=chkE (e:=zaz ..) hF);rewrite[zaz] at hF)|((with_reducible replace hF:=chkE (e:=zae ..) hF);rewrite[zae] at hF)|rewrite[zaO] at hF|rewrite[zai] at hF|rewrite[zad] at hF|rewrite[zas] at hF|rewrite[zat] at hF)
 | ((with_reducible refine zcE ?_);(with_reducible replace hF:=zhj 5 hF);((refine Lp.cutI hF rfl rfl ?_ ?_) <;> clear hF);(intro hF);rotate_left;(rintro⟨_,_,_,_,_⟩ hF);rotate_right)
 | ((with_reducible refine zcF ?_);(with_reducible replace hF:=toLp 0 5 hF);exact Lp.headI hF () ⟨_,rfl,rfl,rfl,rfl⟩ rfl)
 | ((with_reducible refine zcE ?_);(with_reducible replace hF:=zhj 0 hF);((refine Lp.cutI hF rfl rfl ?_ ?_) <;> clear hF);(intro hF);rotate_left;(rintro _ hF);rotate_right)
 | ((with_reducible refine zcF ?_);(with_reducible replace hF:=toLp 0 0 hF);exact Lp.headI hF () ⟨_,rfl,rfl,rfl,rfl⟩ rfl)
 | ((with_reducible refine zcX ?_);(with_reducible replace hF:=toLp 0 1 hF);((refine Lp.loopI hF () rfl ⟨_,rfl,rfl,rfl,rfl⟩ rfl (λ _=>rfl) ?_);clear hF);(rintro n _ hF))
 | ((with_reducible refine zcY ?_);(with_reducible replace hF:=toLp 0 1 hF);exact Lp.backI hF () ⟨_,rfl,rfl,rfl,rfl⟩ rfl)
 | (revert hF;(with_reducible refine G9.lend ?hx ?_);(case hx=>exact rfl);intro v hF;conv=>whnf)
 | (revert hF;(with_reducible refine G56.lend ?hx ?_);(case hx=>exact rfl);intro v hF;conv=>whnf)
 | ((with_reducible refine zkx rfl ?_);conv=>whnf)
 | (revert hF;(with_reducible refine idx1 ?hn ?_);(case hn=>first|exact rfl|exact(List.length_map _)|assumption|omega|simp);intro x hx hF;conv=>whnf)
 | ((with_reducible refine zen ?_);conv=>whnf)
 | ((with_reducible have hG:=zhh hF);clear hF;(refine⟨?hx, ?_⟩);(case hx=>(first|exact of_decide_eq_true hG.1|exact hG.1));have hF:=hG.2;clear hG;conv=>whnf)
 | ((with_reducible refine zgk ?hx ?_);(case hx=>first|exact rfl|assumption|exact notT (by assumption));conv=>whnf)
 | ((with_reducible refine zgl ?hx ?_);(case hx=>first|exact rfl|assumption|exact notF (by assumption));conv=>whnf)
 | ((refine zcr 604 zrl rfl rfl (zrj rfl) rfl (λ R hR=>?_));(conv=>whnf);(with_reducible refine hR _ ?ha ?_);(case ha=>exact rfl);clear R hR)
 | ((refine zcr 605 zrr rfl rfl (zrj rfl) rfl (λ R hR=>?_));(conv=>whnf);(with_reducible refine hR _ ?ha ?_);(case ha=>exact rfl);clear R hR)
 | ((refine zcr 606000103 606000104000000 rfl rfl (zrj rfl) rfl (λ R hR=>?_));(conv=>whnf);(with_reducible refine hR _ ?ha ?_);(case ha=>exact rfl);clear R hR)
 | ((refine zcr 606000104000608 zrt rfl rfl (zrj rfl) rfl (λ R hR=>?_));(conv=>whnf);(with_reducible refine hR _ ?ha ?_);(case ha=>exact rfl);clear R hR)
 | ((refine zcr 606000104000609000103 606000104000609000104000000 rfl rfl (zrj rfl) rfl (λ R hR=>?_));(conv=>whnf);(with_reducible refine hR _ ?ha ?_);(case ha=>exact rfl);clear R hR)
 | ((refine zcr 606000104000609000104000608 606000104000609000104000609000000 rfl rfl (zrj rfl) rfl (λ R hR=>?_));(conv=>whnf);(with_reducible refine hR _ ?ha ?_);(case ha=>exact rfl);clear R hR)
 | ((refine zcs 606000104000609000104000609000106 606000104000609000104000609000107000000 rfl rfl (zrj rfl) rfl (λ R hR=>?_));(conv=>whnf);(with_reducible refine hR _ ?ha ?_);(case ha=>exact rfl);clear R hR)
 | ((refine zcs 606000104000609000104000609000109 606000104000609000104000609000107000104000001000000 rfl rfl (zrj rfl) rfl (λ R hR=>?_));(conv=>whnf);(with_reducible refine hR _ ?ha ?_);(case ha=>exact rfl);clear R hR)
 | ((refine zcs 606000104000609000104000609000107000101 606000104000609000104000609000107000102000000 rfl rfl (zrj rfl) rfl (λ R hR=>?_));(conv=>whnf);(with_reducible refine hR _ ?ha ?_);(case ha=>exact rfl);clear R hR)
 | ((refine zcs 606000104000609000104000609000107000103 606000104000609000104000609000107000104000000 rfl rfl (zrj rfl) rfl (λ R hR=>?_));(conv=>whnf);(with_reducible refine hR _ ?ha ?_);(case ha=>exact rfl);clear R hR)
 | ((refine zcs 606000104000609000104000609000107000104000001000101 606000104000609000104000609000107000104000001000102000000 rfl rfl (zrj rfl) rfl (λ R hR=>?_));(conv=>whnf);(with_reducible refine hR _ ?ha ?_);(case ha=>exact rfl);clear R hR)
 | ((refine zcs 606000104000609000104000609000107000104000001000103 606000104000609000104000609000107000104000001000104000000 rfl rfl (zrj rfl) rfl (λ R hR=>?_));(conv=>whnf);(with_reducible refine hR _ ?ha ?_);(case ha=>exact rfl);clear R hR)
 | (show zlu _ _ _ _ _ _ _ _;conv=>whnf)
 | ((with_reducible refine zlA ?ha ?hb ?hc ?_);(case ha=>exact rfl);(case hb=>exact rfl);(case hc=>repeat' (first|exact trivial|refine⟨rfl, ?_⟩));conv=>whnf)
 | (show Kinl _ _ _ _ _ _ _;conv=>whnf)
 | ((with_reducible refine zmU ?ha ?hb ?_);(case ha=>exact rfl);(case hb=>exact rfl);conv=>whnf)
 | ((refine⟨?hx,trivial⟩);(case hx=>(cases hF;exact rfl)))
 | ((refine⟨?hx, ?_⟩);(case hx=>decide);conv=>whnf)
 | with_reducible refine zeI ?_)

end Go.Vc
namespace Go.Vc
open Go.Proofs
variable {N id:Nat} {ρ:Type} {q:ρ} {xs:List SV} {m:Nat->Blk} {l:List Loc} {ds:List D} {K:Dl->List Loc->Prop} {k0 k1 k2 k3 k4 k5 k6 k7 k8 k9 k10 k11 k12 k13 k14 k15 m0 m1 m2 m3 m4 m5:Nat}
def zfJ (a1:Int)(N:Nat)(x2:Int)(x3:A2iN×A2iN×Int)(x4:ByteArray)(v13:List Int):Option (Bool) :=
 (f15 N v13 (max (2:Int) (min (16:Int) (W ((W (x2+(1:Int)))+(Int.tmod a1 (8:Int))))))).bind λ x5 =>
 (f14 N v13 (max (2:Int) (min (16:Int) (W ((W (x2+(1:Int)))+(Int.tmod a1 (8:Int))))))).bind λ x6 =>
 (f16 N x4 x5).bind λ x7 =>
 (f17 N x4).bind λ x8 =>
 (f17 N x5).bind λ x9 =>
 (f18 N x4).bind λ x10 =>
 bif decide (¬ x7.2=(0:Int)) then (some (false))
 else (bif decide (¬ x8.2=(0:Int)) then (some (false))
 else (bif decide (¬ x9.2=(0:Int)) then (some (false))
 else (bif decide (¬ x10.2.2=(0:Int)) then (some (false))
 else (bif !x7.1 then (some (false))
 else (bif decide (¬ x8.1=x9.1) then (some (false))
 else (bif !((decide (x3.2.2=(5:Int))) == (decide (x6.2.2=(5:Int)))) then (some (false))
 else (bif decide (x10.2.1<(1:Int)) then (some (false))
 else (bif decide ((16:Int)<x10.2.1) then (some (false))
 else (bif decide (¬ (W (x10.2.1*(ByteArray.size x10.1:Int)))=(max (2:Int) (min (16:Int) (W ((W (x2+(1:Int)))+(Int.tmod a1 (8:Int))))))) then (some (false))
 else (bif decide (¬ x3.2.2=(5:Int)) then ((f13 N ).bind λ x11 =>
 some (x11))
 else (bif decide (x10.2.1=(1:Int)) then ((f13 N ).bind λ x12 =>
 some (x12))
 else (some (false)))))))))))))
def zjT (a1:Int)(N:Nat)(x2:Int)(x3:A2iN×A2iN×Int)(x4:ByteArray):Lp ((List Int)) (Nat×Unit) (Bool):=lpm ⟨[8,11,12,13],[90013],[(.slot 13,90013,3,1)],[]⟩ (λ v13=>zfJ a1 N x2 x3 x4 v13) (λ _ (m0,_)=>[.dat (iN (max (2:Int) (min (16:Int) (W ((W (x2+(1:Int)))+(Int.tmod a1 (8:Int))))))), .dat (iN x3.2.2), .dat (strN x4), .rs 90013 m0]) (λ v13 (_,_)=>[.row 3 1 (List.map iN v13)]) λ v13=>(List.length v13,())
instance Ef4_c15 {a1 N x2 x3 x4 v13}:IsLp 1 1 (zfJ a1 N x2 x3 x4 v13) (zjT a1 N x2 x3 x4) v13:=⟨rfl⟩
instance Cf4_c15 {a1 N x2 x3 x4}:IsCut 1 (zfJ a1 N x2 x3 x4) (zjT a1 N x2 x3 x4) 15:=⟨⟩
def zlK (a1:Int)(a2:Int)(x1:List Int)(x2:Int)(x3:A2iN×A2iN×Int)(x4:ByteArray)(v14:Int)(r7:(List Int)->Int->Option (Bool))(v13':List Int):Option (Bool) :=
 r7 (v13') (W (v14+(1:Int)))
def zno (a1:Int)(a2:Int)(x1:List Int)(x2:Int)(x3:A2iN×A2iN×Int)(x4:ByteArray)(v14:Int)(r7:(List Int)->Int->Option (Bool)):Lp ((List Int)) (Nat×Unit) (Bool):=lpm ⟨[2,7,8,11,12,13,14],[90013],[(.slot 13,90013,3,1)],[]⟩ (λ v13' => zlK a1 a2 x1 x2 x3 x4 v14 r7 v13') (λ _ (m0,_)=>[.dat (u8N a2), .dat (zbp x1), .dat (iN (max (2:Int) (min (16:Int) (W ((W (x2+(1:Int)))+(Int.tmod a1 (8:Int))))))), .dat (iN x3.2.2), .dat (strN x4), .rs 90013 m0, .dat (iN v14)]) (λ v13' (_,_)=>[.row 3 1 (List.map iN (v13'))]) λ v13' => (List.length (v13'),())
instance Ef4_c8 {a1 a2 x1 x2 x3 x4 v14 r7 v13'}:IsLp 1 1 (zlK a1 a2 x1 x2 x3 x4 v14 r7 v13') (zno a1 a2 x1 x2 x3 x4 v14 r7) v13':=⟨rfl⟩
instance Cf4_c8 {a1 a2 x1 x2 x3 x4 v14 r7}:IsCut 1 (zlK a1 a2 x1 x2 x3 x4 v14 r7) (zno a1 a2 x1 x2 x3 x4 v14 r7) 8:=⟨⟩
def zgt (r10:(List Int)->Int->Option (Bool))(a1:Int)(a2:Int)(x1:List Int)(x2:Int)(x3:A2iN×A2iN×Int)(x4:ByteArray)(v14:Int)(k1:(List Int)->Option (Bool))(v13':List Int)(v62:Int):Option (Bool) :=
 bif decide (v62<(List.length x1:Int)) then ((ix x1 v62).bind λ x13 =>
 (chk (decide ((max (2:Int) (min (16:Int) (W ((W (x2+(1:Int)))+(Int.tmod a1 (8:Int))))))≠0))).bind λ _ =>
 bif decide ((Int.tmod (W (x13+a2)) (max (2:Int) (min (16:Int) (W ((W (x2+(1:Int)))+(Int.tmod a1 (8:Int)))))))=v14) then ((app 8 (v13') [v14]).bind λ x14 =>
 r10 x14 (W (v62+(1:Int))))
 else (r10 (v13') (W (v62+(1:Int)))))
 else (k1 (v13'))
def zjU (a1:Int)(a2:Int)(x1:List Int)(x2:Int)(x3:A2iN×A2iN×Int)(x4:ByteArray)(v14:Int)(k1:(List Int)->Option (Bool)):Nat->(List Int)->Int->Option (Bool)
 | 0,_,_=>none
 | n+1,v13',v62=>zgt (zjU a1 a2 x1 x2 x3 x4 v14 k1 n) a1 a2 x1 x2 x3 x4 v14 k1 v13' v62
def zo7 (a1:Int)(a2:Int)(x1:List Int)(x2:Int)(x3:A2iN×A2iN×Int)(x4:ByteArray)(v14:Int)(k1:(List Int)->Option (Bool)):Lp (Nat×(List Int)×Int) (Nat×Unit) (Bool):=lpm ⟨[2,7,8,11,12,13,14,60,61,62],[90013],[(.slot 13,90013,3,1)],[]⟩ (λ (n,v13',v62)=>zjU a1 a2 x1 x2 x3 x4 v14 k1 n v13' v62) (λ (_,_,v62) (m0,_)=>[.dat (u8N a2), .dat (zbp x1), .dat (iN (max (2:Int) (min (16:Int) (W ((W (x2+(1:Int)))+(Int.tmod a1 (8:Int))))))), .dat (iN x3.2.2), .dat (strN x4), .rs 90013 m0, .dat (iN v14), .dat (zbp x1), .dat (iN (List.length x1:Int)), .dat (iN v62)]) (λ (_,v13',_) (_,_)=>[.row 3 1 (List.map iN (v13'))]) λ (_,v13',_)=>(List.length (v13'),())
instance Ef4_10 {a1 a2 x1 x2 x3 x4 v14 k1 n v13' v62}:IsLp 1 2 (zjU a1 a2 x1 x2 x3 x4 v14 k1 n v13' v62) (zo7 a1 a2 x1 x2 x3 x4 v14 k1) (n,v13',v62):=⟨rfl⟩
def zlL (r7:(List Int)->Int->Option (Bool))(a1:Int)(a2:Int)(N:Nat)(x1:List Int)(x2:Int)(x3:A2iN×A2iN×Int)(x4:ByteArray)(k0:(List Int)->Option (Bool))(v13:List Int)(v14:Int):Option (Bool) :=
 bif decide (v14<(max (2:Int) (min (16:Int) (W ((W (x2+(1:Int)))+(Int.tmod a1 (8:Int))))))) then (zbI (zlK a1 a2 x1 x2 x3 x4 v14 r7) λ k1 =>
 zjU a1 a2 x1 x2 x3 x4 v14 k1 N v13 (0:Int))
 else (k0 v13)
def f4_7 (a1:Int)(a2:Int)(N:Nat)(x1:List Int)(x2:Int)(x3:A2iN×A2iN×Int)(x4:ByteArray)(k0:(List Int)->Option (Bool)):Nat->(List Int)->Int->Option (Bool)
 | 0,_,_=>none
 | n+1,v13,v14=>zlL (f4_7 a1 a2 N x1 x2 x3 x4 k0 n) a1 a2 N x1 x2 x3 x4 k0 v13 v14
def zq1 (a1:Int)(a2:Int)(N:Nat)(x1:List Int)(x2:Int)(x3:A2iN×A2iN×Int)(x4:ByteArray)(k0:(List Int)->Option (Bool)):Lp (Nat×(List Int)×Int) (Nat×Unit) (Bool):=lpm ⟨[2,7,8,11,12,13,14],[90013],[(.slot 13,90013,3,1)],[]⟩ (λ (n,v13,v14)=>f4_7 a1 a2 N x1 x2 x3 x4 k0 n v13 v14) (λ (_,_,v14) (m0,_)=>[.dat (u8N a2), .dat (zbp x1), .dat (iN (max (2:Int) (min (16:Int) (W ((W (x2+(1:Int)))+(Int.tmod a1 (8:Int))))))), .dat (iN x3.2.2), .dat (strN x4), .rs 90013 m0, .dat (iN v14)]) (λ (_,v13,_) (_,_)=>[.row 3 1 (List.map iN v13)]) λ (_,v13,_)=>(List.length v13,())
instance Ef4_7 {a1 a2 N x1 x2 x3 x4 k0 n v13 v14}:IsLp 1 2 (f4_7 a1 a2 N x1 x2 x3 x4 k0 n v13 v14) (zq1 a1 a2 N x1 x2 x3 x4 k0) (n,v13,v14):=⟨rfl⟩
def f4 (N:Nat)(a0:List Int)(a1:Int)(a2:Int):Option (Bool) :=
 (f8 N a0 (4:Int) (14:Int)).bind λ x1 =>
 (ix x1 (W ((List.length x1:Int)-(1:Int)))).bind λ x2 =>
 (f14 N x1 (max (2:Int) (min (16:Int) (W ((W (x2+(1:Int)))+(Int.tmod a1 (8:Int))))))).bind λ x3 =>
 (f15 N x1 (max (2:Int) (min (16:Int) (W ((W (x2+(1:Int)))+(Int.tmod a1 (8:Int))))))).bind λ x4 =>
 zbI (zfJ a1 N x2 x3 x4) λ k0 =>
 f4_7 a1 a2 N x1 x2 x3 x4 k0 N [] (0:Int)
def G4 (ds:List D)(d:D):Prop:=∃ (N:Nat) (a0:List Int) (a1:Int) (a2:Int) (r:Bool),ds=[zfF a0,u8N a1,u8N a2]/\f4 N a0 a1 a2=some r/\d=bN r
set_option maxRecDepth 20000 in
set_option maxHeartbeats 4000000 in
theorem P4:PureOK Tryz.prog 4 G4:=by
 refine za1 (c:=zbo za9 [(18,true,lendPg [[0]] G18),(17,true,lendPg [[0]] G17),(16,true,lendPg [[0],[0]] G16),(15,true,lendPg [[1],[0]] G15),(14,true,lendPg [[1],[0]] G14),(13,true,lendPg [] G13),(8,true,zj6 [[1],[0],[0]] G8)]) rfl tyOK (za8 (zaG Tryz.func18 rfl rfl) P18 (za8 (zaG Tryz.func17 rfl rfl) P17 (za8 (zaG Tryz.func16 rfl rfl) P16 (za8 (zaG Tryz.func15 rfl rfl) P15 (za8 (zaG Tryz.func14 rfl rfl) P14 (za8 (zaG Tryz.func13 rfl rfl) P13 (zof (zaG Tryz.func8 rfl rfl) P8 (zaZ)))))))) [[0]] 3 Tryz.func4 rfl rfl (by decide) (by kernel_rfl) ?_;rintro ds d ⟨N,a0,a1,a2,r,rfl,hF,rfl⟩ hok;clear hok;refine⟨rfl, ?_⟩;show vc _ _ _ _ ⟨[(0, .dat (zfF a0)),(1, .dat (u8N a1)),(2, .dat (u8N a2))],[]⟩ _;unfold f4 at hF
 repeat' (first
 | ((with_reducible first|refine q0 _ _ ?_|refine q1 _ _ _ _ ?_|refine q2 _ _ _ ?_);clear Q q0 q1 q2)
 | ((with_reducible first|refine zdm ?hx (λ Q q0 q1 q2=>?_)|refine zl4 ?hx (λ Q q0 q1 q2=>?_));(case hx=>exact rfl);conv=>whnf)
 | ((with_reducible first|refine zi1 ?hx ?_|refine zgJ ?hx ?_|refine ze1 ?hx ?_|refine zgH ?hx ?_);(case hx=>exact rfl))
 | ((with_reducible refine zgm ?_);(first|((first|refine zeo rfl ?hy (λ Q q0 q1 q2=>?_)|refine zde rfl ?hy (λ Q q0 q1 q2=>?_));(case hy=>first|assumption|exact notT (by assumption)|exact rfl);conv=>whnf)|((first|refine zdd rfl ?hy ?_|refine zcq rfl ?hy ?_);(case hy=>first|assumption|exact notF (by assumption)|exact rfl))|(revert hF;(with_reducible first|refine zep ?hx ?_ ?_|refine zdf ?hx ?_ ?_);(case hx=>exact rfl);(intro hc hF Q q0 q1 q2;conv=>whnf);rotate_left;(intro hc hF);rotate_right)|(revert hF;(with_reducible first|refine zeq ?hx ?_ ?_|refine zdg ?hx ?_ ?_);(case hx=>exact rfl);(intro hc hF);rotate_left;(intro hc hF Q q0 q1 q2;conv=>whnf);rotate_right)))
 | ((with_reducible refine zcG ?_);(first|((refine zd8 rfl ?hy ?_);(case hy=>first|assumption|exact notT (by assumption)|exact rfl))|((refine zd9 rfl ?hy ?_);(case hy=>first|assumption|exact notF (by assumption)|exact rfl))|(revert hF;(with_reducible refine zhi ?hx ?_ ?_);(case hx=>exact rfl);all_goals (intro hc hF))))
 | ((with_reducible refine zcb ?_);(first|((with_reducible refine hR _ ?_);clear R hR)|((with_reducible refine hL _ ?_);clear L hL)))
 | ((with_reducible first|refine zb7 ?_|refine zcD ?_|refine idx2 (by assumption) ?_|refine idx3 (by assumption) ?_);conv=>whnf)
 | (with_reducible first|refine zbR ?_|refine zca ?_|refine zdl ?_|refine zcv ?_|refine zbd (λ R hR=>?_)|refine zbc ?_|refine za5 ?_|refine zgG ?_|refine zbs ?_|refine za6 ?_|refine zbl ?_|refine za3 ?_)
 | ((with_reducible refine zcf [15,8] ?hx ?_);(case hx=>exact rfl))
 | ((with_reducible replace hF:=isE hF);(dsimp only[zjT,zno,zo7,zq1,zjU,f4_7] at hF);first|rewrite[zfJ] at hF|rewrite[zlK] at hF|rewrite[zgt] at hF|rewrite[zlL] at hF)
 | ((with_reducible refine zcE ?_);(with_reducible replace hF:=zhj 1 hF);((refine Lp.cutI hF rfl rfl ?_ ?_) <;> clear hF);(intro hF);rotate_left;(rintro _ hF);rotate_right)
 | ((with_reducible refine zcF ?_);(with_reducible replace hF:=toLp 1 1 hF);exact Lp.headI hF (_,()) ⟨_,rfl,rfl,rfl,rfl⟩ (pr2 (by first|exact rfl|assumption|omega|(simp only[List.length_set];done)) rfl))
 | ((with_reducible refine zcX ?_);(with_reducible replace hF:=toLp 1 2 hF);((refine Lp.loopI hF (_,()) rfl ⟨_,rfl,rfl,rfl,rfl⟩ (pr2 (by first|exact rfl|assumption|omega|(simp only[List.length_set];done)) rfl) (λ _=>rfl) ?_);clear hF);(rintro n ⟨_,_⟩ hF))
 | ((with_reducible refine zcY ?_);(with_reducible replace hF:=toLp 1 2 hF);exact Lp.backI hF (_,()) ⟨_,rfl,rfl,rfl,rfl⟩ (pr2 (by first|exact rfl|assumption|omega|(simp only[List.length_set];done)) rfl))
 | (revert hF;(with_reducible refine G8.step ?hx ?_);(case hx=>exact rfl);intro v hF;conv=>whnf)
 | (revert hF;(with_reducible refine G13.lend ?hx ?_);(case hx=>exact rfl);intro v hF;conv=>whnf)
 | (revert hF;(with_reducible refine G14.lend ?hx ?_);(case hx=>exact rfl);intro v hF;conv=>whnf)
 | (revert hF;(with_reducible refine G15.lend ?hx ?_);(case hx=>exact rfl);intro v hF;conv=>whnf)
 | (revert hF;(with_reducible refine G16.lend ?hx ?_);(case hx=>exact rfl);intro v hF;conv=>whnf)
 | (revert hF;(with_reducible refine G17.lend ?hx ?_);(case hx=>exact rfl);intro v hF;conv=>whnf)
 | (revert hF;(with_reducible refine G18.lend ?hx ?_);(case hx=>exact rfl);intro v hF;conv=>whnf)
 | ((with_reducible refine zkx rfl ?_);conv=>whnf)
 | (revert hF;(with_reducible refine idx1 ?hn ?_);(case hn=>first|exact rfl|exact(List.length_map _)|assumption|omega|simp);intro x hx hF;conv=>whnf)
 | ((with_reducible have hG:=zks hF);clear hF;(first|((refine zjC hG ?hn ?hs (λ q hF=>?_));(case hn=>first|exact rfl|assumption|omega);(case hs=>exact rfl))|((refine zmN (d:=iN) hG ?hs (λ q hF=>?_));(case hs=>exact rfl))|((refine zmO (d:=iN) hG ?ho ?hn ?hs (λ q hF=>?_));(case ho=>exact rfl);(case hn=>exact rfl);(case hs=>exact rfl)));clear hG;conv=>whnf)
 | ((refine zmR ?hn ?_);(case hn=>first|exact rfl|(simp;done)|(simp;omega));conv=>whnf)
 | ((with_reducible refine zen ?_);conv=>whnf)
 | ((with_reducible have hG:=zhh hF);clear hF;(refine⟨?hx, ?_⟩);(case hx=>(first|exact of_decide_eq_true hG.1|exact hG.1));have hF:=hG.2;clear hG;conv=>whnf)
 | ((with_reducible refine zgk ?hx ?_);(case hx=>first|exact rfl|assumption|exact notT (by assumption));conv=>whnf)
 | ((with_reducible refine zgl ?hx ?_);(case hx=>first|exact rfl|assumption|exact notF (by assumption));conv=>whnf)
 | ((refine⟨?hx,trivial⟩);(case hx=>(cases hF;exact rfl)))
 | ((refine⟨?hx, ?_⟩);(case hx=>decide);conv=>whnf)
 | with_reducible refine zeI ?_)

end Go.Vc
namespace Go.Vc
section
variable {α β σ:Type}
theorem zoB {F:Nat->σ->Int->Option β}{k:σ->Option β}(g:σ->Nat->σ)(Inv:Nat->σ->Prop)(len:Nat)
  (hs:∀ n s i,i<len->Inv i s->F (n+1) s (i:Int)=F n (g s i) ((i+1:Nat):Int)) (hi:∀ s i,i<len->Inv i s->Inv (i+1) (g s i)) (he:∀ n s,F (n+1) s (len:Int)=k s) :
  ∀ n i s,i<=len->len-i<n->Inv i s->F n s (i:Int)=k ((List.range' i (len-i)).foldl g s)/\Inv len ((List.range' i (len-i)).foldl g s):=by
 intro n
 induction n with
 | zero=>intro i s _ h;omega
 | succ n ih =>
  intro i s hl hn h0;by_cases h:i=len
  .subst h
   rw[he,Nat.sub_self];exact⟨rfl,h0⟩
  .rw [hs n s i (by omega) h0]
   obtain⟨h1,h2⟩:=ih (i+1) (g s i) (by omega) (by omega) (hi s i (by omega) h0);rw[show len-i=(len-(i+1))+1 by omega,List.range'_succ];exact⟨h1,h2⟩
theorem zc4 {F:Nat->σ->Int->Option β}{k:σ->Option β}(g:σ->Nat->σ)(Inv:Nat->σ->Prop)(len:Nat)
  (hs:∀ n s i,i<len->Inv i s->F (n+1) s (i:Int)=F n (g s i) ((i+1:Nat):Int)) (hi:∀ s i,i<len->Inv i s->Inv (i+1) (g s i)) (he:∀ n s,F (n+1) s (len:Int)=k s)
  {n:Nat} {s:σ} (hn:len<n) (h0:Inv 0 s):F n s 0=k ((List.range len).foldl g s)/\Inv len ((List.range len).foldl g s):=by
 have:=zoB g Inv len hs hi he n 0 s (by omega) (by omega) h0;rw[List.range_eq_range'];simpa using this
end
end Go.Vc
