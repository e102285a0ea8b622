/-
  A library for proofs about Go functions by symbolic evaluation,and plain Lean functions that the walked Go functions compute (written by a program of this claim).
-/
import Derived.Test.YtijmkjnlgcockaaGreatDoorFLNF1
import Derived.Test.YtijmkjnlgcockaaGreatDoorFLNF2
import Derived.Test.YtijmkjnlgcockaaGreatDoorFLNF3
set_option linter.unusedVariables false
set_option linter.unnecessarySimpa false
set_option linter.unusedSimpArgs false
namespace Go.Vc
open Go.Proofs
set_option maxRecDepth 20000 in
set_option maxHeartbeats 4000000 in
theorem Q34 (N:Nat):CallOK Tryz.prog 34 (effPg zrb (H34 N)):=by
 induction N with
 | zero=>exact zaP λ x y h=>(by cases (show (none:Option (Tally×Int))=some y from h))
 | succ N ih =>
  refine zaA (c:=zan zae [(34,true,effPg zrb (H34 N)),(62,false,zbC (zan zae [(53,false,zbC (zan zae []) Tryz.f53),(61,true,lendPg [[0]] G61)]) Tryz.f62),(64,true,lendPg [[0,0,1,0,0,0,0,0,0],[0]] G64)]) rfl tyOK (zak (za Tryz.func34 rfl rfl) ih (zaG (za Tryz.func62 rfl rfl) (CallOK.inl rfl tyOK (zaG (za Tryz.func53 rfl rfl) (CallOK.inl rfl tyOK (zac) Tryz.func53 (by kernel_rfl)) (zaj (za Tryz.func61 rfl rfl) P61 (zac))) Tryz.func62 (by kernel_rfl)) (zaj (za Tryz.func64 rfl rfl) P64 (zac)))) 1000 Srf34 zxx Tryz.func34 rfl rfl (by kernel_rfl) rfl rfl rfl rfl rfl rfl rfl rfl (λ _=>rfl) (λ _=>rfl) (λ _ _=>⟨rfl,rfl⟩) ?_;rintro⟨s0,s1,s2,s3,s4⟩ y hF;have hF:f34b (f34 N) N s0 s1 s2 s3 s4=some y:=hF;show vc _ _ _ _ ⟨[(0, .ptr 0 0),(1, .dat (strN s0))],[(0, .box [.ptr 1 0, .rs 2 (List.length s1)]),(1, .box [.mp 3, .mp 4, .mp 5]),(2,(rW s1)),(3,(sW [4] s2)),(4,(eW s3)),(5,(mW s4))]⟩ _;unfold f34b at hF;exact wk4
theorem P34:CallOK Tryz.prog 34 (effPg zrb G34):=zbv Q34

set_option maxRecDepth 20000 in
set_option maxHeartbeats 4000000 in
theorem Q36 (N:Nat):CallOK Tryz.prog 36 (effPg zrc (H36 N)):=by
 induction N with
 | zero=>exact zaP λ x y h=>(by cases (show (none:Option (Int×Int))=some y from h))
 | succ N ih =>
  refine zaA (c:=zan zae [(36,true,effPg zrc (H36 N)),(62,false,zbC (zan zae [(53,false,zbC (zan zae []) Tryz.f53),(61,true,lendPg [[0]] G61)]) Tryz.f62),(53,false,zbC (zan zae []) Tryz.f53),(61,true,lendPg [[0]] G61)]) rfl tyOK (zak (za Tryz.func36 rfl rfl) ih (zaG (za Tryz.func62 rfl rfl) (CallOK.inl rfl tyOK (zaG (za Tryz.func53 rfl rfl) (CallOK.inl rfl tyOK (zac) Tryz.func53 (by kernel_rfl)) (zaj (za Tryz.func61 rfl rfl) P61 (zac))) Tryz.func62 (by kernel_rfl)) (zaG (za Tryz.func53 rfl rfl) (CallOK.inl rfl tyOK (zac) Tryz.func53 (by kernel_rfl)) (zaj (za Tryz.func61 rfl rfl) P61 (zac))))) 1000 Srf36 zxy Tryz.func36 rfl rfl (by kernel_rfl) rfl rfl rfl rfl rfl rfl rfl rfl (λ _=>rfl) (λ _=>rfl) (λ _ _=>⟨rfl,rfl⟩) ?_;rintro⟨s0,s1,s2,s3,s4,s5⟩ y hF;have hF:f36b (f36 N) N s0 s1 s2 s3 s4 s5=some y:=hF;show vc _ _ _ _ ⟨[(0, .ptr 0 0),(1, .dat (strN s0)),(2, .dat (strN s1))],[(0, .box [.ptr 1 0, .rs 2 (List.length s2)]),(1, .box [.mp 3, .mp 4, .mp 5]),(2,(rW s2)),(3,(sW [4] s3)),(4,(eW s4)),(5,(mW s5))]⟩ _;unfold f36b at hF;exact wk4
theorem P36:CallOK Tryz.prog 36 (effPg zrc G36):=zbv Q36

set_option maxRecDepth 20000 in
set_option maxHeartbeats 4000000 in
theorem Q40 (N:Nat):CallOK Tryz.prog 40 (effPg zrd (H40 N)):=by
 induction N with
 | zero=>exact zaP λ x y h=>(by cases (show (none:Option (Int×Int))=some y from h))
 | succ N ih =>
  refine zaA (c:=zan zae [(40,true,effPg zrd (H40 N)),(62,false,zbC (zan zae [(53,false,zbC (zan zae []) Tryz.f53),(61,true,lendPg [[0]] G61)]) Tryz.f62),(64,true,lendPg [[0,0,1,0,0,0,0,0,0],[0]] G64)]) rfl tyOK (zak (za Tryz.func40 rfl rfl) ih (zaG (za Tryz.func62 rfl rfl) (CallOK.inl rfl tyOK (zaG (za Tryz.func53 rfl rfl) (CallOK.inl rfl tyOK (zac) Tryz.func53 (by kernel_rfl)) (zaj (za Tryz.func61 rfl rfl) P61 (zac))) Tryz.func62 (by kernel_rfl)) (zaj (za Tryz.func64 rfl rfl) P64 (zac)))) 1000 Srf40 zxz Tryz.func40 rfl rfl (by kernel_rfl) rfl rfl rfl rfl rfl rfl rfl rfl (λ _=>rfl) (λ _=>rfl) (λ _ _=>⟨rfl,rfl⟩) ?_;rintro⟨s0,s1,s2,s3,s4⟩ y hF;have hF:f40b (f40 N) N s0 s1 s2 s3 s4=some y:=hF;show vc _ _ _ _ ⟨[(0, .ptr 0 0),(1, .dat (strN s0))],[(0, .box [.ptr 1 0, .rs 2 (List.length s1)]),(1, .box [.mp 3, .mp 4, .mp 5]),(2,(rW s1)),(3,(sW [4] s2)),(4,(eW s3)),(5,(mW s4))]⟩ _;unfold f40b at hF;exact wk4
theorem P40:CallOK Tryz.prog 40 (effPg zrd G40):=zbv Q40

set_option maxRecDepth 20000 in
set_option maxHeartbeats 4000000 in
theorem P24:PureOK Tryz.prog 24 G24:=by
 refine zad (c:=zan zae [(59,true,lendPg [[0]] G59),(55,true,lendPg [[0,1]] G55),(30,true,lendPg [[0]] G30)]) rfl tyOK (zaj (za Tryz.func59 rfl rfl) P59 (zaj (za Tryz.func55 rfl rfl) P55 (zaj (za Tryz.func30 rfl rfl) P30 (zac)))) [[0]] 1 Tryz.func24 rfl rfl (by decide) (by kernel_rfl) ?_;rintro ds d ⟨N,a0,r,rfl,hF,rfl⟩ hok;clear hok;refine⟨rfl, ?_⟩;show vc _ _ _ _ ⟨[(0, .ep [bN a0.made,zaq a0.lines])],[]⟩ _;unfold f24 at hF;exact wk5

set_option maxRecDepth 20000 in
set_option maxHeartbeats 4000000 in
theorem P80:PureOK Tryz.prog 80 G80:=by
 refine zad (c:=zan zae [(111,true,lendPg [[0]] G111),(110,true,lendPg [[0]] G110),(109,true,zcJ [[0]] G109),(89,true,lendPg [[0]] G89),(71,true,lendPg [[0],[0],[0]] G71)]) rfl tyOK (zaj (za Tryz.func111 rfl rfl) P111 (zaj (za Tryz.func110 rfl rfl) P110 (zbP (za Tryz.func109 rfl rfl) P109 (zaj (za Tryz.func89 rfl rfl) P89 (zaj (za Tryz.func71 rfl rfl) P71 (zac)))))) [[0,1,1],[0]] 1 Tryz.func80 rfl rfl (by decide) (by kernel_rfl) ?_;rintro ds d ⟨N,a0,r,rfl,hF,rfl⟩ hok;clear hok;refine⟨rfl, ?_⟩;show vc _ _ _ _ ⟨[(0, .dat (strN a0))],[]⟩ _;unfold f80 at hF;exact wk11

set_option maxRecDepth 20000 in
set_option maxHeartbeats 4000000 in
theorem P113:PureOK Tryz.prog 113 G113:=by
 refine zad (c:=zan zae [(126,true,lendPg [[4,7,4],[0]] G126),(112,true,lendPg [[4,7,4],[0]] G112),(94,true,lendPg [[0,0,1,0,0,0,0],[0]] G94),(91,true,lendPg [[4,7,4],[0]] G91)]) rfl tyOK (zaj (za Tryz.func126 rfl rfl) P126 (zaj (za Tryz.func112 rfl rfl) P112 (zaj (za Tryz.func94 rfl rfl) P94 (zaj (za Tryz.func91 rfl rfl) P91 (zac))))) [[0]] 2 Tryz.func113 rfl rfl (by decide) (by kernel_rfl) ?_;rintro ds d ⟨N,a0,a1,r,rfl,hF,rfl⟩ hok;clear hok;refine⟨rfl, ?_⟩;show vc _ _ _ _ ⟨[(0, .dat (StateS.d a0)),(1, .dat (Order.d a1))],[]⟩ _;unfold f113 at hF;exact wk3

set_option maxRecDepth 20000 in
set_option maxHeartbeats 4000000 in
theorem P114:PureOK Tryz.prog 114 G114:=by
 refine zad (c:=zan zae [(139,true,lendPg [[4,7,4],[0]] G139),(126,true,lendPg [[4,7,4],[0]] G126),(112,true,lendPg [[4,7,4],[0]] G112),(95,true,lendPg [[4,7,4],[0],[0]] G95),(94,true,lendPg [[0,0,1,0,0,0,0],[0]] G94)]) rfl tyOK (zaj (za Tryz.func139 rfl rfl) P139 (zaj (za Tryz.func126 rfl rfl) P126 (zaj (za Tryz.func112 rfl rfl) P112 (zaj (za Tryz.func95 rfl rfl) P95 (zaj (za Tryz.func94 rfl rfl) P94 (zac)))))) [[0]] 2 Tryz.func114 rfl rfl (by decide) (by kernel_rfl) ?_;rintro ds d ⟨N,a0,a1,r,rfl,hF,rfl⟩ hok;clear hok;refine⟨rfl, ?_⟩;show vc _ _ _ _ ⟨[(0, .dat (StateS.d a0)),(1, .dat (Order.d a1))],[]⟩ _;unfold f114 at hF;exact wk3

set_option maxRecDepth 20000 in
set_option maxHeartbeats 4000000 in
theorem P79:PureOK Tryz.prog 79 G79:=by
 refine zad (c:=zan zae [(106,false,zbC (zan zae [(138,false,zbC (zan zae [(107,true,lendPg [[0]] G107)]) Tryz.f138)]) Tryz.f106),(108,true,zcJ [[1],[0,0]] G108),(105,true,lendPg [[0]] G105),(104,true,zcJ [[0]] G104)]) rfl tyOK (zaG (za Tryz.func106 rfl rfl) (CallOK.inl rfl tyOK (zaG (za Tryz.func138 rfl rfl) (CallOK.inl rfl tyOK (zaj (za Tryz.func107 rfl rfl) P107 (zac)) Tryz.func138 (by kernel_rfl)) (zac)) Tryz.func106 (by kernel_rfl)) (zbP (za Tryz.func108 rfl rfl) P108 (zaj (za Tryz.func105 rfl rfl) P105 (zbP (za Tryz.func104 rfl rfl) P104 (zac))))) [[0],[0]] 1 Tryz.func79 rfl rfl (by decide) (by kernel_rfl) ?_;rintro ds d ⟨N,a0,r,rfl,hF,rfl⟩ hok;clear hok;refine⟨rfl, ?_⟩;show vc _ _ _ _ ⟨[(0, .dat (strN a0))],[]⟩ _;unfold f79 at hF
 repeat' (first
 | ((with_reducible first|refine q0 _ _ ?_|refine q1 _ _ _ _ ?_|refine q2 _ _ _ ?_);clear Q q0 q1 q2)
 | ((with_reducible first|refine zcW ?hx (λ Q q0 q1 q2=>?_)|refine zdm ?hx (λ Q q0 q1 q2=>?_));(case hx=>exact rfl);conv=>whnf)
 | ((with_reducible first|refine zd6 ?hx ?_|refine zc5 ?hx ?_|refine zcB ?hx ?_|refine zc4 ?hx ?_);(case hx=>exact rfl))
 | ((with_reducible refine zeb ?_);(first|((first|refine zec rfl ?hy (λ Q q0 q1 q2=>?_)|refine zdd rfl ?hy (λ Q q0 q1 q2=>?_));(case hy=>first|assumption|exact notT (by assumption)|exact rfl);conv=>whnf)|((first|refine zdc rfl ?hy ?_|refine zcE rfl ?hy ?_);(case hy=>first|assumption|exact notF (by assumption)|exact rfl))|(revert hF;(with_reducible first|refine zed ?hx ?_ ?_|refine zde ?hx ?_ ?_);(case hx=>exact rfl);(intro hc hF Q q0 q1 q2;conv=>whnf);rotate_left;(intro hc hF);rotate_right)|(revert hF;(with_reducible first|refine zee ?hx ?_ ?_|refine zdf ?hx ?_ ?_);(case hx=>exact rfl);(intro hc hF);rotate_left;(intro hc hF Q q0 q1 q2;conv=>whnf);rotate_right)))
 | ((with_reducible refine zct ?_);(first|((refine zdD rfl ?hy ?_);(case hy=>first|assumption|exact notT (by assumption)|exact rfl))|((refine zdE rfl ?hy ?_);(case hy=>first|assumption|exact notF (by assumption)|exact rfl))|(revert hF;(with_reducible refine zgf ?hx ?_ ?_);(case hx=>exact rfl);all_goals (intro hc hF))))
 | ((with_reducible refine zb1 ?_);(first|((with_reducible refine hR _ ?_);clear R hR)|((with_reducible refine hL _ ?_);clear L hL)))
 | ((with_reducible first|refine zbQ ?_|refine zcj ?_|refine idx2 (by assumption) ?_|refine idx3 (by assumption) ?_);conv=>whnf)
 | (with_reducible first|refine zbI ?_|refine zb0 ?_|refine zcU ?_|refine zce ?_|refine zbh (λ R hR=>?_)|refine zbg ?_|refine za7 ?_|refine zf5 ?_|refine zbw ?_|refine zbe ?_|refine zca ?_|refine zbJ ?_)
 | ((with_reducible refine zb7 [47,41,35,3305000103000000007,33,23] ?hx ?_);(case hx=>exact rfl))
 | ((with_reducible replace hF:=isE hF);(dsimp only[zj0,zrh,zj1,zj2,zbt,zcb,zj3,zri,zj4,zdF,zat,zeq] at hF);first|((with_reducible replace hF:=chkE (e:=zeo ..) hF);rewrite[zeo] at hF)|((with_reducible replace hF:=chkE (e:=zep ..) hF);rewrite[zep] at hF)|((with_reducible replace hF:=chkE (e:=zaz ..) hF);rewrite[zaz] at hF)|rewrite[zgj] at hF|rewrite[zdW] at hF|rewrite[zaN] at hF|rewrite[zfn] at hF|rewrite[zgk] at hF|rewrite[zc1] at hF)
 | ((with_reducible refine zb8 ?_);(with_reducible replace hF:=zds 0 hF);((refine Lp.cutI hF rfl rfl ?_ ?_) <;> clear hF);(intro hF);rotate_left;(rintro _ hF);rotate_right)
 | ((with_reducible refine zb9 ?_);(with_reducible replace hF:=toLp 0 0 hF);exact Lp.headI hF () ⟨_,rfl,rfl,rfl,rfl⟩ rfl)
 | ((with_reducible refine zdR ?_);(with_reducible replace hF:=toLp 0 1 hF);((refine Lp.loopI hF () rfl ⟨_,rfl,rfl,rfl,rfl⟩ rfl (λ _=>rfl) ?_);clear hF);(rintro n _ hF))
 | ((with_reducible refine zdS ?_);(with_reducible replace hF:=toLp 0 1 hF);exact Lp.backI hF () ⟨_,rfl,rfl,rfl,rfl⟩ rfl)
 | ((with_reducible refine zb8 ?_);(with_reducible replace hF:=zds 2 hF);((refine Lp.cutI hF rfl rfl ?_ ?_) <;> clear hF);(intro hF);rotate_left;(rintro⟨_,_⟩ hF);rotate_right)
 | ((with_reducible refine zb9 ?_);(with_reducible replace hF:=toLp 0 2 hF);exact Lp.headI hF () ⟨_,rfl,rfl,rfl,rfl⟩ rfl)
 | ((with_reducible refine zb8 ?_);(with_reducible replace hF:=zds 1 hF);((refine Lp.cutI hF rfl rfl ?_ ?_) <;> clear hF);(intro hF);rotate_left;(rintro _ hF);rotate_right)
 | ((with_reducible refine zb9 ?_);(with_reducible replace hF:=toLp 0 1 hF);exact Lp.headI hF () ⟨_,rfl,rfl,rfl,rfl⟩ rfl)
 | ((with_reducible refine zdR ?_);(with_reducible replace hF:=toLp 0 2 hF);((refine Lp.loopI hF () rfl ⟨_,rfl,rfl,rfl,rfl⟩ rfl (λ _=>rfl) ?_);clear hF);(rintro n ⟨_,_⟩ hF))
 | ((with_reducible refine zdS ?_);(with_reducible replace hF:=toLp 0 2 hF);exact Lp.backI hF () ⟨_,rfl,rfl,rfl,rfl⟩ rfl)
 | (revert hF;(with_reducible refine G104.step ?hx ?_);(case hx=>exact rfl);intro v hF;conv=>whnf)
 | (revert hF;(with_reducible refine G105.lend ?hx ?_);(case hx=>exact rfl);intro v hF;conv=>whnf)
 | (revert hF;(with_reducible refine G107.lend ?hx ?_);(case hx=>exact rfl);intro v hF;conv=>whnf)
 | (revert hF;(with_reducible refine G108.step ?hx ?_);(case hx=>exact rfl);intro v hF;conv=>whnf)
 | ((with_reducible refine Or.inr ?_);(conv=>whnf);(with_reducible refine ztP (.int .i64 0) ?hg ?_);(case hg=>exact rfl);(with_reducible refine zix (List.map iN (List.replicate 2 (0:Int))) ?hx ?_);(case hx=>(unfold zko;kernel_rfl));conv=>whnf)
 | ((with_reducible have hI:=zwb hF);clear hI;revert hF;(refine zsN (by decide) ?_);intro hF;conv=>whnf)
 | (revert hF;(refine A2iN.of_step ?_);intro x hF;conv=>whnf)
 | ((with_reducible refine zql hF ?_);(clear hF;intro hF;conv=>whnf))
 | ((with_reducible have hG:=znG hF);clear hF;(first|(refine zqm hG (by(try simp only[W]);omega) (λ x hF=>?_))|(refine zqn hG (λ _=>rfl) (by(try simp only[W]);omega) (λ x hF=>?_)));clear hG;conv=>whnf)
 | ((with_reducible have hG:=zl hF);clear hF;(first|(refine znH hG (by(try simp only[W]);omega) rfl rfl (λ q hF=>?_))|(refine znI hG (λ _=>rfl) (by(try simp only[W]);omega) rfl rfl (λ q hF=>?_)));clear hG;conv=>whnf)
 | (revert hF;(with_reducible refine idx1 ?hn ?_);(case hn=>first|exact rfl|exact(List.length_map _)|assumption|omega|simp);intro x hx hF;conv=>whnf)
 | ((with_reducible have hG:=zfJ hF);clear hF;(refine zgN hG (λ q hF=>?_));clear hG;conv=>whnf)
 | ((with_reducible refine zea ?_);conv=>whnf)
 | ((with_reducible refine zgu ?hx ?_);(case hx=>first|exact rfl|assumption|exact notT (by assumption));conv=>whnf)
 | ((with_reducible refine zeX ?hx ?_);(case hx=>first|exact rfl|assumption|exact notF (by assumption));conv=>whnf)
 | ((refine zay 3304 3305000000 rfl rfl (zyt rfl) rfl (λ R hR=>?_));(conv=>whnf);(with_reducible refine hR _ ?ha ?_);(case ha=>exact rfl);clear R hR)
 | ((refine zay 3305000102 3305000103000000 rfl rfl (zyt rfl) rfl (λ R hR=>?_));(conv=>whnf);(with_reducible refine hR _ ?ha ?_);(case ha=>exact rfl);clear R hR)
 | (show Kinl _ _ _ _ _ _ _;conv=>whnf)
 | ((with_reducible refine zcD ?ha ?hb ?_);(case ha=>exact rfl);(case hb=>exact rfl);conv=>whnf)
 | ((refine⟨?hx,trivial⟩);(case hx=>(cases hF;exact rfl)))
 | with_reducible refine zd5 ?_
 | ((rename I97=>xi);cases xi <;> ((try dsimp only at hF);(try (conv=>whnf)))))

set_option maxRecDepth 20000 in
set_option maxHeartbeats 4000000 in
theorem P146:PureOK Tryz.prog 146 G146:=by
 refine zad (c:=zan zae [(158,true,lendPg [[1],[1]] G158),(132,true,lendPg [[1],[0],[1]] G132)]) rfl tyOK (zaj (za Tryz.func158 rfl rfl) P158 (zaj (za Tryz.func132 rfl rfl) P132 (zac))) [[0],[0]] 2 Tryz.func146 rfl rfl (by decide) (by kernel_rfl) ?_;rintro ds d ⟨N,a0,a1,r,rfl,hF,rfl⟩ hok;clear hok;refine⟨rfl, ?_⟩;show vc _ _ _ _ ⟨[(0, .dat (zav a0)),(1, .dat (za8 a1))],[]⟩ _;unfold f146 at hF;exact wk8

set_option maxRecDepth 20000 in
set_option maxHeartbeats 4000000 in
theorem P90:PureOK Tryz.prog 90 G90:=by
 refine zad (c:=zan zae [(125,false,zbC (zan zae [(112,true,lendPg [[4,7,4],[0]] G112),(95,true,lendPg [[4,7,4],[0],[0]] G95),(91,true,lendPg [[4,7,4],[0]] G91)]) Tryz.f125),(80,true,zcJ [[0]] G80)]) rfl tyOK (zaG (za Tryz.func125 rfl rfl) (CallOK.inl rfl tyOK (zaj (za Tryz.func112 rfl rfl) P112 (zaj (za Tryz.func95 rfl rfl) P95 (zaj (za Tryz.func91 rfl rfl) P91 (zac)))) Tryz.func125 (by kernel_rfl)) (zbP (za Tryz.func80 rfl rfl) P80 (zac))) [[4,7,4]] 1 Tryz.func90 rfl rfl (by decide) (by kernel_rfl) ?_;rintro ds d ⟨N,a0,r,rfl,hF,rfl⟩ hok;clear hok;refine⟨rfl, ?_⟩;show vc _ _ _ _ ⟨[(0, .dat (zaq a0))],[]⟩ _;unfold f90 at hF
 repeat' (first
 | ((with_reducible first|refine q0 _ _ ?_|refine q1 _ _ _ _ ?_|refine q2 _ _ _ ?_);clear Q q0 q1 q2)
 | ((with_reducible first|refine zcW ?hx (λ Q q0 q1 q2=>?_)|refine zcX ?hx (λ Q q0 q1 q2=>?_)|refine zdm ?hx (λ Q q0 q1 q2=>?_)|refine zex ?hx (λ Q q0 q1 q2=>?_));(case hx=>exact rfl);conv=>whnf)
 | ((with_reducible refine zct ?_);(first|((refine zdD rfl ?hy ?_);(case hy=>first|assumption|exact notT (by assumption)|exact rfl))|((refine zdE rfl ?hy ?_);(case hy=>first|assumption|exact notF (by assumption)|exact rfl))|(revert hF;(with_reducible refine zgf ?hx ?_ ?_);(case hx=>exact rfl);all_goals (intro hc hF))))
 | ((with_reducible refine zaH ?_);(with_reducible have hG:=zbL hF);(refine zeh 90540 603001115 hG rfl rfl (by assumption) (by exact rfl) (by first|exact rfl|assumption|(symm;assumption)|omega) (by exact rfl) (λ q hq hF1=>?_));clear hG hF;(have hF:=hF1);clear hF1;(first|((with_reducible refine hR _ ?_);clear R hR)|((with_reducible refine hL _ ?_);clear L hL)))
 | ((with_reducible refine zaH ?_);(with_reducible have hG:=zbL hF);(refine zeh 90540 603001505 hG rfl rfl (by assumption) (by exact rfl) (by first|exact rfl|assumption|(symm;assumption)|omega) (by exact rfl) (λ q hq hF1=>?_));clear hG hF;(have hF:=hF1);clear hF1;(first|((with_reducible refine hR _ ?_);clear R hR)|((with_reducible refine hL _ ?_);clear L hL)))
 | ((with_reducible refine zaH ?_);(with_reducible have hG:=zbL hF);(refine zeh 90540 603001905 hG rfl rfl (by assumption) (by exact rfl) (by first|exact rfl|assumption|(symm;assumption)|omega) (by exact rfl) (λ q hq hF1=>?_));clear hG hF;(have hF:=hF1);clear hF1;(first|((with_reducible refine hR _ ?_);clear R hR)|((with_reducible refine hL _ ?_);clear L hL)))
 | ((with_reducible refine zaH ?_);(with_reducible have hG:=zbL hF);(refine zeh 90540 603002005 hG rfl rfl (by assumption) (by exact rfl) (by first|exact rfl|assumption|(symm;assumption)|omega) (by exact rfl) (λ q hq hF1=>?_));clear hG hF;(have hF:=hF1);clear hF1;(first|((with_reducible refine hR _ ?_);clear R hR)|((with_reducible refine hL _ ?_);clear L hL)))
 | ((with_reducible refine zaH ?_);(with_reducible have hG:=zbL hF);(refine zeh 90540 603003399 hG rfl rfl (by assumption) (by exact rfl) (by first|exact rfl|assumption|(symm;assumption)|omega) (by exact rfl) (λ q hq hF1=>?_));clear hG hF;(have hF:=hF1);clear hF1;(first|((with_reducible refine hR _ ?_);clear R hR)|((with_reducible refine hL _ ?_);clear L hL)))
 | ((with_reducible refine ztE ?_);(refine ztS 603001299 rfl ?_);(with_reducible have hG:=zqJ hF);clear hF;(obtain⟨x,hx,hF⟩:=hG);(refine zwf 90540 603001299 2 rfl rfl hx (by exact rfl) rfl rfl (λ R L hL hR=>?_));dsimp only[St.takenS])
 | ((with_reducible refine ztE ?_);(refine ztS 603003399 rfl ?_);(with_reducible have hG:=zqJ hF);clear hF;(obtain⟨x,hx,hF⟩:=hG);(refine zwf 90540 603003399 2 rfl rfl hx (by exact rfl) rfl rfl (λ R L hL hR=>?_));dsimp only[St.takenS])
 | ((with_reducible refine zb1 ?_);(first|((with_reducible refine hR _ ?_);clear R hR)|((with_reducible refine hL _ ?_);clear L hL)))
 | ((with_reducible refine zcf ?_);(with_reducible refine hR _ _ ?hx ?_);(case hx=>kernel_rfl);clear R hR)
 | ((with_reducible first|refine zbQ ?_|refine zcj ?_|refine idx2 (by assumption) ?_|refine idx3 (by assumption) ?_);conv=>whnf)
 | (with_reducible first|refine zbI ?_|refine zb0 ?_|refine zcU ?_|refine zce ?_|refine zbh (λ R hR=>?_)|refine zbg ?_|refine za7 ?_|refine zf5 ?_|refine zbw ?_|refine zbe ?_|refine zca ?_|refine zbJ ?_)
 | ((with_reducible refine zb7 [7,603000000029,603000000005] ?hx ?_);(case hx=>exact rfl))
 | ((with_reducible refine zcV ?hx (λ R L hL hR=>?_));(case hx=>exact rfl))
 | ((with_reducible replace hF:=isE hF);(dsimp only[zm4,zdX,zer,zua,zfW] at hF);first|rewrite[zhR] at hF|rewrite[zbD] at hF|rewrite[zaT] at hF|rewrite[ziP] at hF)
 | ((with_reducible refine zb8 ?_);(with_reducible replace hF:=zds 3 hF);((refine Lp.cutI hF rfl rfl ?_ ?_) <;> clear hF);(intro hF);rotate_left;(rintro⟨_,_,_⟩ hF);rotate_right)
 | ((with_reducible refine zb9 ?_);(with_reducible replace hF:=toLp 3 3 hF);exact Lp.headI hF (_,_,_) ⟨_,rfl,rfl,rfl,rfl⟩ (pr2 (by first|exact rfl|assumption|omega|(simp only[List.length_set];done)) (pr2 (by first|exact rfl|assumption|omega|(simp only[List.length_set];done)) (by first|exact rfl|assumption|omega|(simp only[List.length_set];done)))))
 | ((with_reducible refine zb8 ?_);(with_reducible replace hF:=zds 2 hF);((refine Lp.cutI hF rfl rfl ?_ ?_) <;> clear hF);(intro hF);rotate_left;(rintro⟨_,_⟩ hF);rotate_right)
 | ((with_reducible refine zb9 ?_);(with_reducible replace hF:=toLp 5 2 hF);exact Lp.headI hF (_,_,_,_,_) ⟨_,rfl,rfl,rfl,rfl⟩ (pr2 (by first|exact rfl|assumption|omega|(simp only[List.length_set];done)) (pr2 (by first|exact rfl|assumption|omega|(simp only[List.length_set];done)) (pr2 (by first|exact rfl|assumption|omega|(simp only[List.length_set];done)) (pr2 (by first|exact rfl|assumption|omega|(simp only[List.length_set];done)) (by first|exact rfl|assumption|omega|(simp only[List.length_set];done)))))))
 | ((with_reducible refine zb8 ?_);(with_reducible replace hF:=zds 1 hF);((refine Lp.cutI hF rfl rfl ?_ ?_) <;> clear hF);(intro hF);rotate_left;(rintro _ hF);rotate_right)
 | ((with_reducible refine zb9 ?_);(with_reducible replace hF:=toLp 6 1 hF);exact Lp.headI hF (_,_,_,_,_,_) ⟨_,rfl,rfl,rfl,rfl⟩ (pr2 (by first|exact rfl|assumption|omega|(simp only[List.length_set];done)) (pr2 (by first|exact rfl|assumption|omega|(simp only[List.length_set];done)) (pr2 (by first|exact rfl|assumption|omega|(simp only[List.length_set];done)) (pr2 (by first|exact rfl|assumption|omega|(simp only[List.length_set];done)) (pr2 (by first|exact rfl|assumption|omega|(simp only[List.length_set];done)) (by first|exact rfl|assumption|omega|(simp only[List.length_set];done))))))))
 | ((with_reducible refine zdR ?_);(with_reducible replace hF:=toLp 3 4 hF);((refine Lp.loopI hF (_,_,_) rfl ⟨_,rfl,rfl,rfl,rfl⟩ (pr2 (by first|exact rfl|assumption|omega|(simp only[List.length_set];done)) (pr2 (by first|exact rfl|assumption|omega|(simp only[List.length_set];done)) (by first|exact rfl|assumption|omega|(simp only[List.length_set];done)))) (λ _=>rfl) ?_);clear hF);(rintro n ⟨_,_,_,_⟩ hF))
 | ((with_reducible refine zdS ?_);(with_reducible replace hF:=toLp 3 4 hF);exact Lp.backI hF (_,_,_) ⟨_,rfl,rfl,rfl,rfl⟩ (pr2 (by first|exact rfl|assumption|omega|(simp only[List.length_set];done)) (pr2 (by first|exact rfl|assumption|omega|(simp only[List.length_set];done)) (by first|exact rfl|assumption|omega|(simp only[List.length_set];done)))))
 | (revert hF;(with_reducible refine G80.step ?hx ?_);(case hx=>exact rfl);intro v hF;conv=>whnf)
 | (revert hF;(with_reducible refine G91.lend ?hx ?_);(case hx=>exact rfl);intro v hF;conv=>whnf)
 | (revert hF;(with_reducible refine G95.lend ?hx ?_);(case hx=>exact rfl);intro v hF;conv=>whnf)
 | (revert hF;(with_reducible refine G112.lend ?hx ?_);(case hx=>exact rfl);intro v hF;conv=>whnf)
 | ((with_reducible refine isSn ?_);(refine zqI (μ:=Edition.mc) (by assumption) (by exact rfl) ?_);conv=>whnf)
 | ((with_reducible refine isSnS ?_);(with_reducible have hG:=zbL hF);clear hF;(refine ziB (μ:=Edition.mc) hG (by assumption) (by exact rfl) (λ q hl hF=>?_));clear hG;conv=>whnf)
 | ((with_reducible refine zwc ?_);(with_reducible have hG:=zbL hF);clear hF;(refine ziC (μ:=Edition.mc) (δ:=iN) hG (by assumption) ?hn ?ho (by exact rfl) (λ q hl hF=>?_));(case hn=>first|exact rfl|assumption|omega);(case ho=>(rintro p h;first|(cases h;done)|(cases h;exact⟨rfl,rfl⟩)));clear hG;conv=>whnf)
 | ((refine ztU (μ:=Edition.mc) (δ:=Edition.d) (λ _=>rfl) (.inl rfl) ?hn ?_);(case hn=>first|exact rfl|assumption|omega);conv=>whnf)
 | ((with_reducible refine zwd ?_);(refine⟨⟨rfl,rfl⟩, ?_⟩);(conv=>whnf);(refine zqA (by first|exact rfl|assumption|(symm;assumption)|omega) ?_);conv=>whnf)
 | ((with_reducible refine isEx ?_);(refine⟨[.d default, .d default, .r 3 1 [], .d default, .d default, .d default, .d default],rfl, ?_⟩);(conv=>whnf);(refine⟨⟨by decide,rfl⟩, ?_⟩);conv=>whnf)
 | ((with_reducible refine zsO ?hn ?_);(case hn=>exact rfl);conv=>whnf)
 | ((with_reducible have hG:=zcO hF);(first|refine zo4 (μ:=Edition.mc) hG ?ho ?hn ?hs (λ q hF1=>?_)|refine zmP (μ:=Edition.mc) hG ?hs (λ q hF1=>?_));(try (case ho=>exact rfl));(try (case hn=>first|exact rfl|assumption|omega));(case hs=>exact rfl);clear hG hF;(have hF:=hF1);clear hF1;conv=>whnf)
 | ((with_reducible have hG:=zqj hF);have hk:=hG.1;have hF:=hG.2;clear hG)
 | (revert hF;(with_reducible refine idx1 ?hn ?_);(case hn=>first|exact rfl|exact(List.length_map _)|assumption|omega|simp);intro x hx hF;conv=>whnf)
 | ((with_reducible have hG:=zcO hF);clear hF;(first|((refine zdQ hG ?hn ?hs (λ q hF=>?_));(case hn=>first|exact rfl|assumption|omega);(case hs=>exact rfl))|((refine zdq (d:=ClaimS.d) hG ?hs (λ q hF=>?_));(case hs=>exact rfl))|((refine zdr (d:=ClaimS.d) hG ?ho ?hn ?hs (λ q hF=>?_));(case ho=>exact rfl);(case hn=>exact rfl);(case hs=>exact rfl))| ((refine zdq (d:=Stone.d) hG ?hs (λ q hF=>?_));(case hs=>exact rfl))|((refine zdr (d:=Stone.d) hG ?ho ?hn ?hs (λ q hF=>?_));(case ho=>exact rfl);(case hn=>exact rfl);(case hs=>exact rfl))| ((refine zdq (d:=iN) hG ?hs (λ q hF=>?_));(case hs=>exact rfl))|((refine zdr (d:=iN) hG ?ho ?hn ?hs (λ q hF=>?_));(case ho=>exact rfl);(case hn=>exact rfl);(case hs=>exact rfl)));clear hG;conv=>whnf)
 | ((refine zfe ?hn ?_);(case hn=>first|exact rfl|(simp;done)|(simp;omega));conv=>whnf)
 | ((with_reducible refine zjs ?hn ?_);(case hn=>first|exact rfl|assumption|omega);conv=>whnf)
 | ((with_reducible have hG:=zbL hF);clear hF;(refine zhm hG ?hs (λ q hl hF=>?_));(case hs=>exact rfl);clear hG;conv=>whnf)
 | ((refine⟨?hx, ?_⟩);(case hx=>exact⟨rfl,zyt rfl,rfl⟩);conv=>whnf)
 | ((with_reducible refine zea ?_);conv=>whnf)
 | ((refine zay 602 zyD rfl rfl (zyt rfl) rfl (λ R hR=>?_));(conv=>whnf);(with_reducible refine hR _ ?ha ?_);(case ha=>exact rfl);clear R hR)
 | (show Kinl _ _ _ _ _ _ _;conv=>whnf)
 | ((with_reducible refine zcD ?ha ?hb ?_);(case ha=>exact rfl);(case hb=>exact rfl);conv=>whnf)
 | ((refine⟨?hx,trivial⟩);(case hx=>(cases hF;exact rfl)))
 | with_reducible refine zd5 ?_)

set_option maxRecDepth 20000 in
set_option maxHeartbeats 4000000 in
theorem Q51 (N:Nat):CallOK Tryz.prog 51 (effPg zo7 (H51 N)):=by
 induction N with
 | zero=>exact zaP λ x y h=>(by cases (show (none:Option (I97×Int))=some y from h))
 | succ N ih =>
  refine zaA (c:=zan zae [(51,true,effPg zo7 (H51 N)),(53,false,zbC (zan zae []) Tryz.f53),(215,true,effPg zlN G215),(212,true,effPg zlM G212),(210,true,effPg zlL G210),(208,true,effPg zlr G208),(206,true,effPg zlq G206),(204,true,effPg zlp G204),(202,true,effPg zlo G202),(200,true,effPg zln G200),(198,true,effPg zlm G198),(79,true,zcJ [[0]] G79)]) rfl tyOK (zak (za Tryz.func51 rfl rfl) ih (zaG (za Tryz.func53 rfl rfl) (CallOK.inl rfl tyOK (zac) Tryz.func53 (by kernel_rfl)) (zak (za Tryz.func215 rfl rfl) P215 (zak (za Tryz.func212 rfl rfl) P212 (zak (za Tryz.func210 rfl rfl) P210 (zak (za Tryz.func208 rfl rfl) P208 (zak (za Tryz.func206 rfl rfl) P206 (zak (za Tryz.func204 rfl rfl) P204 (zak (za Tryz.func202 rfl rfl) P202 (zak (za Tryz.func200 rfl rfl) P200 (zak (za Tryz.func198 rfl rfl) P198 (zbP (za Tryz.func79 rfl rfl) P79 (zac))))))))))))) 1000 Srf51 zxE Tryz.func51 rfl rfl (by kernel_rfl) rfl rfl rfl rfl rfl rfl rfl rfl (λ _=>rfl) (λ _=>rfl) (λ _ _=>⟨rfl,rfl⟩) ?_;rintro⟨s0,s1,s2,s3,s4⟩ y hF;have hF:f51b (f51 N) N s0 s1 s2 s3 s4=some y:=hF;show vc _ _ _ _ ⟨[(0, .ptr 0 0),(1, .dat (strN s0))],[(0, .box [.ptr 1 0, .rs 2 (List.length s1)]),(1, .box [.mp 3, .mp 4, .mp 5]),(2,(rW s1)),(3,(sW [4] s2)),(4,(eW s3)),(5,(mW s4))]⟩ _;unfold f51b at hF
  repeat' (first
 | ((with_reducible first|refine q0 _ _ ?_|refine q1 _ _ _ _ ?_|refine q2 _ _ _ ?_);clear Q q0 q1 q2)
 | ((with_reducible first|refine zcW ?hx (λ Q q0 q1 q2=>?_)|refine zcX ?hx (λ Q q0 q1 q2=>?_));(case hx=>exact rfl);conv=>whnf)
 | ((with_reducible refine zeb ?_);(first|((first|refine zec rfl ?hy (λ Q q0 q1 q2=>?_)|refine zdd rfl ?hy (λ Q q0 q1 q2=>?_));(case hy=>first|assumption|exact notT (by assumption)|exact rfl);conv=>whnf)|((first|refine zdc rfl ?hy ?_|refine zcE rfl ?hy ?_);(case hy=>first|assumption|exact notF (by assumption)|exact rfl))|(revert hF;(with_reducible first|refine zed ?hx ?_ ?_|refine zde ?hx ?_ ?_);(case hx=>exact rfl);(intro hc hF Q q0 q1 q2;conv=>whnf);rotate_left;(intro hc hF);rotate_right)|(revert hF;(with_reducible first|refine zee ?hx ?_ ?_|refine zdf ?hx ?_ ?_);(case hx=>exact rfl);(intro hc hF);rotate_left;(intro hc hF Q q0 q1 q2;conv=>whnf);rotate_right)))
 | ((with_reducible refine zct ?_);(first|((refine zdD rfl ?hy ?_);(case hy=>first|assumption|exact notT (by assumption)|exact rfl))|((refine zdE rfl ?hy ?_);(case hy=>first|assumption|exact notF (by assumption)|exact rfl))|(revert hF;(with_reducible refine zgf ?hx ?_ ?_);(case hx=>exact rfl);all_goals (intro hc hF))))
 | ((with_reducible refine zb1 ?_);(first|((with_reducible refine hR _ ?_);clear R hR)|((with_reducible refine hL _ ?_);clear L hL)))
 | ((with_reducible refine zcf ?_);(with_reducible refine hR _ _ ?hx ?_);(case hx=>kernel_rfl);clear R hR)
 | (with_reducible first|refine zbI ?_|refine zb0 ?_|refine zcU ?_|refine zce ?_|refine zbh (λ R hR=>?_)|refine zbg ?_|refine za7 ?_|refine zf5 ?_|refine zbw ?_|refine zbe ?_)
 | ((with_reducible refine zb7 [1000006] ?hx ?_);(case hx=>exact rfl))
 | ((with_reducible refine zcV ?hx (λ R L hL hR=>?_));(case hx=>exact rfl))
 | ((with_reducible replace hF:=isE hF);(dsimp only[zm5] at hF);first|rewrite[zhS] at hF)
 | ((with_reducible refine zb8 ?_);(with_reducible replace hF:=zds 2 hF);((refine Lp.cutI hF rfl rfl ?_ ?_) <;> clear hF);(intro hF);rotate_left;(rintro⟨_,_⟩ hF);rotate_right)
 | ((with_reducible refine zb9 ?_);(with_reducible replace hF:=toLp 1 2 hF);exact Lp.headI hF (_,()) ⟨_,rfl,rfl,rfl,rfl⟩ (pr2 (by first|exact rfl|assumption|omega|(simp only[List.length_set];done)) rfl))
 | (revert hF;(with_reducible refine G79.step ?hx ?_);(case hx=>exact rfl);intro v hF;(obtain⟨v,ve⟩:=v);(try dsimp only at hF);(conv=>whnf))
 | (revert hF;(refine G198.step rfl rfl rfl rfl rfl  (by first|exact trivial|exact rfl) ?hn ?_);(case hn=>exact rfl);intro v hF;conv=>whnf)
 | (revert hF;(refine G200.step rfl rfl rfl rfl rfl  (by first|exact trivial|exact rfl) ?hn ?_);(case hn=>exact rfl);intro v hF;conv=>whnf)
 | (revert hF;(refine G202.step rfl rfl rfl rfl rfl  (by first|exact trivial|exact rfl) ?hn ?_);(case hn=>exact rfl);intro v hF;conv=>whnf)
 | (revert hF;(refine G204.step rfl rfl rfl rfl rfl  (by first|exact trivial|exact rfl) ?hn ?_);(case hn=>exact rfl);intro v hF;conv=>whnf)
 | (revert hF;(refine G206.step rfl rfl rfl rfl rfl  (by first|exact trivial|exact rfl) ?hn ?_);(case hn=>exact rfl);intro v hF;conv=>whnf)
 | (revert hF;(refine G208.step rfl rfl rfl rfl rfl  (by first|exact trivial|exact rfl) ?hn ?_);(case hn=>exact rfl);intro v hF;conv=>whnf)
 | (revert hF;(refine G210.step rfl rfl rfl rfl rfl  (by first|exact trivial|exact rfl) ?hn ?_);(case hn=>exact rfl);intro v hF;conv=>whnf)
 | (revert hF;(refine G212.step rfl rfl rfl rfl rfl  (by first|exact trivial|exact rfl) ?hn ?_);(case hn=>exact rfl);intro v hF;conv=>whnf)
 | (revert hF;(refine G215.step rfl rfl rfl rfl rfl  (by first|exact trivial|exact rfl) ?hn ?_);(case hn=>exact rfl);intro v hF;conv=>whnf)
 | (cases hF;(refine Or.inl ?_);(conv=>whnf);exact⟨rfl,rfl,rfl⟩)
 | (with_reducible first|(replace hF:=I97.go0 hF)|(replace hF:=I97.go1 hF)|(replace hF:=I97.go2 hF)|(replace hF:=I97.go3 hF)|(replace hF:=I97.go4 hF)|(replace hF:=I97.go5 hF)|(replace hF:=I97.go6 hF)|(replace hF:=I97.go7 hF)|(replace hF:=I97.go8 hF)|(replace hF:=I97.go9 hF))
 | with_reducible refine zd5 ?_
 | ((with_reducible refine zgu ?hx ?_);(case hx=>first|exact rfl|assumption|exact notT (by assumption));conv=>whnf)
 | ((with_reducible refine zeX ?hx ?_);(case hx=>first|exact rfl|assumption|exact notF (by assumption));conv=>whnf)
 | ((refine zay 1101 1102000000 rfl rfl (zyt rfl) rfl (λ R hR=>?_));(conv=>whnf);(with_reducible refine hR _ ?ha ?_);(case ha=>exact rfl);clear R hR)
 | (show Kinl _ _ _ _ _ _ _;conv=>whnf)
 | ((with_reducible refine zcD ?ha ?hb ?_);(case ha=>exact rfl);(case hb=>exact rfl);conv=>whnf)
 | (have hF:(none:Option _)=some _:=hF;cases hF)
 | ((refine I97.fo (K:=λ x=>Q ⟨x,[]⟩ _) ?_);conv=>whnf)
 | ((rename I97=>xi);cases xi <;> ((try dsimp only at hF);(try (conv=>whnf)))))
theorem P51:CallOK Tryz.prog 51 (effPg zo7 G51):=zbv Q51


end Go.Vc
