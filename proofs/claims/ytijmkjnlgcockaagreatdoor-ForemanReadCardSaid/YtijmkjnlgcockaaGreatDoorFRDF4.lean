/-
  A library for proofs about Go functions by symbolic evaluation,and plain Lean functions that the walked Go functions compute (written by a program of this claim).
-/
import Derived.Test.YtijmkjnlgcockaaGreatDoorFRDF1
import Derived.Test.YtijmkjnlgcockaaGreatDoorFRDF2
import Derived.Test.YtijmkjnlgcockaaGreatDoorFRDF3
set_option linter.unusedVariables false
set_option linter.unnecessarySimpa false
set_option linter.unusedSimpArgs false
namespace Go.Vc
open Go.Proofs
set_option maxRecDepth 20000 in
set_option maxHeartbeats 4000000 in
theorem P79:PureOK Tryz.prog 79 G79:=by
 refine zan (c:=zaq zai [(106,false,zby (zaq zai [(138,false,zby (zaq zai [(107,true,lendPg [[0]] G107)]) Tryz.f138)]) Tryz.f106),(108,true,zbM [[1],[0,0]] G108),(105,true,lendPg [[0]] G105),(104,true,zbM [[0]] G104)]) rfl tyOK (zaF (za Tryz.func106 rfl rfl) (CallOK.inl rfl tyOK (zaF (za Tryz.func138 rfl rfl) (CallOK.inl rfl tyOK (zap (za Tryz.func107 rfl rfl) P107 (zac)) Tryz.func138 (by kernel_rfl)) (zac)) Tryz.func106 (by kernel_rfl)) (zba (za Tryz.func108 rfl rfl) P108 (zap (za Tryz.func105 rfl rfl) P105 (zba (za Tryz.func104 rfl rfl) P104 (zac))))) [[0],[0]] 1 Tryz.func79 rfl rfl (by decide) (by kernel_rfl) ?_;rintro ds d ⟨N,a0,r,rfl,hF,rfl⟩ hok;clear hok;refine⟨rfl, ?_⟩;show vc _ _ _ _ ⟨[(0, .dat (strN a0))],[]⟩ _;unfold f79 at hF
 repeat' (first
 | ((with_reducible first|refine q0 _ _ ?_|refine q1 _ _ _ _ ?_|refine q2 _ _ _ ?_);clear Q q0 q1 q2)
 | ((with_reducible first|refine zdq ?hx (λ Q q0 q1 q2=>?_)|refine zdj ?hx (λ Q q0 q1 q2=>?_));(case hx=>exact rfl);conv=>whnf)
 | ((with_reducible first|refine zeV ?hx ?_|refine zdB ?hx ?_|refine zcw ?hx ?_|refine zc4 ?hx ?_);(case hx=>exact rfl))
 | ((with_reducible refine zda ?_);(first|((first|refine zeh rfl ?hy (λ Q q0 q1 q2=>?_)|refine zdc rfl ?hy (λ Q q0 q1 q2=>?_));(case hy=>first|assumption|exact notT (by assumption)|exact rfl);conv=>whnf)|((first|refine zdb rfl ?hy ?_|refine zcx rfl ?hy ?_);(case hy=>first|assumption|exact notF (by assumption)|exact rfl))|(revert hF;(with_reducible first|refine zei ?hx ?_ ?_|refine zdd ?hx ?_ ?_);(case hx=>exact rfl);(intro hc hF Q q0 q1 q2;conv=>whnf);rotate_left;(intro hc hF);rotate_right)|(revert hF;(with_reducible first|refine zej ?hx ?_ ?_|refine zde ?hx ?_ ?_);(case hx=>exact rfl);(intro hc hF);rotate_left;(intro hc hF Q q0 q1 q2;conv=>whnf);rotate_right)))
 | ((with_reducible refine zcW ?_);(first|((refine zee rfl ?hy ?_);(case hy=>first|assumption|exact notT (by assumption)|exact rfl))|((refine zef rfl ?hy ?_);(case hy=>first|assumption|exact notF (by assumption)|exact rfl))|(revert hF;(with_reducible refine zht ?hx ?_ ?_);(case hx=>exact rfl);all_goals (intro hc hF))))
 | ((with_reducible refine zcm ?_);(first|((with_reducible refine hR _ ?_);clear R hR)|((with_reducible refine hL _ ?_);clear L hL)))
 | ((with_reducible first|refine zbU ?_|refine zbV ?_|refine idx2 (by assumption) ?_|refine idx3 (by assumption) ?_);conv=>whnf)
 | (with_reducible first|refine zbR ?_|refine zck ?_|refine zdp ?_|refine zcB ?_|refine zbo (λ R hR=>?_)|refine zbm ?_|refine zbe ?_|refine zg1 ?_|refine zbC ?_|refine zbn ?_|refine zcl ?_|refine zbX ?_)
 | ((with_reducible refine zco [47,41,35,3305000103000000007,33,23] ?hx ?_);(case hx=>exact rfl))
 | ((with_reducible replace hF:=isE hF);(dsimp only[zjV,zrA,zjX,zjY,zbj,zb3,zjZ,zrB,zj1,zgt,zaz,zgu] at hF);first|((with_reducible replace hF:=chkE (e:=zf ..) hF);rewrite[zf] at hF)|((with_reducible replace hF:=chkE (e:=zfb ..) hF);rewrite[zfb] at hF)|((with_reducible replace hF:=chkE (e:=zaC ..) hF);rewrite[zaC] at hF)|rewrite[zjW] at hF|rewrite[zfa] at hF|rewrite[za1] at hF|rewrite[zg] at hF|rewrite[zj0] at hF|rewrite[zeo] at hF)
 | ((with_reducible refine zb0 ?_);(with_reducible replace hF:=zeg 0 hF);((refine Lp.cutI hF rfl rfl ?_ ?_) <;> clear hF);(intro hF);rotate_left;(rintro _ hF);rotate_right)
 | ((with_reducible refine zbb ?_);(with_reducible replace hF:=toLp 0 0 hF);exact Lp.headI hF () ⟨_,rfl,rfl,rfl,rfl⟩ rfl)
 | ((with_reducible refine zcp ?_);(with_reducible replace hF:=toLp 0 1 hF);((refine Lp.loopI hF () rfl ⟨_,rfl,rfl,rfl,rfl⟩ rfl (λ _=>rfl) ?_);clear hF);(rintro n _ hF))
 | ((with_reducible refine zcq ?_);(with_reducible replace hF:=toLp 0 1 hF);exact Lp.backI hF () ⟨_,rfl,rfl,rfl,rfl⟩ rfl)
 | ((with_reducible refine zb0 ?_);(with_reducible replace hF:=zeg 2 hF);((refine Lp.cutI hF rfl rfl ?_ ?_) <;> clear hF);(intro hF);rotate_left;(rintro⟨_,_⟩ hF);rotate_right)
 | ((with_reducible refine zbb ?_);(with_reducible replace hF:=toLp 0 2 hF);exact Lp.headI hF () ⟨_,rfl,rfl,rfl,rfl⟩ rfl)
 | ((with_reducible refine zb0 ?_);(with_reducible replace hF:=zeg 1 hF);((refine Lp.cutI hF rfl rfl ?_ ?_) <;> clear hF);(intro hF);rotate_left;(rintro _ hF);rotate_right)
 | ((with_reducible refine zbb ?_);(with_reducible replace hF:=toLp 0 1 hF);exact Lp.headI hF () ⟨_,rfl,rfl,rfl,rfl⟩ rfl)
 | ((with_reducible refine zcp ?_);(with_reducible replace hF:=toLp 0 2 hF);((refine Lp.loopI hF () rfl ⟨_,rfl,rfl,rfl,rfl⟩ rfl (λ _=>rfl) ?_);clear hF);(rintro n ⟨_,_⟩ hF))
 | ((with_reducible refine zcq ?_);(with_reducible replace hF:=toLp 0 2 hF);exact Lp.backI hF () ⟨_,rfl,rfl,rfl,rfl⟩ rfl)
 | (revert hF;(with_reducible refine G104.step ?hx ?_);(case hx=>exact rfl);intro v hF;conv=>whnf)
 | (revert hF;(with_reducible refine G105.lend ?hx ?_);(case hx=>exact rfl);intro v hF;conv=>whnf)
 | (revert hF;(with_reducible refine G107.lend ?hx ?_);(case hx=>exact rfl);intro v hF;conv=>whnf)
 | (revert hF;(with_reducible refine G108.step ?hx ?_);(case hx=>exact rfl);intro v hF;conv=>whnf)
 | ((with_reducible refine Or.inr ?_);(conv=>whnf);(with_reducible refine ziK (List.map iN (List.replicate 2 (0:Int))) ?hx ?_);(case hx=>(unfold zoM;kernel_rfl));conv=>whnf)
 | ((with_reducible have hI:=zwP hF);clear hI;revert hF;(refine zti (by decide) ?_);intro hF;conv=>whnf)
 | (revert hF;(refine A2iN.of_step ?_);intro x hF;conv=>whnf)
 | ((with_reducible refine zqZ hF ?_);(clear hF;intro hF;conv=>whnf))
 | ((with_reducible have hG:=znR hF);clear hF;(first|(refine zq0 hG (by(try simp only[W]);omega) (λ x hF=>?_))|(refine zq1 hG (λ _=>rfl) (by(try simp only[W]);omega) (λ x hF=>?_)));clear hG;conv=>whnf)
 | ((with_reducible have hG:=zlc hF);clear hF;(first|(refine znS hG (by(try simp only[W]);omega) rfl rfl (λ q hF=>?_))|(refine znT hG (λ _=>rfl) (by(try simp only[W]);omega) rfl rfl (λ q hF=>?_)));clear hG;conv=>whnf)
 | (revert hF;(with_reducible refine idx1 ?hn ?_);(case hn=>first|exact rfl|exact(List.length_map _)|assumption|omega|simp);intro x hx hF;conv=>whnf)
 | ((with_reducible have hG:=zgN hF);clear hF;(refine zjD hG (λ q hF=>?_));clear hG;conv=>whnf)
 | ((with_reducible refine ze6 ?_);conv=>whnf)
 | ((with_reducible refine zgm ?hx ?_);(case hx=>first|exact rfl|assumption|exact notT (by assumption));conv=>whnf)
 | ((with_reducible refine zgn ?hx ?_);(case hx=>first|exact rfl|assumption|exact notF (by assumption));conv=>whnf)
 | (show retD _ _ _ _ _ _;conv=>whnf)
 | ((refine zas 3304 3305000000 rfl rfl (zyV rfl) rfl (λ R hR=>?_));(conv=>whnf);(with_reducible refine hR _ ?ha ?_);(case ha=>exact rfl);clear R hR)
 | ((refine zas 3305000102 3305000103000000 rfl rfl (zyV rfl) rfl (λ R hR=>?_));(conv=>whnf);(with_reducible refine hR _ ?ha ?_);(case ha=>exact rfl);clear R hR)
 | (show Kinl _ _ _ _ _ _ _;conv=>whnf)
 | ((with_reducible refine zcV ?ha ?hb ?_);(case ha=>exact rfl);(case hb=>exact rfl);conv=>whnf)
 | ((refine⟨?hx,trivial⟩);(case hx=>(cases hF;exact rfl)))
 | with_reducible refine zeU ?_
 | ((refine I97.fo (K:=λ x=>mvPg x _ _ _ _) ?_);conv=>whnf)
 | ((refine I97.fp (K:=λ x=>Q ⟨x,[]⟩ _) ?_);conv=>whnf)
 | ((rename I97=>xi);cases xi <;> ((try dsimp only at hF);(try (conv=>whnf)))))

set_option maxRecDepth 20000 in
set_option maxHeartbeats 4000000 in
theorem P146:PureOK Tryz.prog 146 G146:=by
 refine zan (c:=zaq zai [(158,true,lendPg [[1],[1]] G158),(132,true,lendPg [[1],[0],[1]] G132)]) rfl tyOK (zap (za Tryz.func158 rfl rfl) P158 (zap (za Tryz.func132 rfl rfl) P132 (zac))) [[0],[0]] 2 Tryz.func146 rfl rfl (by decide) (by kernel_rfl) ?_;rintro ds d ⟨N,a0,a1,r,rfl,hF,rfl⟩ hok;clear hok;refine⟨rfl, ?_⟩;show vc _ _ _ _ ⟨[(0, .dat (zao a0)),(1, .dat (zbc a1))],[]⟩ _;unfold f146 at hF;exact wk8

set_option maxRecDepth 20000 in
set_option maxHeartbeats 4000000 in
theorem P131:PureOK Tryz.prog 131 G131:=by
 refine zan (c:=zaq zai [(158,true,lendPg [[1],[1]] G158),(116,true,lendPg [[1]] G116)]) rfl tyOK (zap (za Tryz.func158 rfl rfl) P158 (zap (za Tryz.func116 rfl rfl) P116 (zac))) [[0]] 2 Tryz.func131 rfl rfl (by decide) (by kernel_rfl) ?_;rintro ds d ⟨N,a0,a1,r,rfl,hF,rfl⟩ hok;clear hok;refine⟨rfl, ?_⟩;show vc _ _ _ _ ⟨[(0, .dat (zao a0)),(1, .dat (zbc a1))],[]⟩ _;unfold f131 at hF;exact wk8

set_option maxRecDepth 20000 in
set_option maxHeartbeats 4000000 in
theorem Q51 (N:Nat):CallOK Tryz.prog 51 (effPg zpH (H51 N)):=by
 induction N with
 | zero=>exact zaJ λ x y h=>(by cases (show (none:Option (I97×Int))=some y from h))
 | succ N ih =>
  refine zax (c:=zaq zai [(51,true,effPg zpH (H51 N)),(53,false,zby (zaq zai []) Tryz.f53),(215,true,effPg zlV G215),(212,true,effPg zlU G212),(210,true,effPg zlT G210),(208,true,effPg zlB G208),(206,true,effPg zlA G206),(204,true,effPg zlz G204),(202,true,effPg zly G202),(200,true,effPg zlx G200),(198,true,effPg zlw G198),(79,true,zbM [[0]] G79)]) rfl tyOK (zae (za Tryz.func51 rfl rfl) ih (zaF (za Tryz.func53 rfl rfl) (CallOK.inl rfl tyOK (zac) Tryz.func53 (by kernel_rfl)) (zae (za Tryz.func215 rfl rfl) P215 (zae (za Tryz.func212 rfl rfl) P212 (zae (za Tryz.func210 rfl rfl) P210 (zae (za Tryz.func208 rfl rfl) P208 (zae (za Tryz.func206 rfl rfl) P206 (zae (za Tryz.func204 rfl rfl) P204 (zae (za Tryz.func202 rfl rfl) P202 (zae (za Tryz.func200 rfl rfl) P200 (zae (za Tryz.func198 rfl rfl) P198 (zba (za Tryz.func79 rfl rfl) P79 (zac))))))))))))) 1000 Srf51 zx3 Tryz.func51 rfl rfl (by kernel_rfl) rfl rfl rfl rfl rfl rfl rfl rfl (λ _=>rfl) (λ _=>rfl) (λ _ _=>⟨rfl,rfl⟩) ?_;rintro⟨s0,s1,s2,s3,s4⟩ y hF;have hF:f51b (f51 N) N s0 s1 s2 s3 s4=some y:=hF;show vc _ _ _ _ ⟨[(0, .ptr 0 0),(1, .dat (strN s0))],[(0, .box [.ptr 1 0, .rs 2 (List.length s1)]),(1, .box [.mp 3, .mp 4, .mp 5]),(2,(rW s1)),(3,(sW [4] s2)),(4,(eW s3)),(5,(mW s4))]⟩ _;unfold f51b at hF;exact wk8
theorem P51:CallOK Tryz.prog 51 (effPg zpH G51):=zbf Q51

set_option maxRecDepth 20000 in
set_option maxHeartbeats 4000000 in
theorem P118:PureOK Tryz.prog 118 G118:=by
 refine zan (c:=zaq zai [(147,true,lendPg [[1],[0]] G147),(146,true,lendPg [[1],[1]] G146)]) rfl tyOK (zap (za Tryz.func147 rfl rfl) P147 (zap (za Tryz.func146 rfl rfl) P146 (zac))) [[0],[0]] 2 Tryz.func118 rfl rfl (by decide) (by kernel_rfl) ?_;rintro ds d ⟨N,a0,a1,r,rfl,hF,rfl⟩ hok;clear hok;refine⟨rfl, ?_⟩;show vc _ _ _ _ ⟨[(0, .dat (zao a0)),(1, .dat (zbc a1))],[]⟩ _;unfold f118 at hF;exact wk8

set_option maxRecDepth 20000 in
set_option maxHeartbeats 4000000 in
theorem P101:PureOK Tryz.prog 101 G101:=by
 refine zan (c:=zaq zai [(132,true,lendPg [[1],[0],[1]] G132),(131,true,lendPg [[1],[1]] G131)]) rfl tyOK (zap (za Tryz.func132 rfl rfl) P132 (zap (za Tryz.func131 rfl rfl) P131 (zac))) [[0]] 2 Tryz.func101 rfl rfl (by decide) (by kernel_rfl) ?_;rintro ds d ⟨N,a0,a1,r,rfl,hF,rfl⟩ hok;clear hok;refine⟨rfl, ?_⟩;show vc _ _ _ _ ⟨[(0, .dat (zao a0)),(1, .dat (zbc a1))],[]⟩ _;unfold f101 at hF;exact wk8

set_option maxRecDepth 20000 in
set_option maxHeartbeats 4000000 in
theorem Q17 (N:Nat):CallOK Tryz.prog 17 (effPg zrC (H17 N)):=by
 induction N with
 | zero=>exact zaJ λ x y h=>(by cases (show (none:Option (Int))=some y from h))
 | succ N ih =>
  refine zax (c:=zaq zai [(17,true,effPg zrC (H17 N)),(51,true,effPg zpH G51)]) rfl tyOK (zae (za Tryz.func17 rfl rfl) ih (zae (za Tryz.func51 rfl rfl) P51 (zac))) 1000 Srf17 zx4 Tryz.func17 rfl rfl (by kernel_rfl) rfl rfl rfl rfl rfl rfl rfl rfl (λ _=>rfl) (λ _=>rfl) (λ _ _=>⟨rfl,rfl⟩) ?_;rintro⟨s0,s1,s2,s3,s4⟩ y hF;have hF:f17b (f17 N) N s0 s1 s2 s3 s4=some y:=hF;show vc _ _ _ _ ⟨[(0, .ptr 0 0),(1, .dat (strN s0))],[(0, .box [.ptr 1 0, .rs 2 (List.length s1)]),(1, .box [.mp 3, .mp 4, .mp 5]),(2,(rW s1)),(3,(sW [4] s2)),(4,(eW s3)),(5,(mW s4))]⟩ _;unfold f17b at hF;exact wk6
theorem P17:CallOK Tryz.prog 17 (effPg zrC G17):=zbf Q17

set_option maxRecDepth 20000 in
set_option maxHeartbeats 4000000 in
theorem Q18 (N:Nat):CallOK Tryz.prog 18 (effPg zm8 (H18 N)):=by
 induction N with
 | zero=>exact zaJ λ x y h=>(by cases (show (none:Option (Int×LS×LE×LC×LB))=some y from h))
 | succ N ih =>
  refine zax (c:=zaq zai [(18,true,effPg zm8 (H18 N)),(214,true,effPg zlL G214),(211,true,effPg zlW G211),(209,true,effPg zlK G209),(207,true,effPg zlJ G207),(205,true,effPg zlI G205),(203,true,effPg zlH G203),(201,true,effPg zlG G201),(199,true,effPg zlF G199),(197,true,effPg zlE G197),(51,true,effPg zpH G51)]) rfl tyOK (zae (za Tryz.func18 rfl rfl) ih (zae (za Tryz.func214 rfl rfl) P214 (zae (za Tryz.func211 rfl rfl) P211 (zae (za Tryz.func209 rfl rfl) P209 (zae (za Tryz.func207 rfl rfl) P207 (zae (za Tryz.func205 rfl rfl) P205 (zae (za Tryz.func203 rfl rfl) P203 (zae (za Tryz.func201 rfl rfl) P201 (zae (za Tryz.func199 rfl rfl) P199 (zae (za Tryz.func197 rfl rfl) P197 (zae (za Tryz.func51 rfl rfl) P51 (zac)))))))))))) 1000 Srf18 zx5 Tryz.func18 rfl rfl (by kernel_rfl) rfl rfl rfl rfl rfl rfl rfl rfl (λ _=>rfl) (λ _=>rfl) (λ _ _=>⟨rfl,rfl⟩) ?_;rintro⟨s0,s1,s2,s3,s4⟩ y hF;have hF:f18b (f18 N) N s0 s1 s2 s3 s4=some y:=hF;show vc _ _ _ _ ⟨[(0, .ptr 0 0),(1, .dat (strN s0))],[(0, .box [.ptr 1 0, .rs 2 (List.length s1)]),(1, .box [.mp 3, .mp 4, .mp 5]),(2,(rW s1)),(3,(sW [4] s2)),(4,(eW s3)),(5,(mW s4))]⟩ _;unfold f18b at hF;exact wk6
theorem P18:CallOK Tryz.prog 18 (effPg zm8 G18):=zbf Q18

set_option maxRecDepth 20000 in
set_option maxHeartbeats 4000000 in
theorem P83:PureOK Tryz.prog 83 G83:=by
 refine zan (c:=zaq zai [(118,true,lendPg [[1],[1]] G118),(117,true,lendPg [[0],[0],[0]] G117),(116,true,lendPg [[1]] G116)]) rfl tyOK (zap (za Tryz.func118 rfl rfl) P118 (zap (za Tryz.func117 rfl rfl) P117 (zap (za Tryz.func116 rfl rfl) P116 (zac)))) [[1],[0]] 3 Tryz.func83 rfl rfl (by decide) (by kernel_rfl) ?_;rintro ds d ⟨N,a0,a1,a2,r,rfl,hF,rfl⟩ hok;clear hok;refine⟨rfl, ?_⟩;show vc _ _ _ _ ⟨[(0, .dat (zao a0)),(1, .dat (iN a1)),(2, .dat (iN a2))],[]⟩ _;unfold f83 at hF;exact wk3

set_option maxRecDepth 20000 in
set_option maxHeartbeats 4000000 in
theorem P57:PureOK Tryz.prog 57 G57:=by
 refine zan (c:=zaq zai [(85,false,zby (zaq zai [(82,true,copyPg 106)]) Tryz.f85),(58,false,zby (zaq zai []) Tryz.f58),(84,true,zbM [] G84),(83,true,zbM [[1],[0],[0]] G83)]) rfl tyOK (zaF (za Tryz.func85 rfl rfl) (CallOK.inl rfl tyOK (zn4 (za Tryz.func82 rfl rfl) (zac)) Tryz.func85 (by kernel_rfl)) (zaF (za Tryz.func58 rfl rfl) (CallOK.inl rfl tyOK (zac) Tryz.func58 (by kernel_rfl)) (zba (za Tryz.func84 rfl rfl) P84 (zba (za Tryz.func83 rfl rfl) P83 (zac))))) [[0]] 1 Tryz.func57 rfl rfl (by decide) (by kernel_rfl) ?_;rintro ds d ⟨N,a0,r,rfl,hF,rfl⟩ hok;clear hok;refine⟨rfl, ?_⟩;show vc _ _ _ _ ⟨[(0, .dat (strN a0))],[]⟩ _;unfold f57 at hF;exact wk3

set_option maxRecDepth 20000 in
set_option maxHeartbeats 4000000 in
theorem Q23 (N:Nat):CallOK Tryz.prog 23 (effPg zn (H23 N)):=by
 induction N with
 | zero=>exact zaJ λ x y h=>(by cases (show (none:Option (ByteArray))=some y from h))
 | succ N ih =>
  refine zax (c:=zaq zai [(23,true,effPg zn (H23 N)),(58,false,zby (zaq zai []) Tryz.f58),(56,false,zby (zaq zai [(82,true,copyPg 106)]) Tryz.f56),(53,false,zby (zaq zai []) Tryz.f53),(57,true,lendPg [[0]] G57),(30,true,lendPg [[0]] G30)]) rfl tyOK (zae (za Tryz.func23 rfl rfl) ih (zaF (za Tryz.func58 rfl rfl) (CallOK.inl rfl tyOK (zac) Tryz.func58 (by kernel_rfl)) (zaF (za Tryz.func56 rfl rfl) (CallOK.inl rfl tyOK (zn4 (za Tryz.func82 rfl rfl) (zac)) Tryz.func56 (by kernel_rfl)) (zaF (za Tryz.func53 rfl rfl) (CallOK.inl rfl tyOK (zac) Tryz.func53 (by kernel_rfl)) (zap (za Tryz.func57 rfl rfl) P57 (zap (za Tryz.func30 rfl rfl) P30 (zac))))))) 1000 Srf23 zx6 Tryz.func23 rfl rfl (by kernel_rfl) rfl rfl rfl rfl rfl rfl rfl rfl (λ _=>rfl) (λ _=>rfl) (λ _ _=>⟨rfl,rfl⟩) ?_;rintro⟨s0,s1,s2,s3⟩ y hF;have hF:f23b (f23 N) N s0 s1 s2 s3=some y:=hF;show vc _ _ _ _ ⟨[(0, .ptr 0 0)],[(0, .box [.ptr 1 0, .rs 2 (List.length s0)]),(1, .box [.mp 3, .mp 4, .mp 5]),(2,(rW s0)),(3,(sW [4] s1)),(4,(eW s2)),(5,(mW s3))]⟩ _;unfold f23b at hF;exact wk3
theorem P23:CallOK Tryz.prog 23 (effPg zn G23):=zbf Q23

set_option maxRecDepth 20000 in
set_option maxHeartbeats 4000000 in
theorem P75:PureOK Tryz.prog 75 G75:=by
 refine zan (c:=zaq zai [(101,true,lendPg [[1],[1]] G101),(100,true,lendPg [[0],[0]] G100),(84,true,zbM [] G84),(57,true,lendPg [[0]] G57)]) rfl tyOK (zap (za Tryz.func101 rfl rfl) P101 (zap (za Tryz.func100 rfl rfl) P100 (zba (za Tryz.func84 rfl rfl) P84 (zap (za Tryz.func57 rfl rfl) P57 (zac))))) [[0],[0]] 1 Tryz.func75 rfl rfl (by decide) (by kernel_rfl) ?_;rintro ds d ⟨N,a0,r,rfl,hF,rfl⟩ hok;clear hok;refine⟨rfl, ?_⟩;show vc _ _ _ _ ⟨[(0, .dat (strN a0))],[]⟩ _;unfold f75 at hF;exact wk3

set_option maxRecDepth 20000 in
set_option maxHeartbeats 4000000 in
theorem P14:PureOK Tryz.prog 14 G14:=by
 refine zan (c:=zaq zai [(15,false,zby (zaq zai []) Tryz.f15),(40,true,effPg zpG G40),(36,true,effPg zpF G36),(34,true,effPg zpE G34),(33,true,effPg zpD G33),(32,true,effPg zpC G32),(23,true,effPg zn G23),(18,true,effPg zm8 G18),(17,true,effPg zrC G17),(44,true,zbM [] G44),(35,true,lendPg [[1],[1]] G35)]) rfl tyOK (zaF (za Tryz.func15 rfl rfl) (CallOK.inl rfl tyOK (zac) Tryz.func15 (by kernel_rfl)) (zae (za Tryz.func40 rfl rfl) P40 (zae (za Tryz.func36 rfl rfl) P36 (zae (za Tryz.func34 rfl rfl) P34 (zae (za Tryz.func33 rfl rfl) P33 (zae (za Tryz.func32 rfl rfl) P32 (zae (za Tryz.func23 rfl rfl) P23 (zae (za Tryz.func18 rfl rfl) P18 (zae (za Tryz.func17 rfl rfl) P17 (zba (za Tryz.func44 rfl rfl) P44 (zap (za Tryz.func35 rfl rfl) P35 (zac)))))))))))) [[0]] 0 Tryz.func14 rfl rfl (by decide) (by kernel_rfl) ?_;rintro ds d ⟨N,r,rfl,hF,rfl⟩ hok;clear hok;refine⟨rfl, ?_⟩;show vc _ _ _ _ ⟨[],[]⟩ _;unfold f14 at hF
 repeat' (first
 | ((with_reducible first|refine q0 _ _ ?_|refine q1 _ _ _ _ ?_|refine q2 _ _ _ ?_);clear Q q0 q1 q2)
 | ((with_reducible first|refine zdq ?hx (λ Q q0 q1 q2=>?_)|refine zdj ?hx (λ Q q0 q1 q2=>?_));(case hx=>exact rfl);conv=>whnf)
 | ((with_reducible first|refine zeV ?hx ?_|refine zdB ?hx ?_|refine zcw ?hx ?_|refine zc4 ?hx ?_);(case hx=>exact rfl))
 | ((with_reducible refine zda ?_);(first|((first|refine zeh rfl ?hy (λ Q q0 q1 q2=>?_)|refine zdc rfl ?hy (λ Q q0 q1 q2=>?_));(case hy=>first|assumption|exact notT (by assumption)|exact rfl);conv=>whnf)|((first|refine zdb rfl ?hy ?_|refine zcx rfl ?hy ?_);(case hy=>first|assumption|exact notF (by assumption)|exact rfl))|(revert hF;(with_reducible first|refine zei ?hx ?_ ?_|refine zdd ?hx ?_ ?_);(case hx=>exact rfl);(intro hc hF Q q0 q1 q2;conv=>whnf);rotate_left;(intro hc hF);rotate_right)|(revert hF;(with_reducible first|refine zej ?hx ?_ ?_|refine zde ?hx ?_ ?_);(case hx=>exact rfl);(intro hc hF);rotate_left;(intro hc hF Q q0 q1 q2;conv=>whnf);rotate_right)))
 | ((with_reducible refine zcW ?_);(first|((refine zee rfl ?hy ?_);(case hy=>first|assumption|exact notT (by assumption)|exact rfl))|((refine zef rfl ?hy ?_);(case hy=>first|assumption|exact notF (by assumption)|exact rfl))|(revert hF;(with_reducible refine zht ?hx ?_ ?_);(case hx=>exact rfl);all_goals (intro hc hF))))
 | ((with_reducible refine zda ?_);(refine zeu zzd zy5 (ks:=[]) rfl rfl ?_);dsimp only[St.kid];(first|((with_reducible refine hR _ ?_);clear R hR)|((with_reducible refine hL _ ?_);clear L hL)))
 | ((with_reducible refine zda ?_);(refine zeu 2201000100 2201000101 (ks:=[]) rfl rfl ?_);dsimp only[St.kid];(first|((with_reducible refine hR _ ?_);clear R hR)|((with_reducible refine hL _ ?_);clear L hL)))
 | ((with_reducible refine zcm ?_);(first|((with_reducible refine hR _ ?_);clear R hR)|((with_reducible refine hL _ ?_);clear L hL)))
 | ((with_reducible first|refine zbU ?_|refine zbV ?_|refine idx2 (by assumption) ?_|refine idx3 (by assumption) ?_);conv=>whnf)
 | (with_reducible first|refine zbR ?_|refine zck ?_|refine zdp ?_|refine zcB ?_|refine zbo (λ R hR=>?_)|refine zbm ?_|refine zbe ?_|refine zg1 ?_|refine zbC ?_|refine zbn ?_|refine zcl ?_|refine zbX ?_)
 | ((with_reducible refine zco [23,8,6] ?hx ?_);(case hx=>exact rfl))
 | ((with_reducible replace hF:=isE hF);(dsimp only[zj8,zna,znb,zuM,zrF] at hF);first|((with_reducible replace hF:=chkE (e:=ziW ..) hF);rewrite[ziW] at hF)|rewrite[zhN] at hF|rewrite[zl1] at hF|rewrite[zuL] at hF)
 | ((with_reducible refine zb0 ?_);(with_reducible replace hF:=zeg 1 hF);((refine Lp.cutI hF rfl rfl ?_ ?_) <;> clear hF);(intro hF);rotate_left;(rintro _ hF);rotate_right)
 | ((with_reducible refine zbb ?_);(with_reducible replace hF:=toLp 2 1 hF);exact Lp.headI hF (_,_) ⟨_,rfl,rfl,rfl,rfl⟩ (pr2 (by first|exact rfl|assumption|omega|(simp only[List.length_set];done)) (by first|exact rfl|assumption|omega|(simp only[List.length_set];done))))
 | ((with_reducible refine zb0 ?_);(with_reducible replace hF:=zeg 4 hF);((refine Lp.cutI hF rfl rfl ?_ ?_) <;> clear hF);(intro hF);rotate_left;(rintro⟨_,_,_,_⟩ hF);rotate_right)
 | ((with_reducible refine zbb ?_);(with_reducible replace hF:=toLp 1 4 hF);exact Lp.headI hF (_,()) ⟨_,rfl,rfl,rfl,rfl⟩ (pr2 (by first|exact rfl|assumption|omega|(simp only[List.length_set];done)) rfl))
 | ((with_reducible refine zb0 ?_);(with_reducible replace hF:=zeg 0 hF);((refine Lp.cutI hF rfl rfl ?_ ?_) <;> clear hF);(intro hF);rotate_left;(rintro _ hF);rotate_right)
 | ((with_reducible refine zbb ?_);(with_reducible replace hF:=toLp 1 0 hF);exact Lp.headI hF (_,()) ⟨_,rfl,rfl,rfl,rfl⟩ (pr2 (by first|exact rfl|assumption|omega|(simp only[List.length_set];done)) rfl))
 | ((with_reducible refine zcp ?_);(with_reducible replace hF:=toLp 1 5 hF);((refine Lp.loopI hF (_,()) rfl ⟨_,rfl,rfl,rfl,rfl⟩ (pr2 (by first|exact rfl|assumption|omega|(simp only[List.length_set];done)) rfl) (λ _=>rfl) ?_);clear hF);(rintro n ⟨_,_,_,_,_⟩ hF))
 | ((with_reducible refine zcq ?_);(with_reducible replace hF:=toLp 1 5 hF);exact Lp.backI hF (_,()) ⟨_,rfl,rfl,rfl,rfl⟩ (pr2 (by first|exact rfl|assumption|omega|(simp only[List.length_set];done)) rfl))
 | (revert hF;(with_reducible refine G35.lend ?hx ?_);(case hx=>exact rfl);intro v hF;conv=>whnf)
 | (revert hF;(with_reducible refine G44.step ?hx ?_);(case hx=>exact rfl);intro v hF;conv=>whnf)
 | (revert hF;(refine G17.step rfl rfl rfl rfl rfl rfl rfl (by first|exact rfl|assumption|omega|(simp only[List.length_set];done)) (by first|exact trivial|exact rfl) ?hn ?_);(case hn=>exact rfl);intro v hF;conv=>whnf)
 | (revert hF;(refine G18.step rfl rfl rfl rfl rfl rfl rfl (by first|exact rfl|assumption|omega|(simp only[List.length_set];done)) (by first|exact trivial|exact rfl) ?hn ?_);(case hn=>exact rfl);intro v hF;conv=>whnf)
 | (revert hF;(refine G23.step rfl rfl rfl rfl rfl rfl rfl (by first|exact rfl|assumption|omega|(simp only[List.length_set];done)) (by first|exact trivial|exact rfl) ?hn ?_);(case hn=>exact rfl);intro v hF;conv=>whnf)
 | (revert hF;(refine G32.step rfl rfl rfl rfl rfl rfl rfl (by first|exact rfl|assumption|omega|(simp only[List.length_set];done)) (by first|exact trivial|exact rfl) ?hn ?_);(case hn=>exact rfl);intro v hF;conv=>whnf)
 | (revert hF;(refine G33.step rfl rfl rfl rfl rfl rfl rfl (by first|exact rfl|assumption|omega|(simp only[List.length_set];done)) (by first|exact trivial|exact rfl) ?hn ?_);(case hn=>exact rfl);intro v hF;conv=>whnf)
 | (revert hF;(refine G34.step rfl rfl rfl rfl rfl rfl rfl (by first|exact rfl|assumption|omega|(simp only[List.length_set];done)) (by first|exact trivial|exact rfl) ?hn ?_);(case hn=>exact rfl);intro v hF;conv=>whnf)
 | (revert hF;(refine G36.step rfl rfl rfl rfl rfl rfl rfl (by first|exact rfl|assumption|omega|(simp only[List.length_set];done)) (by first|exact trivial|exact rfl) ?hn ?_);(case hn=>exact rfl);intro v hF;conv=>whnf)
 | (revert hF;(refine G40.step rfl rfl rfl rfl rfl rfl rfl (by first|exact rfl|assumption|omega|(simp only[List.length_set];done)) (by first|exact trivial|exact rfl) ?hn ?_);(case hn=>exact rfl);intro v hF;conv=>whnf)
 | (revert hF;(with_reducible refine idx1 ?hn ?_);(case hn=>first|exact rfl|exact(List.length_map _)|assumption|omega|simp);intro x hx hF;conv=>whnf)
 | ((refine zed ?hn ?_);(case hn=>first|exact rfl|(simp;done)|(simp;omega));conv=>whnf)
 | ((with_reducible refine zgm ?hx ?_);(case hx=>first|exact rfl|assumption|exact notT (by assumption));conv=>whnf)
 | ((with_reducible refine zgn ?hx ?_);(case hx=>first|exact rfl|assumption|exact notF (by assumption));conv=>whnf)
 | ((refine zas 100 101000000 rfl rfl (zyV rfl) rfl (λ R hR=>?_));(conv=>whnf);(with_reducible refine hR _ ?ha ?_);(case ha=>exact rfl);clear R hR)
 | ((refine zas 2200 2201000000 rfl rfl (zyV rfl) rfl (λ R hR=>?_));(conv=>whnf);(with_reducible refine hR _ ?ha ?_);(case ha=>exact rfl);clear R hR)
 | (show Kinl _ _ _ _ _ _ _;conv=>whnf)
 | ((with_reducible refine zcV ?ha ?hb ?_);(case ha=>exact rfl);(case hb=>exact rfl);conv=>whnf)
 | ((refine⟨?hx,trivial⟩);(case hx=>(cases hF;exact rfl)))
 | ((refine⟨?hx, ?_⟩);(case hx=>decide);conv=>whnf)
 | with_reducible refine zeU ?_)

set_option maxRecDepth 20000 in
set_option maxHeartbeats 4000000 in
theorem Q41 (N:Nat):CallOK Tryz.prog 41 (effPg zrI (H41 N)):=by
 induction N with
 | zero=>exact zaJ λ x y h=>(by cases (show (none:Option (Bool))=some y from h))
 | succ N ih =>
  refine zax (c:=zaq zai [(41,true,effPg zrI (H41 N)),(40,true,effPg zpG G40),(36,true,effPg zpF G36),(34,true,effPg zpE G34),(33,true,effPg zpD G33),(32,true,effPg zpC G32),(23,true,effPg zn G23),(21,true,effPg zpB G21),(35,true,lendPg [[1],[1]] G35),(29,true,zbM [] G29),(28,true,zbM [] G28),(27,true,zbM [] G27),(20,true,lendPg [[1],[1]] G20)]) rfl tyOK (zae (za Tryz.func41 rfl rfl) ih (zae (za Tryz.func40 rfl rfl) P40 (zae (za Tryz.func36 rfl rfl) P36 (zae (za Tryz.func34 rfl rfl) P34 (zae (za Tryz.func33 rfl rfl) P33 (zae (za Tryz.func32 rfl rfl) P32 (zae (za Tryz.func23 rfl rfl) P23 (zae (za Tryz.func21 rfl rfl) P21 (zap (za Tryz.func35 rfl rfl) P35 (zba (za Tryz.func29 rfl rfl) P29 (zba (za Tryz.func28 rfl rfl) P28 (zba (za Tryz.func27 rfl rfl) P27 (zap (za Tryz.func20 rfl rfl) P20 (zac)))))))))))))) 1000 Srf41 zx7 Tryz.func41 rfl rfl (by kernel_rfl) rfl rfl rfl rfl rfl rfl rfl rfl (λ _=>rfl) (λ _=>rfl) (λ _ _=>⟨rfl,rfl⟩) ?_;rintro⟨s0,s1,s2,s3,s4,s5,s6,s7⟩ y hF;have hF:f41b (f41 N) N s0 s1 s2 s3 s4 s5 s6 s7=some y:=hF;show vc _ _ _ _ ⟨[(0, .ptr 0 0),(1, .ptr 1 0)],[(0, .box [.ptr 2 0, .rs 3 (List.length s0)]),(1, .box [.ptr 4 0, .rs 5 (List.length s1)]),(2, .box [.mp 6, .mp 7, .mp 8]),(3,(rW s0)),(4, .box [.mp 9, .mp 10, .mp 11]),(5,(rW s1)),(6,(sW [7] s2)),(7,(eW s3)),(8,(mW s4)),(9,(sW [10] s5)),(10,(eW s6)),(11,(mW s7))]⟩ _;unfold f41b at hF
  repeat' (first
 | ((with_reducible first|refine q0 _ _ ?_|refine q1 _ _ _ _ ?_|refine q2 _ _ _ ?_);clear Q q0 q1 q2)
 | ((with_reducible first|refine zdq ?hx (λ Q q0 q1 q2=>?_)|refine zdj ?hx (λ Q q0 q1 q2=>?_));(case hx=>exact rfl);conv=>whnf)
 | ((with_reducible first|refine zeV ?hx ?_|refine zdB ?hx ?_|refine zcw ?hx ?_|refine zc4 ?hx ?_);(case hx=>exact rfl))
 | ((with_reducible refine zda ?_);(first|((first|refine zeh rfl ?hy (λ Q q0 q1 q2=>?_)|refine zdc rfl ?hy (λ Q q0 q1 q2=>?_));(case hy=>first|assumption|exact notT (by assumption)|exact rfl);conv=>whnf)|((first|refine zdb rfl ?hy ?_|refine zcx rfl ?hy ?_);(case hy=>first|assumption|exact notF (by assumption)|exact rfl))|(revert hF;(with_reducible first|refine zei ?hx ?_ ?_|refine zdd ?hx ?_ ?_);(case hx=>exact rfl);(intro hc hF Q q0 q1 q2;conv=>whnf);rotate_left;(intro hc hF);rotate_right)|(revert hF;(with_reducible first|refine zej ?hx ?_ ?_|refine zde ?hx ?_ ?_);(case hx=>exact rfl);(intro hc hF);rotate_left;(intro hc hF Q q0 q1 q2;conv=>whnf);rotate_right)))
 | ((with_reducible refine zcW ?_);(first|((refine zee rfl ?hy ?_);(case hy=>first|assumption|exact notT (by assumption)|exact rfl))|((refine zef rfl ?hy ?_);(case hy=>first|assumption|exact notF (by assumption)|exact rfl))|(revert hF;(with_reducible refine zht ?hx ?_ ?_);(case hx=>exact rfl);all_goals (intro hc hF))))
 | ((with_reducible refine zcm ?_);(first|((with_reducible refine hR _ ?_);clear R hR)|((with_reducible refine hL _ ?_);clear L hL)))
 | ((with_reducible first|refine zbU ?_|refine zbV ?_|refine idx2 (by assumption) ?_|refine idx3 (by assumption) ?_);conv=>whnf)
 | (with_reducible first|refine zbR ?_|refine zck ?_|refine zdp ?_|refine zcB ?_|refine zbo (λ R hR=>?_)|refine zbm ?_|refine zbe ?_|refine zg1 ?_|refine zbC ?_|refine zbn ?_|refine zcl ?_|refine zbX ?_)
 | ((with_reducible refine zco [1000031,1000030,1000011] ?hx ?_);(case hx=>exact rfl))
 | ((with_reducible replace hF:=isE hF);(dsimp only[zj9,zk,zrG,zrH,zkc,zuN,zd5,zeS,zgF] at hF);first|((with_reducible replace hF:=chkE (e:=zfe ..) hF);rewrite[zfe] at hF)|((with_reducible replace hF:=chkE (e:=zff ..) hF);rewrite[zff] at hF)|((with_reducible replace hF:=chkE (e:=zfg ..) hF);rewrite[zfg] at hF)|rewrite[zka] at hF|rewrite[zkb] at hF|rewrite[zoe] at hF)
 | ((with_reducible refine zb0 ?_);(with_reducible replace hF:=zeg 0 hF);((refine Lp.cutI hF rfl rfl ?_ ?_) <;> clear hF);(intro hF);rotate_left;(rintro _ hF);rotate_right)
 | ((with_reducible refine zbb ?_);(with_reducible replace hF:=toLp 2 0 hF);exact Lp.headI hF (_,_) ⟨_,rfl,rfl,rfl,rfl⟩ (pr2 (by first|exact rfl|assumption|omega|(simp only[List.length_set];done)) (by first|exact rfl|assumption|omega|(simp only[List.length_set];done))))
 | ((with_reducible refine zcp ?_);(with_reducible replace hF:=toLp 2 1 hF);((refine Lp.loopI hF (_,_) rfl ⟨_,rfl,rfl,rfl,rfl⟩ (pr2 (by first|exact rfl|assumption|omega|(simp only[List.length_set];done)) (by first|exact rfl|assumption|omega|(simp only[List.length_set];done))) (λ _=>rfl) ?_);clear hF);(rintro n _ hF))
 | ((with_reducible refine zcq ?_);(with_reducible replace hF:=toLp 2 1 hF);exact Lp.backI hF (_,_) ⟨_,rfl,rfl,rfl,rfl⟩ (pr2 (by first|exact rfl|assumption|omega|(simp only[List.length_set];done)) (by first|exact rfl|assumption|omega|(simp only[List.length_set];done))))
 | (revert hF;(with_reducible refine G20.lend ?hx ?_);(case hx=>exact rfl);intro v hF;conv=>whnf)
 | (revert hF;(with_reducible refine G27.step ?hx ?_);(case hx=>exact rfl);intro v hF;conv=>whnf)
 | (revert hF;(with_reducible refine G28.step ?hx ?_);(case hx=>exact rfl);intro v hF;conv=>whnf)
 | (revert hF;(with_reducible refine G29.step ?hx ?_);(case hx=>exact rfl);intro v hF;conv=>whnf)
 | (revert hF;(with_reducible refine G35.lend ?hx ?_);(case hx=>exact rfl);intro v hF;conv=>whnf)
 | (revert hF;(refine G21.step rfl rfl rfl rfl rfl rfl rfl (by first|exact rfl|assumption|omega|(simp only[List.length_set];done)) (by first|exact trivial|exact rfl) ?hn ?_);(case hn=>exact rfl);intro v hF;conv=>whnf)
 | (revert hF;(refine G23.step rfl rfl rfl rfl rfl rfl rfl (by first|exact rfl|assumption|omega|(simp only[List.length_set];done)) (by first|exact trivial|exact rfl) ?hn ?_);(case hn=>exact rfl);intro v hF;conv=>whnf)
 | (revert hF;(refine G32.step rfl rfl rfl rfl rfl rfl rfl (by first|exact rfl|assumption|omega|(simp only[List.length_set];done)) (by first|exact trivial|exact rfl) ?hn ?_);(case hn=>exact rfl);intro v hF;conv=>whnf)
 | (revert hF;(refine G33.step rfl rfl rfl rfl rfl rfl rfl (by first|exact rfl|assumption|omega|(simp only[List.length_set];done)) (by first|exact trivial|exact rfl) ?hn ?_);(case hn=>exact rfl);intro v hF;conv=>whnf)
 | (revert hF;(refine G34.step rfl rfl rfl rfl rfl rfl rfl (by first|exact rfl|assumption|omega|(simp only[List.length_set];done)) (by first|exact trivial|exact rfl) ?hn ?_);(case hn=>exact rfl);intro v hF;conv=>whnf)
 | (revert hF;(refine G36.step rfl rfl rfl rfl rfl rfl rfl (by first|exact rfl|assumption|omega|(simp only[List.length_set];done)) (by first|exact trivial|exact rfl) ?hn ?_);(case hn=>exact rfl);intro v hF;conv=>whnf)
 | (revert hF;(refine G40.step rfl rfl rfl rfl rfl rfl rfl (by first|exact rfl|assumption|omega|(simp only[List.length_set];done)) (by first|exact trivial|exact rfl) ?hn ?_);(case hn=>exact rfl);intro v hF;conv=>whnf)
 | (cases hF;(refine Or.inl ?_);(conv=>whnf);exact⟨rfl,rfl,rfl⟩)
 | (revert hF;(with_reducible refine idx1 ?hn ?_);(case hn=>first|exact rfl|exact(List.length_map _)|assumption|omega|simp);intro x hx hF;conv=>whnf)
 | ((refine zed ?hn ?_);(case hn=>first|exact rfl|(simp;done)|(simp;omega));conv=>whnf)
 | ((with_reducible refine zgm ?hx ?_);(case hx=>first|exact rfl|assumption|exact notT (by assumption));conv=>whnf)
 | ((with_reducible refine zgn ?hx ?_);(case hx=>first|exact rfl|assumption|exact notF (by assumption));conv=>whnf)
 | with_reducible refine zeU ?_)
theorem P41:CallOK Tryz.prog 41 (effPg zrI G41):=zbf Q41


end Go.Vc
