/-
  A library for proofs about Go functions by symbolic evaluation,and plain Lean functions that the walked Go functions compute (written by a program of this claim).
-/
import Derived.Test.YtijmkjnlgcockaaGreatDoorFLNF1
import Derived.Test.YtijmkjnlgcockaaGreatDoorFLNF2
import Derived.Test.YtijmkjnlgcockaaGreatDoorFLNF3
import Derived.Test.YtijmkjnlgcockaaGreatDoorFLNF4
set_option linter.unusedVariables false
set_option linter.unnecessarySimpa false
set_option linter.unusedSimpArgs false
namespace Go.Vc
open Go.Proofs
set_option maxRecDepth 20000 in
set_option maxHeartbeats 4000000 in
theorem P118:PureOK Tryz.prog 118 G118:=by
 refine zad (c:=zan zae [(147,true,lendPg [[1],[0]] G147),(146,true,lendPg [[1],[1]] G146)]) rfl tyOK (zaj (za Tryz.func147 rfl rfl) P147 (zaj (za Tryz.func146 rfl rfl) P146 (zac))) [[0],[0]] 2 Tryz.func118 rfl rfl (by decide) (by kernel_rfl) ?_;rintro ds d ⟨N,a0,a1,r,rfl,hF,rfl⟩ hok;clear hok;refine⟨rfl, ?_⟩;show vc _ _ _ _ ⟨[(0, .dat (zav a0)),(1, .dat (za8 a1))],[]⟩ _;unfold f118 at hF;exact wk8

set_option maxRecDepth 20000 in
set_option maxHeartbeats 4000000 in
theorem P81:PureOK Tryz.prog 81 G81:=by
 refine zad (c:=zan zae [(114,true,lendPg [[4,7,4],[0,1,1]] G114),(113,true,lendPg [[4,7,4],[0,1,1]] G113),(112,true,lendPg [[4,7,4],[0]] G112),(90,true,zcJ [[1]] G90)]) rfl tyOK (zaj (za Tryz.func114 rfl rfl) P114 (zaj (za Tryz.func113 rfl rfl) P113 (zaj (za Tryz.func112 rfl rfl) P112 (zbP (za Tryz.func90 rfl rfl) P90 (zac))))) [[0]] 2 Tryz.func81 rfl rfl (by decide) (by kernel_rfl) ?_;rintro ds d ⟨N,a0,a1,r,rfl,hF,rfl⟩ hok;clear hok;refine⟨rfl, ?_⟩;show vc _ _ _ _ ⟨[(0, .ep [bN a0.made,zaq a0.lines]),(1, .dat (Order.d a1))],[]⟩ _;unfold f81 at hF;exact wk3

set_option maxRecDepth 20000 in
set_option maxHeartbeats 4000000 in
theorem Q17 (N:Nat):CallOK Tryz.prog 17 (effPg zo8 (H17 N)):=by
 induction N with
 | zero=>exact zaP λ x y h=>(by cases (show (none:Option (Int))=some y from h))
 | succ N ih =>
  refine zaA (c:=zan zae [(17,true,effPg zo8 (H17 N)),(51,true,effPg zo7 G51)]) rfl tyOK (zak (za Tryz.func17 rfl rfl) ih (zak (za Tryz.func51 rfl rfl) P51 (zac))) 1000 Srf17 zxF Tryz.func17 rfl rfl (by kernel_rfl) rfl rfl rfl rfl rfl rfl rfl rfl (λ _=>rfl) (λ _=>rfl) (λ _ _=>⟨rfl,rfl⟩) ?_;rintro⟨s0,s1,s2,s3,s4⟩ y hF;have hF:f17b (f17 N) N s0 s1 s2 s3 s4=some y:=hF;show vc _ _ _ _ ⟨[(0, .ptr 0 0),(1, .dat (strN s0))],[(0, .box [.ptr 1 0, .rs 2 (List.length s1)]),(1, .box [.mp 3, .mp 4, .mp 5]),(2,(rW s1)),(3,(sW [4] s2)),(4,(eW s3)),(5,(mW s4))]⟩ _;unfold f17b at hF;exact wk10
theorem P17:CallOK Tryz.prog 17 (effPg zo8 G17):=zbv Q17

set_option maxRecDepth 20000 in
set_option maxHeartbeats 4000000 in
theorem Q18 (N:Nat):CallOK Tryz.prog 18 (effPg zo9 (H18 N)):=by
 induction N with
 | zero=>exact zaP λ x y h=>(by cases (show (none:Option (Int×LS×LE×LC×LB))=some y from h))
 | succ N ih =>
  refine zaA (c:=zan zae [(18,true,effPg zo9 (H18 N)),(214,true,effPg zlB G214),(211,true,effPg zlO G211),(209,true,effPg zlA G209),(207,true,effPg zlz G207),(205,true,effPg zly G205),(203,true,effPg zlx G203),(201,true,effPg zlw G201),(199,true,effPg zlv G199),(197,true,effPg zlu G197),(51,true,effPg zo7 G51)]) rfl tyOK (zak (za Tryz.func18 rfl rfl) ih (zak (za Tryz.func214 rfl rfl) P214 (zak (za Tryz.func211 rfl rfl) P211 (zak (za Tryz.func209 rfl rfl) P209 (zak (za Tryz.func207 rfl rfl) P207 (zak (za Tryz.func205 rfl rfl) P205 (zak (za Tryz.func203 rfl rfl) P203 (zak (za Tryz.func201 rfl rfl) P201 (zak (za Tryz.func199 rfl rfl) P199 (zak (za Tryz.func197 rfl rfl) P197 (zak (za Tryz.func51 rfl rfl) P51 (zac)))))))))))) 1000 Srf18 zxG Tryz.func18 rfl rfl (by kernel_rfl) rfl rfl rfl rfl rfl rfl rfl rfl (λ _=>rfl) (λ _=>rfl) (λ _ _=>⟨rfl,rfl⟩) ?_;rintro⟨s0,s1,s2,s3,s4⟩ y hF;have hF:f18b (f18 N) N s0 s1 s2 s3 s4=some y:=hF;show vc _ _ _ _ ⟨[(0, .ptr 0 0),(1, .dat (strN s0))],[(0, .box [.ptr 1 0, .rs 2 (List.length s1)]),(1, .box [.mp 3, .mp 4, .mp 5]),(2,(rW s1)),(3,(sW [4] s2)),(4,(eW s3)),(5,(mW s4))]⟩ _;unfold f18b at hF;exact wk10
theorem P18:CallOK Tryz.prog 18 (effPg zo9 G18):=zbv Q18

set_option maxRecDepth 20000 in
set_option maxHeartbeats 4000000 in
theorem P83:PureOK Tryz.prog 83 G83:=by
 refine zad (c:=zan zae [(118,true,lendPg [[1],[1]] G118),(117,true,lendPg [[0],[0],[0]] G117),(116,true,lendPg [[1]] G116)]) rfl tyOK (zaj (za Tryz.func118 rfl rfl) P118 (zaj (za Tryz.func117 rfl rfl) P117 (zaj (za Tryz.func116 rfl rfl) P116 (zac)))) [[1],[0]] 3 Tryz.func83 rfl rfl (by decide) (by kernel_rfl) ?_;rintro ds d ⟨N,a0,a1,a2,r,rfl,hF,rfl⟩ hok;clear hok;refine⟨rfl, ?_⟩;show vc _ _ _ _ ⟨[(0, .dat (zav a0)),(1, .dat (iN a1)),(2, .dat (iN a2))],[]⟩ _;unfold f83 at hF;exact wk11

set_option maxRecDepth 20000 in
set_option maxHeartbeats 4000000 in
theorem P52:PureOK Tryz.prog 52 G52:=by
 refine zad (c:=zan zae [(81,true,lendPg [[0,1],[0,1,1]] G81),(80,true,zcJ [[0]] G80),(55,true,lendPg [[0,1]] G55)]) rfl tyOK (zaj (za Tryz.func81 rfl rfl) P81 (zbP (za Tryz.func80 rfl rfl) P80 (zaj (za Tryz.func55 rfl rfl) P55 (zac)))) [[0]] 2 Tryz.func52 rfl rfl (by decide) (by kernel_rfl) ?_;rintro ds d ⟨N,a0,a1,r,rfl,hF,rfl⟩ hok;clear hok;refine⟨rfl, ?_⟩;show vc _ _ _ _ ⟨[(0, .ep [bN a0.made,zaq a0.lines]),(1, .dat (strN a1))],[]⟩ _;unfold f52 at hF;exact wk8

set_option maxRecDepth 20000 in
set_option maxHeartbeats 4000000 in
theorem P57:PureOK Tryz.prog 57 G57:=by
 refine zad (c:=zan zae [(85,false,zbC (zan zae [(82,true,copyPg 106)]) Tryz.f85),(58,false,zbC (zan zae []) Tryz.f58),(84,true,zcJ [] G84),(83,true,zcJ [[1],[0],[0]] G83)]) rfl tyOK (zaG (za Tryz.func85 rfl rfl) (CallOK.inl rfl tyOK (znX (za Tryz.func82 rfl rfl) (zac)) Tryz.func85 (by kernel_rfl)) (zaG (za Tryz.func58 rfl rfl) (CallOK.inl rfl tyOK (zac) Tryz.func58 (by kernel_rfl)) (zbP (za Tryz.func84 rfl rfl) P84 (zbP (za Tryz.func83 rfl rfl) P83 (zac))))) [[0]] 1 Tryz.func57 rfl rfl (by decide) (by kernel_rfl) ?_;rintro ds d ⟨N,a0,r,rfl,hF,rfl⟩ hok;clear hok;refine⟨rfl, ?_⟩;show vc _ _ _ _ ⟨[(0, .dat (strN a0))],[]⟩ _;unfold f57 at hF;exact wk11

set_option maxRecDepth 20000 in
set_option maxHeartbeats 4000000 in
theorem Q23 (N:Nat):CallOK Tryz.prog 23 (effPg zp (H23 N)):=by
 induction N with
 | zero=>exact zaP λ x y h=>(by cases (show (none:Option (ByteArray))=some y from h))
 | succ N ih =>
  refine zaA (c:=zan zae [(23,true,effPg zp (H23 N)),(58,false,zbC (zan zae []) Tryz.f58),(56,false,zbC (zan zae [(82,true,copyPg 106)]) Tryz.f56),(53,false,zbC (zan zae []) Tryz.f53),(57,true,lendPg [[0]] G57),(30,true,lendPg [[0]] G30)]) rfl tyOK (zak (za Tryz.func23 rfl rfl) ih (zaG (za Tryz.func58 rfl rfl) (CallOK.inl rfl tyOK (zac) Tryz.func58 (by kernel_rfl)) (zaG (za Tryz.func56 rfl rfl) (CallOK.inl rfl tyOK (znX (za Tryz.func82 rfl rfl) (zac)) Tryz.func56 (by kernel_rfl)) (zaG (za Tryz.func53 rfl rfl) (CallOK.inl rfl tyOK (zac) Tryz.func53 (by kernel_rfl)) (zaj (za Tryz.func57 rfl rfl) P57 (zaj (za Tryz.func30 rfl rfl) P30 (zac))))))) 1000 Srf23 zxH Tryz.func23 rfl rfl (by kernel_rfl) rfl rfl rfl rfl rfl rfl rfl rfl (λ _=>rfl) (λ _=>rfl) (λ _ _=>⟨rfl,rfl⟩) ?_;rintro⟨s0,s1,s2,s3⟩ y hF;have hF:f23b (f23 N) N s0 s1 s2 s3=some y:=hF;show vc _ _ _ _ ⟨[(0, .ptr 0 0)],[(0, .box [.ptr 1 0, .rs 2 (List.length s0)]),(1, .box [.mp 3, .mp 4, .mp 5]),(2,(rW s0)),(3,(sW [4] s1)),(4,(eW s2)),(5,(mW s3))]⟩ _;unfold f23b at hF;exact wk11
theorem P23:CallOK Tryz.prog 23 (effPg zp G23):=zbv Q23

set_option maxRecDepth 20000 in
set_option maxHeartbeats 4000000 in
theorem P14:PureOK Tryz.prog 14 G14:=by
 refine zad (c:=zan zae [(15,false,zbC (zan zae []) Tryz.f15),(40,true,effPg zrd G40),(36,true,effPg zrc G36),(34,true,effPg zrb G34),(33,true,effPg zra G33),(32,true,effPg zr G32),(23,true,effPg zp G23),(18,true,effPg zo9 G18),(17,true,effPg zo8 G17),(44,true,zcJ [] G44),(35,true,lendPg [[1],[1]] G35)]) rfl tyOK (zaG (za Tryz.func15 rfl rfl) (CallOK.inl rfl tyOK (zac) Tryz.func15 (by kernel_rfl)) (zak (za Tryz.func40 rfl rfl) P40 (zak (za Tryz.func36 rfl rfl) P36 (zak (za Tryz.func34 rfl rfl) P34 (zak (za Tryz.func33 rfl rfl) P33 (zak (za Tryz.func32 rfl rfl) P32 (zak (za Tryz.func23 rfl rfl) P23 (zak (za Tryz.func18 rfl rfl) P18 (zak (za Tryz.func17 rfl rfl) P17 (zbP (za Tryz.func44 rfl rfl) P44 (zaj (za Tryz.func35 rfl rfl) P35 (zac)))))))))))) [[0]] 0 Tryz.func14 rfl rfl (by decide) (by kernel_rfl) ?_;rintro ds d ⟨N,r,rfl,hF,rfl⟩ hok;clear hok;refine⟨rfl, ?_⟩;show vc _ _ _ _ ⟨[],[]⟩ _;unfold f14 at hF
 repeat' (first
 | ((with_reducible first|refine q0 _ _ ?_|refine q1 _ _ _ _ ?_|refine q2 _ _ _ ?_);clear Q q0 q1 q2)
 | ((with_reducible first|refine zcW ?hx (λ Q q0 q1 q2=>?_)|refine zdm ?hx (λ Q q0 q1 q2=>?_));(case hx=>exact rfl);conv=>whnf)
 | ((with_reducible first|refine zd6 ?hx ?_|refine zc5 ?hx ?_|refine zcB ?hx ?_|refine zc4 ?hx ?_);(case hx=>exact rfl))
 | ((with_reducible refine zeb ?_);(first|((first|refine zec rfl ?hy (λ Q q0 q1 q2=>?_)|refine zdd rfl ?hy (λ Q q0 q1 q2=>?_));(case hy=>first|assumption|exact notT (by assumption)|exact rfl);conv=>whnf)|((first|refine zdc rfl ?hy ?_|refine zcE rfl ?hy ?_);(case hy=>first|assumption|exact notF (by assumption)|exact rfl))|(revert hF;(with_reducible first|refine zed ?hx ?_ ?_|refine zde ?hx ?_ ?_);(case hx=>exact rfl);(intro hc hF Q q0 q1 q2;conv=>whnf);rotate_left;(intro hc hF);rotate_right)|(revert hF;(with_reducible first|refine zee ?hx ?_ ?_|refine zdf ?hx ?_ ?_);(case hx=>exact rfl);(intro hc hF);rotate_left;(intro hc hF Q q0 q1 q2;conv=>whnf);rotate_right)))
 | ((with_reducible refine zct ?_);(first|((refine zdD rfl ?hy ?_);(case hy=>first|assumption|exact notT (by assumption)|exact rfl))|((refine zdE rfl ?hy ?_);(case hy=>first|assumption|exact notF (by assumption)|exact rfl))|(revert hF;(with_reducible refine zgf ?hx ?_ ?_);(case hx=>exact rfl);all_goals (intro hc hF))))
 | ((with_reducible refine zeb ?_);(refine zi2 zyy zyv (ks:=[]) rfl rfl ?_);dsimp only[St.kid];(first|((with_reducible refine hR _ ?_);clear R hR)|((with_reducible refine hL _ ?_);clear L hL)))
 | ((with_reducible refine zeb ?_);(refine zi2 2201000100 2201000101 (ks:=[]) rfl rfl ?_);dsimp only[St.kid];(first|((with_reducible refine hR _ ?_);clear R hR)|((with_reducible refine hL _ ?_);clear L hL)))
 | ((with_reducible refine zb1 ?_);(first|((with_reducible refine hR _ ?_);clear R hR)|((with_reducible refine hL _ ?_);clear L hL)))
 | ((with_reducible first|refine zbQ ?_|refine zcj ?_|refine idx2 (by assumption) ?_|refine idx3 (by assumption) ?_);conv=>whnf)
 | (with_reducible first|refine zbI ?_|refine zb0 ?_|refine zcU ?_|refine zce ?_|refine zbh (λ R hR=>?_)|refine zbg ?_|refine za7 ?_|refine zf5 ?_|refine zbw ?_|refine zbe ?_|refine zca ?_|refine zbJ ?_)
 | ((with_reducible refine zb7 [23,8,6] ?hx ?_);(case hx=>exact rfl))
 | ((with_reducible replace hF:=isE hF);(dsimp only[zk,zm7,zm8,zue,zrl] at hF);first|((with_reducible replace hF:=chkE (e:=ziR ..) hF);rewrite[ziR] at hF)|rewrite[zhU] at hF|rewrite[zlT] at hF|rewrite[zud] at hF)
 | ((with_reducible refine zb8 ?_);(with_reducible replace hF:=zds 1 hF);((refine Lp.cutI hF rfl rfl ?_ ?_) <;> clear hF);(intro hF);rotate_left;(rintro _ hF);rotate_right)
 | ((with_reducible refine zb9 ?_);(with_reducible replace hF:=toLp 2 1 hF);exact Lp.headI hF (_,_) ⟨_,rfl,rfl,rfl,rfl⟩ (pr2 (by first|exact rfl|assumption|omega|(simp only[List.length_set];done)) (by first|exact rfl|assumption|omega|(simp only[List.length_set];done))))
 | ((with_reducible refine zb8 ?_);(with_reducible replace hF:=zds 4 hF);((refine Lp.cutI hF rfl rfl ?_ ?_) <;> clear hF);(intro hF);rotate_left;(rintro⟨_,_,_,_⟩ hF);rotate_right)
 | ((with_reducible refine zb9 ?_);(with_reducible replace hF:=toLp 1 4 hF);exact Lp.headI hF (_,()) ⟨_,rfl,rfl,rfl,rfl⟩ (pr2 (by first|exact rfl|assumption|omega|(simp only[List.length_set];done)) rfl))
 | ((with_reducible refine zb8 ?_);(with_reducible replace hF:=zds 0 hF);((refine Lp.cutI hF rfl rfl ?_ ?_) <;> clear hF);(intro hF);rotate_left;(rintro _ hF);rotate_right)
 | ((with_reducible refine zb9 ?_);(with_reducible replace hF:=toLp 1 0 hF);exact Lp.headI hF (_,()) ⟨_,rfl,rfl,rfl,rfl⟩ (pr2 (by first|exact rfl|assumption|omega|(simp only[List.length_set];done)) rfl))
 | ((with_reducible refine zdR ?_);(with_reducible replace hF:=toLp 1 5 hF);((refine Lp.loopI hF (_,()) rfl ⟨_,rfl,rfl,rfl,rfl⟩ (pr2 (by first|exact rfl|assumption|omega|(simp only[List.length_set];done)) rfl) (λ _=>rfl) ?_);clear hF);(rintro n ⟨_,_,_,_,_⟩ hF))
 | ((with_reducible refine zdS ?_);(with_reducible replace hF:=toLp 1 5 hF);exact Lp.backI hF (_,()) ⟨_,rfl,rfl,rfl,rfl⟩ (pr2 (by first|exact rfl|assumption|omega|(simp only[List.length_set];done)) rfl))
 | (revert hF;(with_reducible refine G35.lend ?hx ?_);(case hx=>exact rfl);intro v hF;conv=>whnf)
 | (revert hF;(with_reducible refine G44.step ?hx ?_);(case hx=>exact rfl);intro v hF;conv=>whnf)
 | (revert hF;(refine G17.step rfl rfl rfl rfl rfl rfl rfl (by first|exact rfl|assumption|omega|(simp only[List.length_set];done)) (by first|exact trivial|exact rfl) ?hn ?_);(case hn=>exact rfl);intro v hF;conv=>whnf)
 | (revert hF;(refine G18.step rfl rfl rfl rfl rfl rfl rfl (by first|exact rfl|assumption|omega|(simp only[List.length_set];done)) (by first|exact trivial|exact rfl) ?hn ?_);(case hn=>exact rfl);intro v hF;conv=>whnf)
 | (revert hF;(refine G23.step rfl rfl rfl rfl rfl rfl rfl (by first|exact rfl|assumption|omega|(simp only[List.length_set];done)) (by first|exact trivial|exact rfl) ?hn ?_);(case hn=>exact rfl);intro v hF;conv=>whnf)
 | (revert hF;(refine G32.step rfl rfl rfl rfl rfl rfl rfl (by first|exact rfl|assumption|omega|(simp only[List.length_set];done)) (by first|exact trivial|exact rfl) ?hn ?_);(case hn=>exact rfl);intro v hF;conv=>whnf)
 | (revert hF;(refine G33.step rfl rfl rfl rfl rfl rfl rfl (by first|exact rfl|assumption|omega|(simp only[List.length_set];done)) (by first|exact trivial|exact rfl) ?hn ?_);(case hn=>exact rfl);intro v hF;conv=>whnf)
 | (revert hF;(refine G34.step rfl rfl rfl rfl rfl rfl rfl (by first|exact rfl|assumption|omega|(simp only[List.length_set];done)) (by first|exact trivial|exact rfl) ?hn ?_);(case hn=>exact rfl);intro v hF;conv=>whnf)
 | (revert hF;(refine G36.step rfl rfl rfl rfl rfl rfl rfl (by first|exact rfl|assumption|omega|(simp only[List.length_set];done)) (by first|exact trivial|exact rfl) ?hn ?_);(case hn=>exact rfl);intro v hF;conv=>whnf)
 | (revert hF;(refine G40.step rfl rfl rfl rfl rfl rfl rfl (by first|exact rfl|assumption|omega|(simp only[List.length_set];done)) (by first|exact trivial|exact rfl) ?hn ?_);(case hn=>exact rfl);intro v hF;conv=>whnf)
 | (revert hF;(with_reducible refine idx1 ?hn ?_);(case hn=>first|exact rfl|exact(List.length_map _)|assumption|omega|simp);intro x hx hF;conv=>whnf)
 | ((refine zfe ?hn ?_);(case hn=>first|exact rfl|(simp;done)|(simp;omega));conv=>whnf)
 | ((with_reducible refine zgu ?hx ?_);(case hx=>first|exact rfl|assumption|exact notT (by assumption));conv=>whnf)
 | ((with_reducible refine zeX ?hx ?_);(case hx=>first|exact rfl|assumption|exact notF (by assumption));conv=>whnf)
 | ((refine zay 100 101000000 rfl rfl (zyt rfl) rfl (λ R hR=>?_));(conv=>whnf);(with_reducible refine hR _ ?ha ?_);(case ha=>exact rfl);clear R hR)
 | ((refine zay 2200 2201000000 rfl rfl (zyt rfl) rfl (λ R hR=>?_));(conv=>whnf);(with_reducible refine hR _ ?ha ?_);(case ha=>exact rfl);clear R hR)
 | (show Kinl _ _ _ _ _ _ _;conv=>whnf)
 | ((with_reducible refine zcD ?ha ?hb ?_);(case ha=>exact rfl);(case hb=>exact rfl);conv=>whnf)
 | ((refine⟨?hx,trivial⟩);(case hx=>(cases hF;exact rfl)))
 | ((refine⟨?hx, ?_⟩);(case hx=>decide);conv=>whnf)
 | with_reducible refine zd5 ?_)


end Go.Vc
