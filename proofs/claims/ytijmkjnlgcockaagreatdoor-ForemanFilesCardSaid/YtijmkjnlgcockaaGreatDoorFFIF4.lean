/-
  A library for proofs about Go functions by symbolic evaluation,and plain Lean functions that the walked Go functions compute (written by a program of this claim).
-/
import Derived.Test.YtijmkjnlgcockaaGreatDoorFFIF1
import Derived.Test.YtijmkjnlgcockaaGreatDoorFFIF2
import Derived.Test.YtijmkjnlgcockaaGreatDoorFFIF3
set_option linter.unusedVariables false
set_option linter.unnecessarySimpa false
set_option linter.unusedSimpArgs false
namespace Go.Vc
open Go.Proofs
set_option maxRecDepth 20000 in
set_option maxHeartbeats 4000000 in
theorem Q33 (N:Nat):CallOK Tryz.prog 33 (effPg zsn (H33 N)):=by
 induction N with
 | zero=>exact zaR λ x y h=>(by cases (show (none:Option ((List Int)×Int))=some y from h))
 | succ N ih =>
  refine zaB (c:=zam zaf [(33,true,effPg zsn (H33 N)),(63,false,zbv (zam zaf []) Tryz.f63),(62,false,zbv (zam zaf [(53,false,zbv (zam zaf []) Tryz.f53),(61,true,lendPg [[0]] G61)]) Tryz.f62)]) rfl tyOK (zak (za Tryz.func33 rfl rfl) ih (zaH (za Tryz.func63 rfl rfl) (CallOK.inl rfl tyOK (zac) Tryz.func63 (by kernel_rfl)) (zaH (za Tryz.func62 rfl rfl) (CallOK.inl rfl tyOK (zaH (za Tryz.func53 rfl rfl) (CallOK.inl rfl tyOK (zac) Tryz.func53 (by kernel_rfl)) (zad (za Tryz.func61 rfl rfl) P61 (zac))) Tryz.func62 (by kernel_rfl)) (zac)))) 1000 Srf33 zzq Tryz.func33 rfl rfl (by kernel_rfl) rfl rfl rfl rfl rfl rfl rfl rfl (λ _=>rfl) (λ _=>rfl) (λ _ _=>⟨rfl,rfl⟩) ?_;rintro⟨s0,s1,s2,s3,s4⟩ y hF;have hF:f33b (f33 N) N s0 s1 s2 s3 s4=some y:=hF;show vc _ _ _ _ ⟨[(0, .ptr 0 0),(1, .dat (strN s0))],[(0, .box [.ptr 1 0, .rs 2 (List.length s1)]),(1, .box [.mp 3, .mp 4, .mp 5]),(2,(rW s1)),(3,(sW [4] s2)),(4,(eW s3)),(5,(mW s4))]⟩ _;unfold f33b at hF;exact wk3
theorem P33:CallOK Tryz.prog 33 (effPg zsn G33):=zbu Q33

set_option maxRecDepth 20000 in
set_option maxHeartbeats 4000000 in
theorem Q34 (N:Nat):CallOK Tryz.prog 34 (effPg zso (H34 N)):=by
 induction N with
 | zero=>exact zaR λ x y h=>(by cases (show (none:Option (Tally×Int))=some y from h))
 | succ N ih =>
  refine zaB (c:=zam zaf [(34,true,effPg zso (H34 N)),(62,false,zbv (zam zaf [(53,false,zbv (zam zaf []) Tryz.f53),(61,true,lendPg [[0]] G61)]) Tryz.f62),(64,true,lendPg [[0,0,1,0,0,0,0,0,0],[0]] G64)]) rfl tyOK (zak (za Tryz.func34 rfl rfl) ih (zaH (za Tryz.func62 rfl rfl) (CallOK.inl rfl tyOK (zaH (za Tryz.func53 rfl rfl) (CallOK.inl rfl tyOK (zac) Tryz.func53 (by kernel_rfl)) (zad (za Tryz.func61 rfl rfl) P61 (zac))) Tryz.func62 (by kernel_rfl)) (zad (za Tryz.func64 rfl rfl) P64 (zac)))) 1000 Srf34 zzr Tryz.func34 rfl rfl (by kernel_rfl) rfl rfl rfl rfl rfl rfl rfl rfl (λ _=>rfl) (λ _=>rfl) (λ _ _=>⟨rfl,rfl⟩) ?_;rintro⟨s0,s1,s2,s3,s4⟩ y hF;have hF:f34b (f34 N) N s0 s1 s2 s3 s4=some y:=hF;show vc _ _ _ _ ⟨[(0, .ptr 0 0),(1, .dat (strN s0))],[(0, .box [.ptr 1 0, .rs 2 (List.length s1)]),(1, .box [.mp 3, .mp 4, .mp 5]),(2,(rW s1)),(3,(sW [4] s2)),(4,(eW s3)),(5,(mW s4))]⟩ _;unfold f34b at hF;exact wk3
theorem P34:CallOK Tryz.prog 34 (effPg zso G34):=zbu Q34

set_option maxRecDepth 20000 in
set_option maxHeartbeats 4000000 in
theorem Q36 (N:Nat):CallOK Tryz.prog 36 (effPg zsp (H36 N)):=by
 induction N with
 | zero=>exact zaR λ x y h=>(by cases (show (none:Option (Int×Int))=some y from h))
 | succ N ih =>
  refine zaB (c:=zam zaf [(36,true,effPg zsp (H36 N)),(62,false,zbv (zam zaf [(53,false,zbv (zam zaf []) Tryz.f53),(61,true,lendPg [[0]] G61)]) Tryz.f62),(53,false,zbv (zam zaf []) Tryz.f53),(61,true,lendPg [[0]] G61)]) rfl tyOK (zak (za Tryz.func36 rfl rfl) ih (zaH (za Tryz.func62 rfl rfl) (CallOK.inl rfl tyOK (zaH (za Tryz.func53 rfl rfl) (CallOK.inl rfl tyOK (zac) Tryz.func53 (by kernel_rfl)) (zad (za Tryz.func61 rfl rfl) P61 (zac))) Tryz.func62 (by kernel_rfl)) (zaH (za Tryz.func53 rfl rfl) (CallOK.inl rfl tyOK (zac) Tryz.func53 (by kernel_rfl)) (zad (za Tryz.func61 rfl rfl) P61 (zac))))) 1000 Srf36 zzs Tryz.func36 rfl rfl (by kernel_rfl) rfl rfl rfl rfl rfl rfl rfl rfl (λ _=>rfl) (λ _=>rfl) (λ _ _=>⟨rfl,rfl⟩) ?_;rintro⟨s0,s1,s2,s3,s4,s5⟩ y hF;have hF:f36b (f36 N) N s0 s1 s2 s3 s4 s5=some y:=hF;show vc _ _ _ _ ⟨[(0, .ptr 0 0),(1, .dat (strN s0)),(2, .dat (strN s1))],[(0, .box [.ptr 1 0, .rs 2 (List.length s2)]),(1, .box [.mp 3, .mp 4, .mp 5]),(2,(rW s2)),(3,(sW [4] s3)),(4,(eW s4)),(5,(mW s5))]⟩ _;unfold f36b at hF;exact wk3
theorem P36:CallOK Tryz.prog 36 (effPg zsp G36):=zbu Q36

set_option maxRecDepth 20000 in
set_option maxHeartbeats 4000000 in
theorem Q40 (N:Nat):CallOK Tryz.prog 40 (effPg zsq (H40 N)):=by
 induction N with
 | zero=>exact zaR λ x y h=>(by cases (show (none:Option (Int×Int))=some y from h))
 | succ N ih =>
  refine zaB (c:=zam zaf [(40,true,effPg zsq (H40 N)),(62,false,zbv (zam zaf [(53,false,zbv (zam zaf []) Tryz.f53),(61,true,lendPg [[0]] G61)]) Tryz.f62),(64,true,lendPg [[0,0,1,0,0,0,0,0,0],[0]] G64)]) rfl tyOK (zak (za Tryz.func40 rfl rfl) ih (zaH (za Tryz.func62 rfl rfl) (CallOK.inl rfl tyOK (zaH (za Tryz.func53 rfl rfl) (CallOK.inl rfl tyOK (zac) Tryz.func53 (by kernel_rfl)) (zad (za Tryz.func61 rfl rfl) P61 (zac))) Tryz.func62 (by kernel_rfl)) (zad (za Tryz.func64 rfl rfl) P64 (zac)))) 1000 Srf40 zzt Tryz.func40 rfl rfl (by kernel_rfl) rfl rfl rfl rfl rfl rfl rfl rfl (λ _=>rfl) (λ _=>rfl) (λ _ _=>⟨rfl,rfl⟩) ?_;rintro⟨s0,s1,s2,s3,s4⟩ y hF;have hF:f40b (f40 N) N s0 s1 s2 s3 s4=some y:=hF;show vc _ _ _ _ ⟨[(0, .ptr 0 0),(1, .dat (strN s0))],[(0, .box [.ptr 1 0, .rs 2 (List.length s1)]),(1, .box [.mp 3, .mp 4, .mp 5]),(2,(rW s1)),(3,(sW [4] s2)),(4,(eW s3)),(5,(mW s4))]⟩ _;unfold f40b at hF;exact wk3
theorem P40:CallOK Tryz.prog 40 (effPg zsq G40):=zbu Q40

set_option maxRecDepth 20000 in
set_option maxHeartbeats 4000000 in
theorem P24:PureOK Tryz.prog 24 G24:=by
 refine zae (c:=zam zaf [(59,true,lendPg [[0]] G59),(55,true,lendPg [[0,1]] G55),(30,true,lendPg [[0]] G30)]) rfl tyOK (zad (za Tryz.func59 rfl rfl) P59 (zad (za Tryz.func55 rfl rfl) P55 (zad (za Tryz.func30 rfl rfl) P30 (zac)))) [[0]] 1 Tryz.func24 rfl rfl (by decide) (by kernel_rfl) ?_;rintro ds d ⟨N,a0,r,rfl,hF,rfl⟩ hok;clear hok;refine⟨rfl, ?_⟩;show vc _ _ _ _ ⟨[(0, .ep [bN a0.made,zau a0.lines])],[]⟩ _;unfold f24 at hF;exact wk1

set_option maxRecDepth 20000 in
set_option maxHeartbeats 4000000 in
theorem P80:PureOK Tryz.prog 80 G80:=by
 refine zae (c:=zam zaf [(111,true,lendPg [[0]] G111),(110,true,lendPg [[0]] G110),(109,true,zcF [[0]] G109),(89,true,lendPg [[0]] G89),(71,true,lendPg [[0],[0],[0]] G71)]) rfl tyOK (zad (za Tryz.func111 rfl rfl) P111 (zad (za Tryz.func110 rfl rfl) P110 (zbI (za Tryz.func109 rfl rfl) P109 (zad (za Tryz.func89 rfl rfl) P89 (zad (za Tryz.func71 rfl rfl) P71 (zac)))))) [[0,1,1],[0]] 1 Tryz.func80 rfl rfl (by decide) (by kernel_rfl) ?_;rintro ds d ⟨N,a0,r,rfl,hF,rfl⟩ hok;clear hok;refine⟨rfl, ?_⟩;show vc _ _ _ _ ⟨[(0, .dat (strN a0))],[]⟩ _;unfold f80 at hF;exact wk1

set_option maxRecDepth 20000 in
set_option maxHeartbeats 4000000 in
theorem P113:PureOK Tryz.prog 113 G113:=by
 refine zae (c:=zam zaf [(126,true,lendPg [[4,7,4],[0]] G126),(112,true,lendPg [[4,7,4],[0]] G112),(94,true,lendPg [[0,0,1,0,0,0,0],[0]] G94),(91,true,lendPg [[4,7,4],[0]] G91)]) rfl tyOK (zad (za Tryz.func126 rfl rfl) P126 (zad (za Tryz.func112 rfl rfl) P112 (zad (za Tryz.func94 rfl rfl) P94 (zad (za Tryz.func91 rfl rfl) P91 (zac))))) [[0]] 2 Tryz.func113 rfl rfl (by decide) (by kernel_rfl) ?_;rintro ds d ⟨N,a0,a1,r,rfl,hF,rfl⟩ hok;clear hok;refine⟨rfl, ?_⟩;show vc _ _ _ _ ⟨[(0, .dat (StateS.d a0)),(1, .dat (Order.d a1))],[]⟩ _;unfold f113 at hF;exact wk2

set_option maxRecDepth 20000 in
set_option maxHeartbeats 4000000 in
theorem P114:PureOK Tryz.prog 114 G114:=by
 refine zae (c:=zam zaf [(139,true,lendPg [[4,7,4],[0]] G139),(126,true,lendPg [[4,7,4],[0]] G126),(112,true,lendPg [[4,7,4],[0]] G112),(95,true,lendPg [[4,7,4],[0],[0]] G95),(94,true,lendPg [[0,0,1,0,0,0,0],[0]] G94)]) rfl tyOK (zad (za Tryz.func139 rfl rfl) P139 (zad (za Tryz.func126 rfl rfl) P126 (zad (za Tryz.func112 rfl rfl) P112 (zad (za Tryz.func95 rfl rfl) P95 (zad (za Tryz.func94 rfl rfl) P94 (zac)))))) [[0]] 2 Tryz.func114 rfl rfl (by decide) (by kernel_rfl) ?_;rintro ds d ⟨N,a0,a1,r,rfl,hF,rfl⟩ hok;clear hok;refine⟨rfl, ?_⟩;show vc _ _ _ _ ⟨[(0, .dat (StateS.d a0)),(1, .dat (Order.d a1))],[]⟩ _;unfold f114 at hF;exact wk2

set_option maxRecDepth 20000 in
set_option maxHeartbeats 4000000 in
theorem P76:PureOK Tryz.prog 76 G76:=by
 refine zae (c:=zam zaf [(86,true,lendPg [[0]] G86),(59,true,lendPg [[0]] G59)]) rfl tyOK (zad (za Tryz.func86 rfl rfl) P86 (zad (za Tryz.func59 rfl rfl) P59 (zac))) [[0],[0]] 1 Tryz.func76 rfl rfl (by decide) (by kernel_rfl) ?_;rintro ds d ⟨N,a0,r,rfl,hF,rfl⟩ hok;clear hok;refine⟨rfl, ?_⟩;show vc _ _ _ _ ⟨[(0, .dat (strN a0))],[]⟩ _;unfold f76 at hF;exact wk1

set_option maxRecDepth 20000 in
set_option maxHeartbeats 4000000 in
theorem P79:PureOK Tryz.prog 79 G79:=by
 refine zae (c:=zam zaf [(106,false,zbv (zam zaf [(138,false,zbv (zam zaf [(107,true,lendPg [[0]] G107)]) Tryz.f138)]) Tryz.f106),(108,true,zcF [[1],[0,0]] G108),(105,true,lendPg [[0]] G105),(104,true,zcF [[0]] G104)]) rfl tyOK (zaH (za Tryz.func106 rfl rfl) (CallOK.inl rfl tyOK (zaH (za Tryz.func138 rfl rfl) (CallOK.inl rfl tyOK (zad (za Tryz.func107 rfl rfl) P107 (zac)) Tryz.func138 (by kernel_rfl)) (zac)) Tryz.func106 (by kernel_rfl)) (zbI (za Tryz.func108 rfl rfl) P108 (zad (za Tryz.func105 rfl rfl) P105 (zbI (za Tryz.func104 rfl rfl) P104 (zac))))) [[0],[0]] 1 Tryz.func79 rfl rfl (by decide) (by kernel_rfl) ?_;rintro ds d ⟨N,a0,r,rfl,hF,rfl⟩ hok;clear hok;refine⟨rfl, ?_⟩;show vc _ _ _ _ ⟨[(0, .dat (strN a0))],[]⟩ _;unfold f79 at hF
 repeat' (first
 | ((with_reducible first|refine q0 _ _ ?_|refine q1 _ _ _ _ ?_|refine q2 _ _ _ ?_);clear Q q0 q1 q2)
 | ((with_reducible first|refine zd2 ?hx (λ Q q0 q1 q2=>?_)|refine zec ?hx (λ Q q0 q1 q2=>?_));(case hx=>exact rfl);conv=>whnf)
 | ((with_reducible first|refine zeH ?hx ?_|refine zdt ?hx ?_|refine zcV ?hx ?_|refine zds ?hx ?_);(case hx=>exact rfl))
 | ((with_reducible refine zfC ?_);(first|((first|refine zfX rfl ?hy (λ Q q0 q1 q2=>?_)|refine zen rfl ?hy (λ Q q0 q1 q2=>?_));(case hy=>first|assumption|exact notT (by assumption)|exact rfl);conv=>whnf)|((first|refine zem rfl ?hy ?_|refine zdj rfl ?hy ?_);(case hy=>first|assumption|exact notF (by assumption)|exact rfl))|(revert hF;(with_reducible first|refine zfY ?hx ?_ ?_|refine zeo ?hx ?_ ?_);(case hx=>exact rfl);(intro hc hF Q q0 q1 q2;conv=>whnf);rotate_left;(intro hc hF);rotate_right)|(revert hF;(with_reducible first|refine zfZ ?hx ?_ ?_|refine zep ?hx ?_ ?_);(case hx=>exact rfl);(intro hc hF);rotate_left;(intro hc hF Q q0 q1 q2;conv=>whnf);rotate_right)))
 | ((with_reducible refine zdM ?_);(first|((refine zfA rfl ?hy ?_);(case hy=>first|assumption|exact notT (by assumption)|exact rfl))|((refine zfB rfl ?hy ?_);(case hy=>first|assumption|exact notF (by assumption)|exact rfl))|(revert hF;(with_reducible refine zjh ?hx ?_ ?_);(case hx=>exact rfl);all_goals (intro hc hF))))
 | ((with_reducible refine zcJ ?_);(first|((with_reducible refine hR _ ?_);clear R hR)|((with_reducible refine hL _ ?_);clear L hL)))
 | ((with_reducible first|refine zce ?_|refine zcx ?_|refine idx2 (by assumption) ?_|refine idx3 (by assumption) ?_);conv=>whnf)
 | (with_reducible first|refine zct ?_|refine zcH ?_|refine zd1 ?_|refine zde ?_|refine zby (λ R hR=>?_)|refine zbw ?_|refine zbx ?_|refine zi7 ?_|refine zb9 ?_|refine zbO ?_|refine zc8 ?_|refine zcI ?_)
 | ((with_reducible refine zcM [47,41,35,3305000103000000007,33,23] ?hx ?_);(case hx=>exact rfl))
 | ((with_reducible replace hF:=isE hF);(dsimp only[zk5,zsu,zk6,zk7,zbs,zcq,zk8,zsv,zk9,zd7,zav,zeY] at hF);first|((with_reducible replace hF:=chkE (e:=zeW ..) hF);rewrite[zeW] at hF)|((with_reducible replace hF:=chkE (e:=zeX ..) hF);rewrite[zeX] at hF)|((with_reducible replace hF:=chkE (e:=zaA ..) hF);rewrite[zaA] at hF)|rewrite[zg9] at hF|rewrite[zet] at hF|rewrite[zaP] at hF|rewrite[zf8] at hF|rewrite[zh] at hF|rewrite[zdm] at hF)
 | ((with_reducible refine zdh ?_);(with_reducible replace hF:=zel 0 hF);((refine Lp.cutI hF rfl rfl ?_ ?_) <;> clear hF);(intro hF);rotate_left;(rintro _ hF);rotate_right)
 | ((with_reducible refine zdi ?_);(with_reducible replace hF:=toLp 0 0 hF);exact Lp.headI hF () ⟨_,rfl,rfl,rfl,rfl⟩ rfl)
 | ((with_reducible refine zfV ?_);(with_reducible replace hF:=toLp 0 1 hF);((refine Lp.loopI hF () rfl ⟨_,rfl,rfl,rfl,rfl⟩ rfl (λ _=>rfl) ?_);clear hF);(rintro n _ hF))
 | ((with_reducible refine zfW ?_);(with_reducible replace hF:=toLp 0 1 hF);exact Lp.backI hF () ⟨_,rfl,rfl,rfl,rfl⟩ rfl)
 | ((with_reducible refine zdh ?_);(with_reducible replace hF:=zel 2 hF);((refine Lp.cutI hF rfl rfl ?_ ?_) <;> clear hF);(intro hF);rotate_left;(rintro⟨_,_⟩ hF);rotate_right)
 | ((with_reducible refine zdi ?_);(with_reducible replace hF:=toLp 0 2 hF);exact Lp.headI hF () ⟨_,rfl,rfl,rfl,rfl⟩ rfl)
 | ((with_reducible refine zdh ?_);(with_reducible replace hF:=zel 1 hF);((refine Lp.cutI hF rfl rfl ?_ ?_) <;> clear hF);(intro hF);rotate_left;(rintro _ hF);rotate_right)
 | ((with_reducible refine zdi ?_);(with_reducible replace hF:=toLp 0 1 hF);exact Lp.headI hF () ⟨_,rfl,rfl,rfl,rfl⟩ rfl)
 | ((with_reducible refine zfV ?_);(with_reducible replace hF:=toLp 0 2 hF);((refine Lp.loopI hF () rfl ⟨_,rfl,rfl,rfl,rfl⟩ rfl (λ _=>rfl) ?_);clear hF);(rintro n ⟨_,_⟩ hF))
 | ((with_reducible refine zfW ?_);(with_reducible replace hF:=toLp 0 2 hF);exact Lp.backI hF () ⟨_,rfl,rfl,rfl,rfl⟩ rfl)
 | (revert hF;(with_reducible refine G104.step ?hx ?_);(case hx=>exact rfl);intro v hF;conv=>whnf)
 | (revert hF;(with_reducible refine G105.lend ?hx ?_);(case hx=>exact rfl);intro v hF;conv=>whnf)
 | (revert hF;(with_reducible refine G107.lend ?hx ?_);(case hx=>exact rfl);intro v hF;conv=>whnf)
 | (revert hF;(with_reducible refine G108.step ?hx ?_);(case hx=>exact rfl);intro v hF;conv=>whnf)
 | ((with_reducible refine Or.inr ?_);(conv=>whnf);(with_reducible refine zvp (.int .i64 0) ?hg ?_);(case hg=>exact rfl);(with_reducible refine zjC (List.map iN (List.replicate 2 (0:Int))) ?hx ?_);(case hx=>(unfold zlu;kernel_rfl));conv=>whnf)
 | ((with_reducible have hI:=zx4 hF);clear hI;revert hF;(refine zuk (by decide) ?_);intro hF;conv=>whnf)
 | (revert hF;(refine A2iN.of_step ?_);intro x hF;conv=>whnf)
 | ((with_reducible refine zrv hF ?_);(clear hF;intro hF;conv=>whnf))
 | ((with_reducible have hG:=zoP hF);clear hF;(first|(refine zrw hG (by(try simp only[W]);omega) (λ x hF=>?_))|(refine zrx hG (λ _=>rfl) (by(try simp only[W]);omega) (λ x hF=>?_)));clear hG;conv=>whnf)
 | ((with_reducible have hG:=zmg hF);clear hF;(first|(refine zoQ hG (by(try simp only[W]);omega) rfl rfl (λ q hF=>?_))|(refine zoR hG (λ _=>rfl) (by(try simp only[W]);omega) rfl rfl (λ q hF=>?_)));clear hG;conv=>whnf)
 | (revert hF;(with_reducible refine idx1 ?hn ?_);(case hn=>first|exact rfl|exact(List.length_map _)|assumption|omega|simp);intro x hx hF;conv=>whnf)
 | ((with_reducible have hG:=zgx hF);clear hF;(refine zhK hG (λ q hF=>?_));clear hG;conv=>whnf)
 | ((with_reducible refine zfS ?_);conv=>whnf)
 | ((with_reducible refine zin ?hx ?_);(case hx=>first|exact rfl|assumption|exact notT (by assumption));conv=>whnf)
 | ((with_reducible refine zhk ?hx ?_);(case hx=>first|exact rfl|assumption|exact notF (by assumption));conv=>whnf)
 | ((refine zay 3304 3305000000 rfl rfl (zAq rfl) rfl (λ R hR=>?_));(conv=>whnf);(with_reducible refine hR _ ?ha ?_);(case ha=>exact rfl);clear R hR)
 | ((refine zay 3305000102 3305000103000000 rfl rfl (zAq rfl) rfl (λ R hR=>?_));(conv=>whnf);(with_reducible refine hR _ ?ha ?_);(case ha=>exact rfl);clear R hR)
 | (show Kinl _ _ _ _ _ _ _;conv=>whnf)
 | ((with_reducible refine zcX ?ha ?hb ?_);(case ha=>exact rfl);(case hb=>exact rfl);conv=>whnf)
 | ((refine⟨?hx,trivial⟩);(case hx=>(cases hF;exact rfl)))
 | with_reducible refine zfI ?_
 | ((rename I97=>xi);cases xi <;> ((try dsimp only at hF);(try (conv=>whnf)))))

set_option maxRecDepth 20000 in
set_option maxHeartbeats 4000000 in
theorem P146:PureOK Tryz.prog 146 G146:=by
 refine zae (c:=zam zaf [(158,true,lendPg [[1],[1]] G158),(132,true,lendPg [[1],[0],[1]] G132)]) rfl tyOK (zad (za Tryz.func158 rfl rfl) P158 (zad (za Tryz.func132 rfl rfl) P132 (zac))) [[0],[0]] 2 Tryz.func146 rfl rfl (by decide) (by kernel_rfl) ?_;rintro ds d ⟨N,a0,a1,r,rfl,hF,rfl⟩ hok;clear hok;refine⟨rfl, ?_⟩;show vc _ _ _ _ ⟨[(0, .dat (zar a0)),(1, .dat (za3 a1))],[]⟩ _;unfold f146 at hF;exact wk9

set_option maxRecDepth 20000 in
set_option maxHeartbeats 4000000 in
theorem P90:PureOK Tryz.prog 90 G90:=by
 refine zae (c:=zam zaf [(125,false,zbv (zam zaf [(112,true,lendPg [[4,7,4],[0]] G112),(95,true,lendPg [[4,7,4],[0],[0]] G95),(91,true,lendPg [[4,7,4],[0]] G91)]) Tryz.f125),(80,true,zcF [[0]] G80)]) rfl tyOK (zaH (za Tryz.func125 rfl rfl) (CallOK.inl rfl tyOK (zad (za Tryz.func112 rfl rfl) P112 (zad (za Tryz.func95 rfl rfl) P95 (zad (za Tryz.func91 rfl rfl) P91 (zac)))) Tryz.func125 (by kernel_rfl)) (zbI (za Tryz.func80 rfl rfl) P80 (zac))) [[4,7,4]] 1 Tryz.func90 rfl rfl (by decide) (by kernel_rfl) ?_;rintro ds d ⟨N,a0,r,rfl,hF,rfl⟩ hok;clear hok;refine⟨rfl, ?_⟩;show vc _ _ _ _ ⟨[(0, .dat (zau a0))],[]⟩ _;unfold f90 at hF;exact wk2

set_option maxRecDepth 20000 in
set_option maxHeartbeats 4000000 in
theorem P131:PureOK Tryz.prog 131 G131:=by
 refine zae (c:=zam zaf [(158,true,lendPg [[1],[1]] G158),(116,true,lendPg [[1]] G116)]) rfl tyOK (zad (za Tryz.func158 rfl rfl) P158 (zad (za Tryz.func116 rfl rfl) P116 (zac))) [[0]] 2 Tryz.func131 rfl rfl (by decide) (by kernel_rfl) ?_;rintro ds d ⟨N,a0,a1,r,rfl,hF,rfl⟩ hok;clear hok;refine⟨rfl, ?_⟩;show vc _ _ _ _ ⟨[(0, .dat (zar a0)),(1, .dat (za3 a1))],[]⟩ _;unfold f131 at hF;exact wk9

set_option maxRecDepth 20000 in
set_option maxHeartbeats 4000000 in
theorem Q51 (N:Nat):CallOK Tryz.prog 51 (effPg zqi (H51 N)):=by
 induction N with
 | zero=>exact zaR λ x y h=>(by cases (show (none:Option (I97×Int))=some y from h))
 | succ N ih =>
  refine zaB (c:=zam zaf [(51,true,effPg zqi (H51 N)),(53,false,zbv (zam zaf []) Tryz.f53),(215,true,effPg zmU G215),(212,true,effPg zmT G212),(210,true,effPg zmS G210),(208,true,effPg zmy G208),(206,true,effPg zmx G206),(204,true,effPg zmw G204),(202,true,effPg zmv G202),(200,true,effPg zmu G200),(198,true,effPg zmt G198),(79,true,zcF [[0]] G79)]) rfl tyOK (zak (za Tryz.func51 rfl rfl) ih (zaH (za Tryz.func53 rfl rfl) (CallOK.inl rfl tyOK (zac) Tryz.func53 (by kernel_rfl)) (zak (za Tryz.func215 rfl rfl) P215 (zak (za Tryz.func212 rfl rfl) P212 (zak (za Tryz.func210 rfl rfl) P210 (zak (za Tryz.func208 rfl rfl) P208 (zak (za Tryz.func206 rfl rfl) P206 (zak (za Tryz.func204 rfl rfl) P204 (zak (za Tryz.func202 rfl rfl) P202 (zak (za Tryz.func200 rfl rfl) P200 (zak (za Tryz.func198 rfl rfl) P198 (zbI (za Tryz.func79 rfl rfl) P79 (zac))))))))))))) 1000 Srf51 zzy Tryz.func51 rfl rfl (by kernel_rfl) rfl rfl rfl rfl rfl rfl rfl rfl (λ _=>rfl) (λ _=>rfl) (λ _ _=>⟨rfl,rfl⟩) ?_;rintro⟨s0,s1,s2,s3,s4⟩ y hF;have hF:f51b (f51 N) N s0 s1 s2 s3 s4=some y:=hF;show vc _ _ _ _ ⟨[(0, .ptr 0 0),(1, .dat (strN s0))],[(0, .box [.ptr 1 0, .rs 2 (List.length s1)]),(1, .box [.mp 3, .mp 4, .mp 5]),(2,(rW s1)),(3,(sW [4] s2)),(4,(eW s3)),(5,(mW s4))]⟩ _;unfold f51b at hF;exact wk9
theorem P51:CallOK Tryz.prog 51 (effPg zqi G51):=zbu Q51

set_option maxRecDepth 20000 in
set_option maxHeartbeats 4000000 in
theorem P118:PureOK Tryz.prog 118 G118:=by
 refine zae (c:=zam zaf [(147,true,lendPg [[1],[0]] G147),(146,true,lendPg [[1],[1]] G146)]) rfl tyOK (zad (za Tryz.func147 rfl rfl) P147 (zad (za Tryz.func146 rfl rfl) P146 (zac))) [[0],[0]] 2 Tryz.func118 rfl rfl (by decide) (by kernel_rfl) ?_;rintro ds d ⟨N,a0,a1,r,rfl,hF,rfl⟩ hok;clear hok;refine⟨rfl, ?_⟩;show vc _ _ _ _ ⟨[(0, .dat (zar a0)),(1, .dat (za3 a1))],[]⟩ _;unfold f118 at hF;exact wk10

set_option maxRecDepth 20000 in
set_option maxHeartbeats 4000000 in
theorem P81:PureOK Tryz.prog 81 G81:=by
 refine zae (c:=zam zaf [(114,true,lendPg [[4,7,4],[0,1,1]] G114),(113,true,lendPg [[4,7,4],[0,1,1]] G113),(112,true,lendPg [[4,7,4],[0]] G112),(90,true,zcF [[1]] G90)]) rfl tyOK (zad (za Tryz.func114 rfl rfl) P114 (zad (za Tryz.func113 rfl rfl) P113 (zad (za Tryz.func112 rfl rfl) P112 (zbI (za Tryz.func90 rfl rfl) P90 (zac))))) [[0]] 2 Tryz.func81 rfl rfl (by decide) (by kernel_rfl) ?_;rintro ds d ⟨N,a0,a1,r,rfl,hF,rfl⟩ hok;clear hok;refine⟨rfl, ?_⟩;show vc _ _ _ _ ⟨[(0, .ep [bN a0.made,zau a0.lines]),(1, .dat (Order.d a1))],[]⟩ _;unfold f81 at hF;exact wk2

set_option maxRecDepth 20000 in
set_option maxHeartbeats 4000000 in
theorem P101:PureOK Tryz.prog 101 G101:=by
 refine zae (c:=zam zaf [(132,true,lendPg [[1],[0],[1]] G132),(131,true,lendPg [[1],[1]] G131)]) rfl tyOK (zad (za Tryz.func132 rfl rfl) P132 (zad (za Tryz.func131 rfl rfl) P131 (zac))) [[0]] 2 Tryz.func101 rfl rfl (by decide) (by kernel_rfl) ?_;rintro ds d ⟨N,a0,a1,r,rfl,hF,rfl⟩ hok;clear hok;refine⟨rfl, ?_⟩;show vc _ _ _ _ ⟨[(0, .dat (zar a0)),(1, .dat (za3 a1))],[]⟩ _;unfold f101 at hF;exact wk9

set_option maxRecDepth 20000 in
set_option maxHeartbeats 4000000 in
theorem Q17 (N:Nat):CallOK Tryz.prog 17 (effPg zsw (H17 N)):=by
 induction N with
 | zero=>exact zaR λ x y h=>(by cases (show (none:Option (Int))=some y from h))
 | succ N ih =>
  refine zaB (c:=zam zaf [(17,true,effPg zsw (H17 N)),(51,true,effPg zqi G51)]) rfl tyOK (zak (za Tryz.func17 rfl rfl) ih (zak (za Tryz.func51 rfl rfl) P51 (zac))) 1000 Srf17 zzz Tryz.func17 rfl rfl (by kernel_rfl) rfl rfl rfl rfl rfl rfl rfl rfl (λ _=>rfl) (λ _=>rfl) (λ _ _=>⟨rfl,rfl⟩) ?_;rintro⟨s0,s1,s2,s3,s4⟩ y hF;have hF:f17b (f17 N) N s0 s1 s2 s3 s4=some y:=hF;show vc _ _ _ _ ⟨[(0, .ptr 0 0),(1, .dat (strN s0))],[(0, .box [.ptr 1 0, .rs 2 (List.length s1)]),(1, .box [.mp 3, .mp 4, .mp 5]),(2,(rW s1)),(3,(sW [4] s2)),(4,(eW s3)),(5,(mW s4))]⟩ _;unfold f17b at hF;exact wk7
theorem P17:CallOK Tryz.prog 17 (effPg zsw G17):=zbu Q17

set_option maxRecDepth 20000 in
set_option maxHeartbeats 4000000 in
theorem Q18 (N:Nat):CallOK Tryz.prog 18 (effPg zqj (H18 N)):=by
 induction N with
 | zero=>exact zaR λ x y h=>(by cases (show (none:Option (Int×LS×LE×LC×LB))=some y from h))
 | succ N ih =>
  refine zaB (c:=zam zaf [(18,true,effPg zqj (H18 N)),(214,true,effPg zmI G214),(211,true,effPg zmV G211),(209,true,effPg zmH G209),(207,true,effPg zmG G207),(205,true,effPg zmF G205),(203,true,effPg zmE G203),(201,true,effPg zmD G201),(199,true,effPg zmC G199),(197,true,effPg zmB G197),(51,true,effPg zqi G51)]) rfl tyOK (zak (za Tryz.func18 rfl rfl) ih (zak (za Tryz.func214 rfl rfl) P214 (zak (za Tryz.func211 rfl rfl) P211 (zak (za Tryz.func209 rfl rfl) P209 (zak (za Tryz.func207 rfl rfl) P207 (zak (za Tryz.func205 rfl rfl) P205 (zak (za Tryz.func203 rfl rfl) P203 (zak (za Tryz.func201 rfl rfl) P201 (zak (za Tryz.func199 rfl rfl) P199 (zak (za Tryz.func197 rfl rfl) P197 (zak (za Tryz.func51 rfl rfl) P51 (zac)))))))))))) 1000 Srf18 zzA Tryz.func18 rfl rfl (by kernel_rfl) rfl rfl rfl rfl rfl rfl rfl rfl (λ _=>rfl) (λ _=>rfl) (λ _ _=>⟨rfl,rfl⟩) ?_;rintro⟨s0,s1,s2,s3,s4⟩ y hF;have hF:f18b (f18 N) N s0 s1 s2 s3 s4=some y:=hF;show vc _ _ _ _ ⟨[(0, .ptr 0 0),(1, .dat (strN s0))],[(0, .box [.ptr 1 0, .rs 2 (List.length s1)]),(1, .box [.mp 3, .mp 4, .mp 5]),(2,(rW s1)),(3,(sW [4] s2)),(4,(eW s3)),(5,(mW s4))]⟩ _;unfold f18b at hF;exact wk7
theorem P18:CallOK Tryz.prog 18 (effPg zqj G18):=zbu Q18

set_option maxRecDepth 20000 in
set_option maxHeartbeats 4000000 in
theorem P83:PureOK Tryz.prog 83 G83:=by
 refine zae (c:=zam zaf [(118,true,lendPg [[1],[1]] G118),(117,true,lendPg [[0],[0],[0]] G117),(116,true,lendPg [[1]] G116)]) rfl tyOK (zad (za Tryz.func118 rfl rfl) P118 (zad (za Tryz.func117 rfl rfl) P117 (zad (za Tryz.func116 rfl rfl) P116 (zac)))) [[1],[0]] 3 Tryz.func83 rfl rfl (by decide) (by kernel_rfl) ?_;rintro ds d ⟨N,a0,a1,a2,r,rfl,hF,rfl⟩ hok;clear hok;refine⟨rfl, ?_⟩;show vc _ _ _ _ ⟨[(0, .dat (zar a0)),(1, .dat (iN a1)),(2, .dat (iN a2))],[]⟩ _;unfold f83 at hF;exact wk1

set_option maxRecDepth 20000 in
set_option maxHeartbeats 4000000 in
theorem P52:PureOK Tryz.prog 52 G52:=by
 refine zae (c:=zam zaf [(81,true,lendPg [[0,1],[0,1,1]] G81),(80,true,zcF [[0]] G80),(55,true,lendPg [[0,1]] G55)]) rfl tyOK (zad (za Tryz.func81 rfl rfl) P81 (zbI (za Tryz.func80 rfl rfl) P80 (zad (za Tryz.func55 rfl rfl) P55 (zac)))) [[0]] 2 Tryz.func52 rfl rfl (by decide) (by kernel_rfl) ?_;rintro ds d ⟨N,a0,a1,r,rfl,hF,rfl⟩ hok;clear hok;refine⟨rfl, ?_⟩;show vc _ _ _ _ ⟨[(0, .ep [bN a0.made,zau a0.lines]),(1, .dat (strN a1))],[]⟩ _;unfold f52 at hF;exact wk10

set_option maxRecDepth 20000 in
set_option maxHeartbeats 4000000 in
theorem P57:PureOK Tryz.prog 57 G57:=by
 refine zae (c:=zam zaf [(85,false,zbv (zam zaf [(82,true,copyPg 106)]) Tryz.f85),(58,false,zbv (zam zaf []) Tryz.f58),(84,true,zcF [] G84),(83,true,zcF [[1],[0],[0]] G83)]) rfl tyOK (zaH (za Tryz.func85 rfl rfl) (CallOK.inl rfl tyOK (zo4 (za Tryz.func82 rfl rfl) (zac)) Tryz.func85 (by kernel_rfl)) (zaH (za Tryz.func58 rfl rfl) (CallOK.inl rfl tyOK (zac) Tryz.func58 (by kernel_rfl)) (zbI (za Tryz.func84 rfl rfl) P84 (zbI (za Tryz.func83 rfl rfl) P83 (zac))))) [[0]] 1 Tryz.func57 rfl rfl (by decide) (by kernel_rfl) ?_;rintro ds d ⟨N,a0,r,rfl,hF,rfl⟩ hok;clear hok;refine⟨rfl, ?_⟩;show vc _ _ _ _ ⟨[(0, .dat (strN a0))],[]⟩ _;unfold f57 at hF;exact wk1

set_option maxRecDepth 20000 in
set_option maxHeartbeats 4000000 in
theorem Q23 (N:Nat):CallOK Tryz.prog 23 (effPg zqk (H23 N)):=by
 induction N with
 | zero=>exact zaR λ x y h=>(by cases (show (none:Option (ByteArray))=some y from h))
 | succ N ih =>
  refine zaB (c:=zam zaf [(23,true,effPg zqk (H23 N)),(58,false,zbv (zam zaf []) Tryz.f58),(56,false,zbv (zam zaf [(82,true,copyPg 106)]) Tryz.f56),(53,false,zbv (zam zaf []) Tryz.f53),(57,true,lendPg [[0]] G57),(30,true,lendPg [[0]] G30)]) rfl tyOK (zak (za Tryz.func23 rfl rfl) ih (zaH (za Tryz.func58 rfl rfl) (CallOK.inl rfl tyOK (zac) Tryz.func58 (by kernel_rfl)) (zaH (za Tryz.func56 rfl rfl) (CallOK.inl rfl tyOK (zo4 (za Tryz.func82 rfl rfl) (zac)) Tryz.func56 (by kernel_rfl)) (zaH (za Tryz.func53 rfl rfl) (CallOK.inl rfl tyOK (zac) Tryz.func53 (by kernel_rfl)) (zad (za Tryz.func57 rfl rfl) P57 (zad (za Tryz.func30 rfl rfl) P30 (zac))))))) 1000 Srf23 zzB Tryz.func23 rfl rfl (by kernel_rfl) rfl rfl rfl rfl rfl rfl rfl rfl (λ _=>rfl) (λ _=>rfl) (λ _ _=>⟨rfl,rfl⟩) ?_;rintro⟨s0,s1,s2,s3⟩ y hF;have hF:f23b (f23 N) N s0 s1 s2 s3=some y:=hF;show vc _ _ _ _ ⟨[(0, .ptr 0 0)],[(0, .box [.ptr 1 0, .rs 2 (List.length s0)]),(1, .box [.mp 3, .mp 4, .mp 5]),(2,(rW s0)),(3,(sW [4] s1)),(4,(eW s2)),(5,(mW s3))]⟩ _;unfold f23b at hF;exact wk1
theorem P23:CallOK Tryz.prog 23 (effPg zqk G23):=zbu Q23

set_option maxRecDepth 20000 in
set_option maxHeartbeats 4000000 in
theorem P75:PureOK Tryz.prog 75 G75:=by
 refine zae (c:=zam zaf [(101,true,lendPg [[1],[1]] G101),(100,true,lendPg [[0],[0]] G100),(84,true,zcF [] G84),(57,true,lendPg [[0]] G57)]) rfl tyOK (zad (za Tryz.func101 rfl rfl) P101 (zad (za Tryz.func100 rfl rfl) P100 (zbI (za Tryz.func84 rfl rfl) P84 (zad (za Tryz.func57 rfl rfl) P57 (zac))))) [[0],[0]] 1 Tryz.func75 rfl rfl (by decide) (by kernel_rfl) ?_;rintro ds d ⟨N,a0,r,rfl,hF,rfl⟩ hok;clear hok;refine⟨rfl, ?_⟩;show vc _ _ _ _ ⟨[(0, .dat (strN a0))],[]⟩ _;unfold f75 at hF;exact wk1

set_option maxRecDepth 20000 in
set_option maxHeartbeats 4000000 in
theorem P14:PureOK Tryz.prog 14 G14:=by
 refine zae (c:=zam zaf [(15,false,zbv (zam zaf []) Tryz.f15),(40,true,effPg zsq G40),(36,true,effPg zsp G36),(34,true,effPg zso G34),(33,true,effPg zsn G33),(32,true,effPg zsm G32),(23,true,effPg zqk G23),(18,true,effPg zqj G18),(17,true,effPg zsw G17),(44,true,zcF [] G44),(35,true,lendPg [[1],[1]] G35)]) rfl tyOK (zaH (za Tryz.func15 rfl rfl) (CallOK.inl rfl tyOK (zac) Tryz.func15 (by kernel_rfl)) (zak (za Tryz.func40 rfl rfl) P40 (zak (za Tryz.func36 rfl rfl) P36 (zak (za Tryz.func34 rfl rfl) P34 (zak (za Tryz.func33 rfl rfl) P33 (zak (za Tryz.func32 rfl rfl) P32 (zak (za Tryz.func23 rfl rfl) P23 (zak (za Tryz.func18 rfl rfl) P18 (zak (za Tryz.func17 rfl rfl) P17 (zbI (za Tryz.func44 rfl rfl) P44 (zad (za Tryz.func35 rfl rfl) P35 (zac)))))))))))) [[0]] 0 Tryz.func14 rfl rfl (by decide) (by kernel_rfl) ?_;rintro ds d ⟨N,r,rfl,hF,rfl⟩ hok;clear hok;refine⟨rfl, ?_⟩;show vc _ _ _ _ ⟨[],[]⟩ _;unfold f14 at hF
 repeat' (first
 | ((with_reducible first|refine q0 _ _ ?_|refine q1 _ _ _ _ ?_|refine q2 _ _ _ ?_);clear Q q0 q1 q2)
 | ((with_reducible first|refine zd2 ?hx (λ Q q0 q1 q2=>?_)|refine zec ?hx (λ Q q0 q1 q2=>?_));(case hx=>exact rfl);conv=>whnf)
 | ((with_reducible first|refine zeH ?hx ?_|refine zdt ?hx ?_|refine zcV ?hx ?_|refine zds ?hx ?_);(case hx=>exact rfl))
 | ((with_reducible refine zfC ?_);(first|((first|refine zfX rfl ?hy (λ Q q0 q1 q2=>?_)|refine zen rfl ?hy (λ Q q0 q1 q2=>?_));(case hy=>first|assumption|exact notT (by assumption)|exact rfl);conv=>whnf)|((first|refine zem rfl ?hy ?_|refine zdj rfl ?hy ?_);(case hy=>first|assumption|exact notF (by assumption)|exact rfl))|(revert hF;(with_reducible first|refine zfY ?hx ?_ ?_|refine zeo ?hx ?_ ?_);(case hx=>exact rfl);(intro hc hF Q q0 q1 q2;conv=>whnf);rotate_left;(intro hc hF);rotate_right)|(revert hF;(with_reducible first|refine zfZ ?hx ?_ ?_|refine zep ?hx ?_ ?_);(case hx=>exact rfl);(intro hc hF);rotate_left;(intro hc hF Q q0 q1 q2;conv=>whnf);rotate_right)))
 | ((with_reducible refine zdM ?_);(first|((refine zfA rfl ?hy ?_);(case hy=>first|assumption|exact notT (by assumption)|exact rfl))|((refine zfB rfl ?hy ?_);(case hy=>first|assumption|exact notF (by assumption)|exact rfl))|(revert hF;(with_reducible refine zjh ?hx ?_ ?_);(case hx=>exact rfl);all_goals (intro hc hF))))
 | ((with_reducible refine zfC ?_);(refine zj7 zAD zAB (ks:=[]) rfl rfl ?_);dsimp only[St.kid];(first|((with_reducible refine hR _ ?_);clear R hR)|((with_reducible refine hL _ ?_);clear L hL)))
 | ((with_reducible refine zfC ?_);(refine zj7 2201000100 2201000101 (ks:=[]) rfl rfl ?_);dsimp only[St.kid];(first|((with_reducible refine hR _ ?_);clear R hR)|((with_reducible refine hL _ ?_);clear L hL)))
 | ((with_reducible refine zcJ ?_);(first|((with_reducible refine hR _ ?_);clear R hR)|((with_reducible refine hL _ ?_);clear L hL)))
 | ((with_reducible first|refine zce ?_|refine zcx ?_|refine idx2 (by assumption) ?_|refine idx3 (by assumption) ?_);conv=>whnf)
 | (with_reducible first|refine zct ?_|refine zcH ?_|refine zd1 ?_|refine zde ?_|refine zby (λ R hR=>?_)|refine zbw ?_|refine zbx ?_|refine zi7 ?_|refine zb9 ?_|refine zbO ?_|refine zc8 ?_|refine zcI ?_)
 | ((with_reducible refine zcM [23,8,6] ?hx ?_);(case hx=>exact rfl))
 | ((with_reducible replace hF:=isE hF);(dsimp only[zlf,zoh,zoi,zvQ,zsz] at hF);first|((with_reducible replace hF:=chkE (e:=zjU ..) hF);rewrite[zjU] at hF)|rewrite[ziV] at hF|rewrite[zm2] at hF|rewrite[zvP] at hF)
 | ((with_reducible refine zdh ?_);(with_reducible replace hF:=zel 1 hF);((refine Lp.cutI hF rfl rfl ?_ ?_) <;> clear hF);(intro hF);rotate_left;(rintro _ hF);rotate_right)
 | ((with_reducible refine zdi ?_);(with_reducible replace hF:=toLp 2 1 hF);exact Lp.headI hF (_,_) ⟨_,rfl,rfl,rfl,rfl⟩ (pr2 (by first|exact rfl|assumption|omega|(simp only[List.length_set];done)) (by first|exact rfl|assumption|omega|(simp only[List.length_set];done))))
 | ((with_reducible refine zdh ?_);(with_reducible replace hF:=zel 4 hF);((refine Lp.cutI hF rfl rfl ?_ ?_) <;> clear hF);(intro hF);rotate_left;(rintro⟨_,_,_,_⟩ hF);rotate_right)
 | ((with_reducible refine zdi ?_);(with_reducible replace hF:=toLp 1 4 hF);exact Lp.headI hF (_,()) ⟨_,rfl,rfl,rfl,rfl⟩ (pr2 (by first|exact rfl|assumption|omega|(simp only[List.length_set];done)) rfl))
 | ((with_reducible refine zdh ?_);(with_reducible replace hF:=zel 0 hF);((refine Lp.cutI hF rfl rfl ?_ ?_) <;> clear hF);(intro hF);rotate_left;(rintro _ hF);rotate_right)
 | ((with_reducible refine zdi ?_);(with_reducible replace hF:=toLp 1 0 hF);exact Lp.headI hF (_,()) ⟨_,rfl,rfl,rfl,rfl⟩ (pr2 (by first|exact rfl|assumption|omega|(simp only[List.length_set];done)) rfl))
 | ((with_reducible refine zfV ?_);(with_reducible replace hF:=toLp 1 5 hF);((refine Lp.loopI hF (_,()) rfl ⟨_,rfl,rfl,rfl,rfl⟩ (pr2 (by first|exact rfl|assumption|omega|(simp only[List.length_set];done)) rfl) (λ _=>rfl) ?_);clear hF);(rintro n ⟨_,_,_,_,_⟩ hF))
 | ((with_reducible refine zfW ?_);(with_reducible replace hF:=toLp 1 5 hF);exact Lp.backI hF (_,()) ⟨_,rfl,rfl,rfl,rfl⟩ (pr2 (by first|exact rfl|assumption|omega|(simp only[List.length_set];done)) rfl))
 | (revert hF;(with_reducible refine G35.lend ?hx ?_);(case hx=>exact rfl);intro v hF;conv=>whnf)
 | (revert hF;(with_reducible refine G44.step ?hx ?_);(case hx=>exact rfl);intro v hF;conv=>whnf)
 | (revert hF;(refine G17.step rfl rfl rfl rfl rfl rfl rfl (by first|exact rfl|assumption|omega|(simp only[List.length_set];done)) (by first|exact trivial|exact rfl) ?hn ?_);(case hn=>exact rfl);intro v hF;conv=>whnf)
 | (revert hF;(refine G18.step rfl rfl rfl rfl rfl rfl rfl (by first|exact rfl|assumption|omega|(simp only[List.length_set];done)) (by first|exact trivial|exact rfl) ?hn ?_);(case hn=>exact rfl);intro v hF;conv=>whnf)
 | (revert hF;(refine G23.step rfl rfl rfl rfl rfl rfl rfl (by first|exact rfl|assumption|omega|(simp only[List.length_set];done)) (by first|exact trivial|exact rfl) ?hn ?_);(case hn=>exact rfl);intro v hF;conv=>whnf)
 | (revert hF;(refine G32.step rfl rfl rfl rfl rfl rfl rfl (by first|exact rfl|assumption|omega|(simp only[List.length_set];done)) (by first|exact trivial|exact rfl) ?hn ?_);(case hn=>exact rfl);intro v hF;conv=>whnf)
 | (revert hF;(refine G33.step rfl rfl rfl rfl rfl rfl rfl (by first|exact rfl|assumption|omega|(simp only[List.length_set];done)) (by first|exact trivial|exact rfl) ?hn ?_);(case hn=>exact rfl);intro v hF;conv=>whnf)
 | (revert hF;(refine G34.step rfl rfl rfl rfl rfl rfl rfl (by first|exact rfl|assumption|omega|(simp only[List.length_set];done)) (by first|exact trivial|exact rfl) ?hn ?_);(case hn=>exact rfl);intro v hF;conv=>whnf)
 | (revert hF;(refine G36.step rfl rfl rfl rfl rfl rfl rfl (by first|exact rfl|assumption|omega|(simp only[List.length_set];done)) (by first|exact trivial|exact rfl) ?hn ?_);(case hn=>exact rfl);intro v hF;conv=>whnf)
 | (revert hF;(refine G40.step rfl rfl rfl rfl rfl rfl rfl (by first|exact rfl|assumption|omega|(simp only[List.length_set];done)) (by first|exact trivial|exact rfl) ?hn ?_);(case hn=>exact rfl);intro v hF;conv=>whnf)
 | (revert hF;(with_reducible refine idx1 ?hn ?_);(case hn=>first|exact rfl|exact(List.length_map _)|assumption|omega|simp);intro x hx hF;conv=>whnf)
 | ((refine zfU ?hn ?_);(case hn=>first|exact rfl|(simp;done)|(simp;omega));conv=>whnf)
 | ((with_reducible refine zin ?hx ?_);(case hx=>first|exact rfl|assumption|exact notT (by assumption));conv=>whnf)
 | ((with_reducible refine zhk ?hx ?_);(case hx=>first|exact rfl|assumption|exact notF (by assumption));conv=>whnf)
 | ((refine zay 100 101000000 rfl rfl (zAq rfl) rfl (λ R hR=>?_));(conv=>whnf);(with_reducible refine hR _ ?ha ?_);(case ha=>exact rfl);clear R hR)
 | ((refine zay 2200 2201000000 rfl rfl (zAq rfl) rfl (λ R hR=>?_));(conv=>whnf);(with_reducible refine hR _ ?ha ?_);(case ha=>exact rfl);clear R hR)
 | (show Kinl _ _ _ _ _ _ _;conv=>whnf)
 | ((with_reducible refine zcX ?ha ?hb ?_);(case ha=>exact rfl);(case hb=>exact rfl);conv=>whnf)
 | ((refine⟨?hx,trivial⟩);(case hx=>(cases hF;exact rfl)))
 | ((refine⟨?hx, ?_⟩);(case hx=>decide);conv=>whnf)
 | with_reducible refine zfI ?_)


end Go.Vc
