/-
  A library for proofs about Go functions by symbolic evaluation,and plain Lean functions that the walked Go functions compute (written by a program of this claim).
-/
import Derived.Test.YtijmkjnlgcockaaGreatDoorFASF1
import Derived.Test.YtijmkjnlgcockaaGreatDoorFASF2
import Derived.Test.YtijmkjnlgcockaaGreatDoorFASF3
set_option linter.unusedVariables false
set_option linter.unnecessarySimpa false
set_option linter.unusedSimpArgs false
namespace Go.Vc
open Go.Proofs
set_option maxRecDepth 20000 in
set_option maxHeartbeats 4000000 in
theorem Q34 (N:Nat):CallOK Tryz.prog 34 (effPg zo4 (H34 N)):=by
 induction N with
 | zero=>exact zaM λ x y h=>(by cases (show (none:Option (Tally×Int))=some y from h))
 | succ N ih =>
  refine zaz (c:=zam zae [(34,true,effPg zo4 (H34 N)),(62,false,zbm (zam zae [(53,false,zbm (zam zae []) Tryz.f53),(61,true,lendPg [[0]] G61)]) Tryz.f62),(64,true,lendPg [[0,0,1,0,0,0,0,0,0],[0]] G64)]) rfl tyOK (zaj (za Tryz.func34 rfl rfl) ih (zaC (za Tryz.func62 rfl rfl) (CallOK.inl rfl tyOK (zaC (za Tryz.func53 rfl rfl) (CallOK.inl rfl tyOK (zac) Tryz.func53 (by kernel_rfl)) (zad (za Tryz.func61 rfl rfl) P61 (zac))) Tryz.func62 (by kernel_rfl)) (zad (za Tryz.func64 rfl rfl) P64 (zac)))) 1000 Srf34 zxw Tryz.func34 rfl rfl (by kernel_rfl) rfl rfl rfl rfl rfl rfl rfl rfl (λ _=>rfl) (λ _=>rfl) (λ _ _=>⟨rfl,rfl⟩) ?_;rintro⟨s0,s1,s2,s3,s4⟩ y hF;have hF:f34b (f34 N) N s0 s1 s2 s3 s4=some y:=hF;show vc _ _ _ _ ⟨[(0, .ptr 0 0),(1, .dat (strN s0))],[(0, .box [.ptr 1 0, .rs 2 (List.length s1)]),(1, .box [.mp 3, .mp 4, .mp 5]),(2,(rW s1)),(3,(sW [4] s2)),(4,(eW s3)),(5,(mW s4))]⟩ _;unfold f34b at hF;exact wk5
theorem P34:CallOK Tryz.prog 34 (effPg zo4 G34):=zbn Q34

set_option maxRecDepth 20000 in
set_option maxHeartbeats 4000000 in
theorem Q36 (N:Nat):CallOK Tryz.prog 36 (effPg zo5 (H36 N)):=by
 induction N with
 | zero=>exact zaM λ x y h=>(by cases (show (none:Option (Int×Int))=some y from h))
 | succ N ih =>
  refine zaz (c:=zam zae [(36,true,effPg zo5 (H36 N)),(62,false,zbm (zam zae [(53,false,zbm (zam zae []) Tryz.f53),(61,true,lendPg [[0]] G61)]) Tryz.f62),(53,false,zbm (zam zae []) Tryz.f53),(61,true,lendPg [[0]] G61)]) rfl tyOK (zaj (za Tryz.func36 rfl rfl) ih (zaC (za Tryz.func62 rfl rfl) (CallOK.inl rfl tyOK (zaC (za Tryz.func53 rfl rfl) (CallOK.inl rfl tyOK (zac) Tryz.func53 (by kernel_rfl)) (zad (za Tryz.func61 rfl rfl) P61 (zac))) Tryz.func62 (by kernel_rfl)) (zaC (za Tryz.func53 rfl rfl) (CallOK.inl rfl tyOK (zac) Tryz.func53 (by kernel_rfl)) (zad (za Tryz.func61 rfl rfl) P61 (zac))))) 1000 Srf36 zxx Tryz.func36 rfl rfl (by kernel_rfl) rfl rfl rfl rfl rfl rfl rfl rfl (λ _=>rfl) (λ _=>rfl) (λ _ _=>⟨rfl,rfl⟩) ?_;rintro⟨s0,s1,s2,s3,s4,s5⟩ y hF;have hF:f36b (f36 N) N s0 s1 s2 s3 s4 s5=some y:=hF;show vc _ _ _ _ ⟨[(0, .ptr 0 0),(1, .dat (strN s0)),(2, .dat (strN s1))],[(0, .box [.ptr 1 0, .rs 2 (List.length s2)]),(1, .box [.mp 3, .mp 4, .mp 5]),(2,(rW s2)),(3,(sW [4] s3)),(4,(eW s4)),(5,(mW s5))]⟩ _;unfold f36b at hF;exact wk5
theorem P36:CallOK Tryz.prog 36 (effPg zo5 G36):=zbn Q36

set_option maxRecDepth 20000 in
set_option maxHeartbeats 4000000 in
theorem Q40 (N:Nat):CallOK Tryz.prog 40 (effPg zo6 (H40 N)):=by
 induction N with
 | zero=>exact zaM λ x y h=>(by cases (show (none:Option (Int×Int))=some y from h))
 | succ N ih =>
  refine zaz (c:=zam zae [(40,true,effPg zo6 (H40 N)),(62,false,zbm (zam zae [(53,false,zbm (zam zae []) Tryz.f53),(61,true,lendPg [[0]] G61)]) Tryz.f62),(64,true,lendPg [[0,0,1,0,0,0,0,0,0],[0]] G64)]) rfl tyOK (zaj (za Tryz.func40 rfl rfl) ih (zaC (za Tryz.func62 rfl rfl) (CallOK.inl rfl tyOK (zaC (za Tryz.func53 rfl rfl) (CallOK.inl rfl tyOK (zac) Tryz.func53 (by kernel_rfl)) (zad (za Tryz.func61 rfl rfl) P61 (zac))) Tryz.func62 (by kernel_rfl)) (zad (za Tryz.func64 rfl rfl) P64 (zac)))) 1000 Srf40 zxy Tryz.func40 rfl rfl (by kernel_rfl) rfl rfl rfl rfl rfl rfl rfl rfl (λ _=>rfl) (λ _=>rfl) (λ _ _=>⟨rfl,rfl⟩) ?_;rintro⟨s0,s1,s2,s3,s4⟩ y hF;have hF:f40b (f40 N) N s0 s1 s2 s3 s4=some y:=hF;show vc _ _ _ _ ⟨[(0, .ptr 0 0),(1, .dat (strN s0))],[(0, .box [.ptr 1 0, .rs 2 (List.length s1)]),(1, .box [.mp 3, .mp 4, .mp 5]),(2,(rW s1)),(3,(sW [4] s2)),(4,(eW s3)),(5,(mW s4))]⟩ _;unfold f40b at hF;exact wk5
theorem P40:CallOK Tryz.prog 40 (effPg zo6 G40):=zbn Q40

set_option maxRecDepth 20000 in
set_option maxHeartbeats 4000000 in
theorem P80:PureOK Tryz.prog 80 G80:=by
 refine zaf (c:=zam zae [(111,true,lendPg [[0]] G111),(110,true,lendPg [[0]] G110),(109,true,zbU [[0]] G109),(89,true,lendPg [[0]] G89),(71,true,lendPg [[0],[0],[0]] G71)]) rfl tyOK (zad (za Tryz.func111 rfl rfl) P111 (zad (za Tryz.func110 rfl rfl) P110 (zbd (za Tryz.func109 rfl rfl) P109 (zad (za Tryz.func89 rfl rfl) P89 (zad (za Tryz.func71 rfl rfl) P71 (zac)))))) [[0,1,1],[0]] 1 Tryz.func80 rfl rfl (by decide) (by kernel_rfl) ?_;rintro ds d ⟨N,a0,r,rfl,hF,rfl⟩ hok;clear hok;refine⟨rfl, ?_⟩;show vc _ _ _ _ ⟨[(0, .dat (strN a0))],[]⟩ _;unfold f80 at hF;exact wk2

set_option maxRecDepth 20000 in
set_option maxHeartbeats 4000000 in
theorem P113:PureOK Tryz.prog 113 G113:=by
 refine zaf (c:=zam zae [(126,true,lendPg [[4,7,4],[0]] G126),(112,true,lendPg [[4,7,4],[0]] G112),(94,true,lendPg [[0,0,1,0,0,0,0],[0]] G94),(91,true,lendPg [[4,7,4],[0]] G91)]) rfl tyOK (zad (za Tryz.func126 rfl rfl) P126 (zad (za Tryz.func112 rfl rfl) P112 (zad (za Tryz.func94 rfl rfl) P94 (zad (za Tryz.func91 rfl rfl) P91 (zac))))) [[0]] 2 Tryz.func113 rfl rfl (by decide) (by kernel_rfl) ?_;rintro ds d ⟨N,a0,a1,r,rfl,hF,rfl⟩ hok;clear hok;refine⟨rfl, ?_⟩;show vc _ _ _ _ ⟨[(0, .dat (StateS.d a0)),(1, .dat (Order.d a1))],[]⟩ _;unfold f113 at hF;exact wk3

set_option maxRecDepth 20000 in
set_option maxHeartbeats 4000000 in
theorem P114:PureOK Tryz.prog 114 G114:=by
 refine zaf (c:=zam zae [(139,true,lendPg [[4,7,4],[0]] G139),(126,true,lendPg [[4,7,4],[0]] G126),(112,true,lendPg [[4,7,4],[0]] G112),(95,true,lendPg [[4,7,4],[0],[0]] G95),(94,true,lendPg [[0,0,1,0,0,0,0],[0]] G94)]) rfl tyOK (zad (za Tryz.func139 rfl rfl) P139 (zad (za Tryz.func126 rfl rfl) P126 (zad (za Tryz.func112 rfl rfl) P112 (zad (za Tryz.func95 rfl rfl) P95 (zad (za Tryz.func94 rfl rfl) P94 (zac)))))) [[0]] 2 Tryz.func114 rfl rfl (by decide) (by kernel_rfl) ?_;rintro ds d ⟨N,a0,a1,r,rfl,hF,rfl⟩ hok;clear hok;refine⟨rfl, ?_⟩;show vc _ _ _ _ ⟨[(0, .dat (StateS.d a0)),(1, .dat (Order.d a1))],[]⟩ _;unfold f114 at hF;exact wk3

set_option maxRecDepth 20000 in
set_option maxHeartbeats 4000000 in
theorem P79:PureOK Tryz.prog 79 G79:=by
 refine zaf (c:=zam zae [(106,false,zbm (zam zae [(138,false,zbm (zam zae [(107,true,lendPg [[0]] G107)]) Tryz.f138)]) Tryz.f106),(108,true,zbU [[1],[0,0]] G108),(105,true,lendPg [[0]] G105),(104,true,zbU [[0]] G104)]) rfl tyOK (zaC (za Tryz.func106 rfl rfl) (CallOK.inl rfl tyOK (zaC (za Tryz.func138 rfl rfl) (CallOK.inl rfl tyOK (zad (za Tryz.func107 rfl rfl) P107 (zac)) Tryz.func138 (by kernel_rfl)) (zac)) Tryz.func106 (by kernel_rfl)) (zbd (za Tryz.func108 rfl rfl) P108 (zad (za Tryz.func105 rfl rfl) P105 (zbd (za Tryz.func104 rfl rfl) P104 (zac))))) [[0],[0]] 1 Tryz.func79 rfl rfl (by decide) (by kernel_rfl) ?_;rintro ds d ⟨N,a0,r,rfl,hF,rfl⟩ hok;clear hok;refine⟨rfl, ?_⟩;show vc _ _ _ _ ⟨[(0, .dat (strN a0))],[]⟩ _;unfold f79 at hF
 repeat' (first
 | ((with_reducible first|refine q0 _ _ ?_|refine q1 _ _ _ _ ?_|refine q2 _ _ _ ?_);clear Q q0 q1 q2)
 | ((with_reducible first|refine zdc ?hx (λ Q q0 q1 q2=>?_)|refine zdN ?hx (λ Q q0 q1 q2=>?_));(case hx=>exact rfl);conv=>whnf)
 | ((with_reducible first|refine ze9 ?hx ?_|refine zdO ?hx ?_|refine zcZ ?hx ?_|refine zdM ?hx ?_);(case hx=>exact rfl))
 | ((with_reducible refine zd5 ?_);(first|((first|refine zeg rfl ?hy (λ Q q0 q1 q2=>?_)|refine zdk rfl ?hy (λ Q q0 q1 q2=>?_));(case hy=>first|assumption|exact notT (by assumption)|exact rfl);conv=>whnf)|((first|refine zdj rfl ?hy ?_|refine zcH rfl ?hy ?_);(case hy=>first|assumption|exact notF (by assumption)|exact rfl))|(revert hF;(with_reducible first|refine zeh ?hx ?_ ?_|refine zdl ?hx ?_ ?_);(case hx=>exact rfl);(intro hc hF Q q0 q1 q2;conv=>whnf);rotate_left;(intro hc hF);rotate_right)|(revert hF;(with_reducible first|refine zei ?hx ?_ ?_|refine zdm ?hx ?_ ?_);(case hx=>exact rfl);(intro hc hF);rotate_left;(intro hc hF Q q0 q1 q2;conv=>whnf);rotate_right)))
 | ((with_reducible refine zc4 ?_);(first|((refine zec rfl ?hy ?_);(case hy=>first|assumption|exact notT (by assumption)|exact rfl))|((refine zed rfl ?hy ?_);(case hy=>first|assumption|exact notF (by assumption)|exact rfl))|(revert hF;(with_reducible refine zhn ?hx ?_ ?_);(case hx=>exact rfl);all_goals (intro hc hF))))
 | ((with_reducible refine zcc ?_);(first|((with_reducible refine hR _ ?_);clear R hR)|((with_reducible refine hL _ ?_);clear L hL)))
 | ((with_reducible first|refine zbR ?_|refine zcg ?_|refine idx2 (by assumption) ?_|refine idx3 (by assumption) ?_);conv=>whnf)
 | (with_reducible first|refine zb0 ?_|refine zcb ?_|refine zdb ?_|refine zcK ?_|refine zbt (λ R hR=>?_)|refine zbs ?_|refine zbp ?_|refine zgY ?_|refine zbO ?_|refine zbB ?_|refine zcs ?_|refine zb3 ?_)
 | ((with_reducible refine zch [47,41,35,3305000103000000007,33,23] ?hx ?_);(case hx=>exact rfl))
 | ((with_reducible replace hF:=isE hF);(dsimp only[zj1,zq6,zj2,zj3,zbA,zb9,zj4,zq7,zj5,zdI,zau,zev] at hF);first|((with_reducible replace hF:=chkE (e:=zet ..) hF);rewrite[zet] at hF)|((with_reducible replace hF:=chkE (e:=zeu ..) hF);rewrite[zeu] at hF)|((with_reducible replace hF:=chkE (e:=zaB ..) hF);rewrite[zaB] at hF)|rewrite[zgj] at hF|rewrite[zdZ] at hF|rewrite[zaO] at hF|rewrite[zfr] at hF|rewrite[zgk] at hF|rewrite[zc8] at hF)
 | ((with_reducible refine zcM ?_);(with_reducible replace hF:=zdG 0 hF);((refine Lp.cutI hF rfl rfl ?_ ?_) <;> clear hF);(intro hF);rotate_left;(rintro _ hF);rotate_right)
 | ((with_reducible refine zcN ?_);(with_reducible replace hF:=toLp 0 0 hF);exact Lp.headI hF () ⟨_,rfl,rfl,rfl,rfl⟩ rfl)
 | ((with_reducible refine zee ?_);(with_reducible replace hF:=toLp 0 1 hF);((refine Lp.loopI hF () rfl ⟨_,rfl,rfl,rfl,rfl⟩ rfl (λ _=>rfl) ?_);clear hF);(rintro n _ hF))
 | ((with_reducible refine zef ?_);(with_reducible replace hF:=toLp 0 1 hF);exact Lp.backI hF () ⟨_,rfl,rfl,rfl,rfl⟩ rfl)
 | ((with_reducible refine zcM ?_);(with_reducible replace hF:=zdG 2 hF);((refine Lp.cutI hF rfl rfl ?_ ?_) <;> clear hF);(intro hF);rotate_left;(rintro⟨_,_⟩ hF);rotate_right)
 | ((with_reducible refine zcN ?_);(with_reducible replace hF:=toLp 0 2 hF);exact Lp.headI hF () ⟨_,rfl,rfl,rfl,rfl⟩ rfl)
 | ((with_reducible refine zcM ?_);(with_reducible replace hF:=zdG 1 hF);((refine Lp.cutI hF rfl rfl ?_ ?_) <;> clear hF);(intro hF);rotate_left;(rintro _ hF);rotate_right)
 | ((with_reducible refine zcN ?_);(with_reducible replace hF:=toLp 0 1 hF);exact Lp.headI hF () ⟨_,rfl,rfl,rfl,rfl⟩ rfl)
 | ((with_reducible refine zee ?_);(with_reducible replace hF:=toLp 0 2 hF);((refine Lp.loopI hF () rfl ⟨_,rfl,rfl,rfl,rfl⟩ rfl (λ _=>rfl) ?_);clear hF);(rintro n ⟨_,_⟩ hF))
 | ((with_reducible refine zef ?_);(with_reducible replace hF:=toLp 0 2 hF);exact Lp.backI hF () ⟨_,rfl,rfl,rfl,rfl⟩ rfl)
 | (revert hF;(with_reducible refine G104.step ?hx ?_);(case hx=>exact rfl);intro v hF;conv=>whnf)
 | (revert hF;(with_reducible refine G105.lend ?hx ?_);(case hx=>exact rfl);intro v hF;conv=>whnf)
 | (revert hF;(with_reducible refine G107.lend ?hx ?_);(case hx=>exact rfl);intro v hF;conv=>whnf)
 | (revert hF;(with_reducible refine G108.step ?hx ?_);(case hx=>exact rfl);intro v hF;conv=>whnf)
 | ((with_reducible refine Or.inr ?_);(conv=>whnf);(with_reducible refine ztH (.int .i64 0) ?hg ?_);(case hg=>exact rfl);(with_reducible refine ziz (List.map iN (List.replicate 2 (0:Int))) ?hx ?_);(case hx=>(unfold zkr;kernel_rfl));conv=>whnf)
 | ((with_reducible have hI:=zwa hF);clear hI;revert hF;(refine zsH (by decide) ?_);intro hF;conv=>whnf)
 | (revert hF;(refine A2iN.of_step ?_);intro x hF;conv=>whnf)
 | ((with_reducible refine zqj hF ?_);(clear hF;intro hF;conv=>whnf))
 | ((with_reducible have hG:=znE hF);clear hF;(first|(refine zqk hG (by(try simp only[W]);omega) (λ x hF=>?_))|(refine zql hG (λ _=>rfl) (by(try simp only[W]);omega) (λ x hF=>?_)));clear hG;conv=>whnf)
 | ((with_reducible have hG:=zlc hF);clear hF;(first|(refine znF hG (by(try simp only[W]);omega) rfl rfl (λ q hF=>?_))|(refine znG hG (λ _=>rfl) (by(try simp only[W]);omega) rfl rfl (λ q hF=>?_)));clear hG;conv=>whnf)
 | (revert hF;(with_reducible refine idx1 ?hn ?_);(case hn=>first|exact rfl|exact(List.length_map _)|assumption|omega|simp);intro x hx hF;conv=>whnf)
 | ((with_reducible have hG:=zeN hF);clear hF;(refine zfM hG (λ q hF=>?_));clear hG;conv=>whnf)
 | ((with_reducible refine zdV ?_);conv=>whnf)
 | ((with_reducible refine zgt ?hx ?_);(case hx=>first|exact rfl|assumption|exact notT (by assumption));conv=>whnf)
 | ((with_reducible refine ze2 ?hx ?_);(case hx=>first|exact rfl|assumption|exact notF (by assumption));conv=>whnf)
 | ((refine zas 3304 3305000000 rfl rfl (zyq rfl) rfl (λ R hR=>?_));(conv=>whnf);(with_reducible refine hR _ ?ha ?_);(case ha=>exact rfl);clear R hR)
 | ((refine zas 3305000102 3305000103000000 rfl rfl (zyq rfl) rfl (λ R hR=>?_));(conv=>whnf);(with_reducible refine hR _ ?ha ?_);(case ha=>exact rfl);clear R hR)
 | (show Kinl _ _ _ _ _ _ _;conv=>whnf)
 | ((with_reducible refine zcG ?ha ?hb ?_);(case ha=>exact rfl);(case hb=>exact rfl);conv=>whnf)
 | ((refine⟨?hx,trivial⟩);(case hx=>(cases hF;exact rfl)))
 | with_reducible refine zeW ?_
 | ((rename I97=>xi);cases xi <;> ((try dsimp only at hF);(try (conv=>whnf)))))

set_option maxRecDepth 20000 in
set_option maxHeartbeats 4000000 in
theorem P146:PureOK Tryz.prog 146 G146:=by
 refine zaf (c:=zam zae [(158,true,lendPg [[1],[1]] G158),(132,true,lendPg [[1],[0],[1]] G132)]) rfl tyOK (zad (za Tryz.func158 rfl rfl) P158 (zad (za Tryz.func132 rfl rfl) P132 (zac))) [[0],[0]] 2 Tryz.func146 rfl rfl (by decide) (by kernel_rfl) ?_;rintro ds d ⟨N,a0,a1,r,rfl,hF,rfl⟩ hok;clear hok;refine⟨rfl, ?_⟩;show vc _ _ _ _ ⟨[(0, .dat (zax a0)),(1, .dat (zbc a1))],[]⟩ _;unfold f146 at hF;exact wk9

set_option maxRecDepth 20000 in
set_option maxHeartbeats 4000000 in
theorem P90:PureOK Tryz.prog 90 G90:=by
 refine zaf (c:=zam zae [(125,false,zbm (zam zae [(112,true,lendPg [[4,7,4],[0]] G112),(95,true,lendPg [[4,7,4],[0],[0]] G95),(91,true,lendPg [[4,7,4],[0]] G91)]) Tryz.f125),(80,true,zbU [[0]] G80)]) rfl tyOK (zaC (za Tryz.func125 rfl rfl) (CallOK.inl rfl tyOK (zad (za Tryz.func112 rfl rfl) P112 (zad (za Tryz.func95 rfl rfl) P95 (zad (za Tryz.func91 rfl rfl) P91 (zac)))) Tryz.func125 (by kernel_rfl)) (zbd (za Tryz.func80 rfl rfl) P80 (zac))) [[4,7,4]] 1 Tryz.func90 rfl rfl (by decide) (by kernel_rfl) ?_;rintro ds d ⟨N,a0,r,rfl,hF,rfl⟩ hok;clear hok;refine⟨rfl, ?_⟩;show vc _ _ _ _ ⟨[(0, .dat (zaq a0))],[]⟩ _;unfold f90 at hF;exact wk2

set_option maxRecDepth 20000 in
set_option maxHeartbeats 4000000 in
theorem Q51 (N:Nat):CallOK Tryz.prog 51 (effPg zo7 (H51 N)):=by
 induction N with
 | zero=>exact zaM λ x y h=>(by cases (show (none:Option (I97×Int))=some y from h))
 | succ N ih =>
  refine zaz (c:=zam zae [(51,true,effPg zo7 (H51 N)),(53,false,zbm (zam zae []) Tryz.f53),(215,true,effPg zlP G215),(212,true,effPg zlO G212),(210,true,effPg zlN G210),(208,true,effPg zlt G208),(206,true,effPg zls G206),(204,true,effPg zlr G204),(202,true,effPg zlq G202),(200,true,effPg zlp G200),(198,true,effPg zlo G198),(79,true,zbU [[0]] G79)]) rfl tyOK (zaj (za Tryz.func51 rfl rfl) ih (zaC (za Tryz.func53 rfl rfl) (CallOK.inl rfl tyOK (zac) Tryz.func53 (by kernel_rfl)) (zaj (za Tryz.func215 rfl rfl) P215 (zaj (za Tryz.func212 rfl rfl) P212 (zaj (za Tryz.func210 rfl rfl) P210 (zaj (za Tryz.func208 rfl rfl) P208 (zaj (za Tryz.func206 rfl rfl) P206 (zaj (za Tryz.func204 rfl rfl) P204 (zaj (za Tryz.func202 rfl rfl) P202 (zaj (za Tryz.func200 rfl rfl) P200 (zaj (za Tryz.func198 rfl rfl) P198 (zbd (za Tryz.func79 rfl rfl) P79 (zac))))))))))))) 1000 Srf51 zxD Tryz.func51 rfl rfl (by kernel_rfl) rfl rfl rfl rfl rfl rfl rfl rfl (λ _=>rfl) (λ _=>rfl) (λ _ _=>⟨rfl,rfl⟩) ?_;rintro⟨s0,s1,s2,s3,s4⟩ y hF;have hF:f51b (f51 N) N s0 s1 s2 s3 s4=some y:=hF;show vc _ _ _ _ ⟨[(0, .ptr 0 0),(1, .dat (strN s0))],[(0, .box [.ptr 1 0, .rs 2 (List.length s1)]),(1, .box [.mp 3, .mp 4, .mp 5]),(2,(rW s1)),(3,(sW [4] s2)),(4,(eW s3)),(5,(mW s4))]⟩ _;unfold f51b at hF
  repeat' (first
 | ((with_reducible first|refine q0 _ _ ?_|refine q1 _ _ _ _ ?_|refine q2 _ _ _ ?_);clear Q q0 q1 q2)
 | ((with_reducible first|refine zdc ?hx (λ Q q0 q1 q2=>?_)|refine zds ?hx (λ Q q0 q1 q2=>?_));(case hx=>exact rfl);conv=>whnf)
 | ((with_reducible refine zd5 ?_);(first|((first|refine zeg rfl ?hy (λ Q q0 q1 q2=>?_)|refine zdk rfl ?hy (λ Q q0 q1 q2=>?_));(case hy=>first|assumption|exact notT (by assumption)|exact rfl);conv=>whnf)|((first|refine zdj rfl ?hy ?_|refine zcH rfl ?hy ?_);(case hy=>first|assumption|exact notF (by assumption)|exact rfl))|(revert hF;(with_reducible first|refine zeh ?hx ?_ ?_|refine zdl ?hx ?_ ?_);(case hx=>exact rfl);(intro hc hF Q q0 q1 q2;conv=>whnf);rotate_left;(intro hc hF);rotate_right)|(revert hF;(with_reducible first|refine zei ?hx ?_ ?_|refine zdm ?hx ?_ ?_);(case hx=>exact rfl);(intro hc hF);rotate_left;(intro hc hF Q q0 q1 q2;conv=>whnf);rotate_right)))
 | ((with_reducible refine zc4 ?_);(first|((refine zec rfl ?hy ?_);(case hy=>first|assumption|exact notT (by assumption)|exact rfl))|((refine zed rfl ?hy ?_);(case hy=>first|assumption|exact notF (by assumption)|exact rfl))|(revert hF;(with_reducible refine zhn ?hx ?_ ?_);(case hx=>exact rfl);all_goals (intro hc hF))))
 | ((with_reducible refine zcc ?_);(first|((with_reducible refine hR _ ?_);clear R hR)|((with_reducible refine hL _ ?_);clear L hL)))
 | ((with_reducible refine zcv ?_);(with_reducible refine hR _ _ ?hx ?_);(case hx=>kernel_rfl);clear R hR)
 | (with_reducible first|refine zb0 ?_|refine zcb ?_|refine zdb ?_|refine zcK ?_|refine zbt (λ R hR=>?_)|refine zbs ?_|refine zbp ?_|refine zgY ?_|refine zbO ?_|refine zbB ?_)
 | ((with_reducible refine zch [1000006] ?hx ?_);(case hx=>exact rfl))
 | ((with_reducible refine zdr ?hx (λ R L hL hR=>?_));(case hx=>exact rfl))
 | ((with_reducible replace hF:=isE hF);(dsimp only[zm4] at hF);first|rewrite[zhR] at hF)
 | ((with_reducible refine zcM ?_);(with_reducible replace hF:=zdG 2 hF);((refine Lp.cutI hF rfl rfl ?_ ?_) <;> clear hF);(intro hF);rotate_left;(rintro⟨_,_⟩ hF);rotate_right)
 | ((with_reducible refine zcN ?_);(with_reducible replace hF:=toLp 1 2 hF);exact Lp.headI hF (_,()) ⟨_,rfl,rfl,rfl,rfl⟩ (pr2 (by first|exact rfl|assumption|omega|(simp only[List.length_set];done)) rfl))
 | (revert hF;(with_reducible refine G79.step ?hx ?_);(case hx=>exact rfl);intro v hF;(obtain⟨v,ve⟩:=v);(try dsimp only at hF);(conv=>whnf))
 | (revert hF;(refine G198.step rfl rfl rfl rfl rfl  (by first|exact trivial|exact rfl) ?hn ?_);(case hn=>exact rfl);intro v hF;conv=>whnf)
 | (revert hF;(refine G200.step rfl rfl rfl rfl rfl  (by first|exact trivial|exact rfl) ?hn ?_);(case hn=>exact rfl);intro v hF;conv=>whnf)
 | (revert hF;(refine G202.step rfl rfl rfl rfl rfl  (by first|exact trivial|exact rfl) ?hn ?_);(case hn=>exact rfl);intro v hF;conv=>whnf)
 | (revert hF;(refine G204.step rfl rfl rfl rfl rfl  (by first|exact trivial|exact rfl) ?hn ?_);(case hn=>exact rfl);intro v hF;conv=>whnf)
 | (revert hF;(refine G206.step rfl rfl rfl rfl rfl  (by first|exact trivial|exact rfl) ?hn ?_);(case hn=>exact rfl);intro v hF;conv=>whnf)
 | (revert hF;(refine G208.step rfl rfl rfl rfl rfl  (by first|exact trivial|exact rfl) ?hn ?_);(case hn=>exact rfl);intro v hF;conv=>whnf)
 | (revert hF;(refine G210.step rfl rfl rfl rfl rfl  (by first|exact trivial|exact rfl) ?hn ?_);(case hn=>exact rfl);intro v hF;conv=>whnf)
 | (revert hF;(refine G212.step rfl rfl rfl rfl rfl  (by first|exact trivial|exact rfl) ?hn ?_);(case hn=>exact rfl);intro v hF;conv=>whnf)
 | (revert hF;(refine G215.step rfl rfl rfl rfl rfl  (by first|exact trivial|exact rfl) ?hn ?_);(case hn=>exact rfl);intro v hF;conv=>whnf)
 | (cases hF;(refine Or.inl ?_);(conv=>whnf);exact⟨rfl,rfl,rfl⟩)
 | (with_reducible first|(replace hF:=I97.go0 hF)|(replace hF:=I97.go1 hF)|(replace hF:=I97.go2 hF)|(replace hF:=I97.go3 hF)|(replace hF:=I97.go4 hF)|(replace hF:=I97.go5 hF)|(replace hF:=I97.go6 hF)|(replace hF:=I97.go7 hF)|(replace hF:=I97.go8 hF)|(replace hF:=I97.go9 hF))
 | with_reducible refine zeW ?_
 | ((with_reducible refine zgt ?hx ?_);(case hx=>first|exact rfl|assumption|exact notT (by assumption));conv=>whnf)
 | ((with_reducible refine ze2 ?hx ?_);(case hx=>first|exact rfl|assumption|exact notF (by assumption));conv=>whnf)
 | ((refine zas 1101 1102000000 rfl rfl (zyq rfl) rfl (λ R hR=>?_));(conv=>whnf);(with_reducible refine hR _ ?ha ?_);(case ha=>exact rfl);clear R hR)
 | (show Kinl _ _ _ _ _ _ _;conv=>whnf)
 | ((with_reducible refine zcG ?ha ?hb ?_);(case ha=>exact rfl);(case hb=>exact rfl);conv=>whnf)
 | (have hF:(none:Option _)=some _:=hF;cases hF)
 | ((refine I97.fo (K:=λ x=>Q ⟨x,[]⟩ _) ?_);conv=>whnf)
 | ((rename I97=>xi);cases xi <;> ((try dsimp only at hF);(try (conv=>whnf)))))
theorem P51:CallOK Tryz.prog 51 (effPg zo7 G51):=zbn Q51

set_option maxRecDepth 20000 in
set_option maxHeartbeats 4000000 in
theorem P118:PureOK Tryz.prog 118 G118:=by
 refine zaf (c:=zam zae [(147,true,lendPg [[1],[0]] G147),(146,true,lendPg [[1],[1]] G146)]) rfl tyOK (zad (za Tryz.func147 rfl rfl) P147 (zad (za Tryz.func146 rfl rfl) P146 (zac))) [[0],[0]] 2 Tryz.func118 rfl rfl (by decide) (by kernel_rfl) ?_;rintro ds d ⟨N,a0,a1,r,rfl,hF,rfl⟩ hok;clear hok;refine⟨rfl, ?_⟩;show vc _ _ _ _ ⟨[(0, .dat (zax a0)),(1, .dat (zbc a1))],[]⟩ _;unfold f118 at hF;exact wk9

set_option maxRecDepth 20000 in
set_option maxHeartbeats 4000000 in
theorem P81:PureOK Tryz.prog 81 G81:=by
 refine zaf (c:=zam zae [(114,true,lendPg [[4,7,4],[0,1,1]] G114),(113,true,lendPg [[4,7,4],[0,1,1]] G113),(112,true,lendPg [[4,7,4],[0]] G112),(90,true,zbU [[1]] G90)]) rfl tyOK (zad (za Tryz.func114 rfl rfl) P114 (zad (za Tryz.func113 rfl rfl) P113 (zad (za Tryz.func112 rfl rfl) P112 (zbd (za Tryz.func90 rfl rfl) P90 (zac))))) [[0]] 2 Tryz.func81 rfl rfl (by decide) (by kernel_rfl) ?_;rintro ds d ⟨N,a0,a1,r,rfl,hF,rfl⟩ hok;clear hok;refine⟨rfl, ?_⟩;show vc _ _ _ _ ⟨[(0, .ep [bN a0.made,zaq a0.lines]),(1, .dat (Order.d a1))],[]⟩ _;unfold f81 at hF;exact wk3

set_option maxRecDepth 20000 in
set_option maxHeartbeats 4000000 in
theorem P65:PureOK Tryz.prog 65 G65:=by
 refine zaf (c:=zam zae [(91,true,lendPg [[4,7,4],[0]] G91),(90,true,zbU [[1]] G90),(89,true,lendPg [[0]] G89),(55,true,lendPg [[0,1]] G55)]) rfl tyOK (zad (za Tryz.func91 rfl rfl) P91 (zbd (za Tryz.func90 rfl rfl) P90 (zad (za Tryz.func89 rfl rfl) P89 (zad (za Tryz.func55 rfl rfl) P55 (zac))))) [[0],[0],[0]] 2 Tryz.func65 rfl rfl (by decide) (by kernel_rfl) ?_;rintro ds d ⟨N,a0,a1,r,rfl,hF,rfl⟩ hok;clear hok;refine⟨rfl, ?_⟩;show vc _ _ _ _ ⟨[(0, .ep [bN a0.made,zaq a0.lines]),(1, .dat (strN a1))],[]⟩ _;unfold f65 at hF;exact wk3

set_option maxRecDepth 20000 in
set_option maxHeartbeats 4000000 in
theorem P92:PureOK Tryz.prog 92 G92:=by
 refine zaf (c:=zam zae [(126,true,lendPg [[4,7,4],[0]] G126),(112,true,lendPg [[4,7,4],[0]] G112),(90,true,zbU [[1]] G90),(89,true,lendPg [[0]] G89),(55,true,lendPg [[0,1]] G55)]) rfl tyOK (zad (za Tryz.func126 rfl rfl) P126 (zad (za Tryz.func112 rfl rfl) P112 (zbd (za Tryz.func90 rfl rfl) P90 (zad (za Tryz.func89 rfl rfl) P89 (zad (za Tryz.func55 rfl rfl) P55 (zac)))))) [[0,0,1,0,0,0,0],[0],[0]] 2 Tryz.func92 rfl rfl (by decide) (by kernel_rfl) ?_;rintro ds d ⟨N,a0,a1,r,rfl,hF,rfl⟩ hok;clear hok;refine⟨rfl, ?_⟩;show vc _ _ _ _ ⟨[(0, .ep [bN a0.made,zaq a0.lines]),(1, .dat (strN a1))],[]⟩ _;unfold f92 at hF;exact wk3

set_option maxRecDepth 20000 in
set_option maxHeartbeats 4000000 in
theorem P69:PureOK Tryz.prog 69 G69:=by
 refine zaf (c:=zam zae [(95,true,lendPg [[4,7,4],[0],[0]] G95),(90,true,zbU [[1]] G90),(89,true,lendPg [[0]] G89),(55,true,lendPg [[0,1]] G55)]) rfl tyOK (zad (za Tryz.func95 rfl rfl) P95 (zbd (za Tryz.func90 rfl rfl) P90 (zad (za Tryz.func89 rfl rfl) P89 (zad (za Tryz.func55 rfl rfl) P55 (zac))))) [[0],[0]] 3 Tryz.func69 rfl rfl (by decide) (by kernel_rfl) ?_;rintro ds d ⟨N,a0,a1,a2,r,rfl,hF,rfl⟩ hok;clear hok;refine⟨rfl, ?_⟩;show vc _ _ _ _ ⟨[(0, .ep [bN a0.made,zaq a0.lines]),(1, .dat (strN a1)),(2, .dat (strN a2))],[]⟩ _;unfold f69 at hF;exact wk3

set_option maxRecDepth 20000 in
set_option maxHeartbeats 4000000 in
theorem Q17 (N:Nat):CallOK Tryz.prog 17 (effPg zq8 (H17 N)):=by
 induction N with
 | zero=>exact zaM λ x y h=>(by cases (show (none:Option (Int))=some y from h))
 | succ N ih =>
  refine zaz (c:=zam zae [(17,true,effPg zq8 (H17 N)),(51,true,effPg zo7 G51)]) rfl tyOK (zaj (za Tryz.func17 rfl rfl) ih (zaj (za Tryz.func51 rfl rfl) P51 (zac))) 1000 Srf17 zxE Tryz.func17 rfl rfl (by kernel_rfl) rfl rfl rfl rfl rfl rfl rfl rfl (λ _=>rfl) (λ _=>rfl) (λ _ _=>⟨rfl,rfl⟩) ?_;rintro⟨s0,s1,s2,s3,s4⟩ y hF;have hF:f17b (f17 N) N s0 s1 s2 s3 s4=some y:=hF;show vc _ _ _ _ ⟨[(0, .ptr 0 0),(1, .dat (strN s0))],[(0, .box [.ptr 1 0, .rs 2 (List.length s1)]),(1, .box [.mp 3, .mp 4, .mp 5]),(2,(rW s1)),(3,(sW [4] s2)),(4,(eW s3)),(5,(mW s4))]⟩ _;unfold f17b at hF;exact wk10
theorem P17:CallOK Tryz.prog 17 (effPg zq8 G17):=zbn Q17

set_option maxRecDepth 20000 in
set_option maxHeartbeats 4000000 in
theorem Q18 (N:Nat):CallOK Tryz.prog 18 (effPg zm5 (H18 N)):=by
 induction N with
 | zero=>exact zaM λ x y h=>(by cases (show (none:Option (Int×LS×LE×LC×LB))=some y from h))
 | succ N ih =>
  refine zaz (c:=zam zae [(18,true,effPg zm5 (H18 N)),(214,true,effPg zlD G214),(211,true,effPg zlQ G211),(209,true,effPg zlC G209),(207,true,effPg zlB G207),(205,true,effPg zlA G205),(203,true,effPg zlz G203),(201,true,effPg zly G201),(199,true,effPg zlx G199),(197,true,effPg zlw G197),(51,true,effPg zo7 G51)]) rfl tyOK (zaj (za Tryz.func18 rfl rfl) ih (zaj (za Tryz.func214 rfl rfl) P214 (zaj (za Tryz.func211 rfl rfl) P211 (zaj (za Tryz.func209 rfl rfl) P209 (zaj (za Tryz.func207 rfl rfl) P207 (zaj (za Tryz.func205 rfl rfl) P205 (zaj (za Tryz.func203 rfl rfl) P203 (zaj (za Tryz.func201 rfl rfl) P201 (zaj (za Tryz.func199 rfl rfl) P199 (zaj (za Tryz.func197 rfl rfl) P197 (zaj (za Tryz.func51 rfl rfl) P51 (zac)))))))))))) 1000 Srf18 zxF Tryz.func18 rfl rfl (by kernel_rfl) rfl rfl rfl rfl rfl rfl rfl rfl (λ _=>rfl) (λ _=>rfl) (λ _ _=>⟨rfl,rfl⟩) ?_;rintro⟨s0,s1,s2,s3,s4⟩ y hF;have hF:f18b (f18 N) N s0 s1 s2 s3 s4=some y:=hF;show vc _ _ _ _ ⟨[(0, .ptr 0 0),(1, .dat (strN s0))],[(0, .box [.ptr 1 0, .rs 2 (List.length s1)]),(1, .box [.mp 3, .mp 4, .mp 5]),(2,(rW s1)),(3,(sW [4] s2)),(4,(eW s3)),(5,(mW s4))]⟩ _;unfold f18b at hF;exact wk10
theorem P18:CallOK Tryz.prog 18 (effPg zm5 G18):=zbn Q18

set_option maxRecDepth 20000 in
set_option maxHeartbeats 4000000 in
theorem P83:PureOK Tryz.prog 83 G83:=by
 refine zaf (c:=zam zae [(118,true,lendPg [[1],[1]] G118),(117,true,lendPg [[0],[0],[0]] G117),(116,true,lendPg [[1]] G116)]) rfl tyOK (zad (za Tryz.func118 rfl rfl) P118 (zad (za Tryz.func117 rfl rfl) P117 (zad (za Tryz.func116 rfl rfl) P116 (zac)))) [[1],[0]] 3 Tryz.func83 rfl rfl (by decide) (by kernel_rfl) ?_;rintro ds d ⟨N,a0,a1,a2,r,rfl,hF,rfl⟩ hok;clear hok;refine⟨rfl, ?_⟩;show vc _ _ _ _ ⟨[(0, .dat (zax a0)),(1, .dat (iN a1)),(2, .dat (iN a2))],[]⟩ _;unfold f83 at hF;exact wk2

set_option maxRecDepth 20000 in
set_option maxHeartbeats 4000000 in
theorem P52:PureOK Tryz.prog 52 G52:=by
 refine zaf (c:=zam zae [(81,true,lendPg [[0,1],[0,1,1]] G81),(80,true,zbU [[0]] G80),(55,true,lendPg [[0,1]] G55)]) rfl tyOK (zad (za Tryz.func81 rfl rfl) P81 (zbd (za Tryz.func80 rfl rfl) P80 (zad (za Tryz.func55 rfl rfl) P55 (zac)))) [[0]] 2 Tryz.func52 rfl rfl (by decide) (by kernel_rfl) ?_;rintro ds d ⟨N,a0,a1,r,rfl,hF,rfl⟩ hok;clear hok;refine⟨rfl, ?_⟩;show vc _ _ _ _ ⟨[(0, .ep [bN a0.made,zaq a0.lines]),(1, .dat (strN a1))],[]⟩ _;unfold f52 at hF;exact wk10

set_option maxRecDepth 20000 in
set_option maxHeartbeats 4000000 in
theorem P67:PureOK Tryz.prog 67 G67:=by
 refine zaf (c:=zam zae [(94,true,lendPg [[0,0,1,0,0,0,0],[0]] G94),(93,true,lendPg [[1]] G93),(92,true,zbU [[0,1],[0]] G92)]) rfl tyOK (zad (za Tryz.func94 rfl rfl) P94 (zad (za Tryz.func93 rfl rfl) P93 (zbd (za Tryz.func92 rfl rfl) P92 (zac)))) [[0,0,0,0,0],[0]] 2 Tryz.func67 rfl rfl (by decide) (by kernel_rfl) ?_;rintro ds d ⟨N,a0,a1,r,rfl,hF,rfl⟩ hok;clear hok;refine⟨rfl, ?_⟩;show vc _ _ _ _ ⟨[(0, .ep [bN a0.made,zaq a0.lines]),(1, .dat (strN a1))],[]⟩ _;unfold f67 at hF;exact wk10

set_option maxRecDepth 20000 in
set_option maxHeartbeats 4000000 in
theorem P68:PureOK Tryz.prog 68 G68:=by
 refine zaf (c:=zam zae [(94,true,lendPg [[0,0,1,0,0,0,0],[0]] G94),(92,true,zbU [[0,1],[0]] G92)]) rfl tyOK (zad (za Tryz.func94 rfl rfl) P94 (zbd (za Tryz.func92 rfl rfl) P92 (zac))) [[0],[0]] 2 Tryz.func68 rfl rfl (by decide) (by kernel_rfl) ?_;rintro ds d ⟨N,a0,a1,r,rfl,hF,rfl⟩ hok;clear hok;refine⟨rfl, ?_⟩;show vc _ _ _ _ ⟨[(0, .ep [bN a0.made,zaq a0.lines]),(1, .dat (strN a1))],[]⟩ _;unfold f68 at hF;exact wk10

set_option maxRecDepth 20000 in
set_option maxHeartbeats 4000000 in
theorem P57:PureOK Tryz.prog 57 G57:=by
 refine zaf (c:=zam zae [(85,false,zbm (zam zae [(82,true,copyPg 106)]) Tryz.f85),(58,false,zbm (zam zae []) Tryz.f58),(84,true,zbU [] G84),(83,true,zbU [[1],[0],[0]] G83)]) rfl tyOK (zaC (za Tryz.func85 rfl rfl) (CallOK.inl rfl tyOK (znT (za Tryz.func82 rfl rfl) (zac)) Tryz.func85 (by kernel_rfl)) (zaC (za Tryz.func58 rfl rfl) (CallOK.inl rfl tyOK (zac) Tryz.func58 (by kernel_rfl)) (zbd (za Tryz.func84 rfl rfl) P84 (zbd (za Tryz.func83 rfl rfl) P83 (zac))))) [[0]] 1 Tryz.func57 rfl rfl (by decide) (by kernel_rfl) ?_;rintro ds d ⟨N,a0,r,rfl,hF,rfl⟩ hok;clear hok;refine⟨rfl, ?_⟩;show vc _ _ _ _ ⟨[(0, .dat (strN a0))],[]⟩ _;unfold f57 at hF;exact wk8

set_option maxRecDepth 20000 in
set_option maxHeartbeats 4000000 in
theorem Q19 (N:Nat):CallOK Tryz.prog 19 (effPg zrd (H19 N)):=by
 induction N with
 | zero=>exact zaM λ x y h=>(by cases (show (none:Option (Int×LB))=some y from h))
 | succ N ih =>
  refine zaz (c:=zam zae [(19,true,effPg zrd (H19 N)),(52,true,lendPg [[0,1],[0]] G52)]) rfl tyOK (zaj (za Tryz.func19 rfl rfl) ih (zad (za Tryz.func52 rfl rfl) P52 (zac))) 1000 Srf19 zxG Tryz.func19 rfl rfl (by kernel_rfl) rfl rfl rfl rfl rfl rfl rfl rfl (λ _=>rfl) (λ _=>rfl) (λ _ _=>⟨rfl,rfl⟩) ?_;rintro⟨s0,s1,s2⟩ y hF;have hF:f19b (f19 N) N s0 s1 s2=some y:=hF;show vc _ _ _ _ ⟨[(0, .ptr 0 0),(1, .dat (strN s0))],[(0, .box [.kb s1, .rs 1 (List.length s2)]),(1,(rW s2))]⟩ _;unfold f19b at hF;exact wk10
theorem P19:CallOK Tryz.prog 19 (effPg zrd G19):=zbn Q19

set_option maxRecDepth 20000 in
set_option maxHeartbeats 4000000 in
theorem Q37 (N:Nat):CallOK Tryz.prog 37 (effPg zre (H37 N)):=by
 induction N with
 | zero=>exact zaM λ x y h=>(by cases (show (none:Option (Bool))=some y from h))
 | succ N ih =>
  refine zaz (c:=zam zae [(37,true,effPg zre (H37 N)),(66,false,zbm (zam zae [(92,false,zbm (zam zae [(126,true,lendPg [[4,7,4],[0]] G126),(112,true,lendPg [[4,7,4],[0]] G112),(90,true,zbU [[1]] G90),(89,true,lendPg [[0]] G89),(55,true,lendPg [[0,1]] G55)]) Tryz.f92)]) Tryz.f66),(40,true,effPg zo6 G40),(36,true,effPg zo5 G36),(34,true,effPg zo4 G34),(33,true,effPg zo3 G33),(32,true,effPg zo2 G32),(69,true,lendPg [[0,1],[0],[0]] G69),(68,true,lendPg [[0,1],[0]] G68),(67,true,lendPg [[0,1],[0]] G67),(65,true,lendPg [[0,1],[0]] G65),(35,true,lendPg [[1],[1]] G35)]) rfl tyOK (zaj (za Tryz.func37 rfl rfl) ih (zaC (za Tryz.func66 rfl rfl) (CallOK.inl rfl tyOK (zaC (za Tryz.func92 rfl rfl) (CallOK.inl rfl tyOK (zad (za Tryz.func126 rfl rfl) P126 (zad (za Tryz.func112 rfl rfl) P112 (zbd (za Tryz.func90 rfl rfl) P90 (zad (za Tryz.func89 rfl rfl) P89 (zad (za Tryz.func55 rfl rfl) P55 (zac)))))) Tryz.func92 (by kernel_rfl)) (zac)) Tryz.func66 (by kernel_rfl)) (zaj (za Tryz.func40 rfl rfl) P40 (zaj (za Tryz.func36 rfl rfl) P36 (zaj (za Tryz.func34 rfl rfl) P34 (zaj (za Tryz.func33 rfl rfl) P33 (zaj (za Tryz.func32 rfl rfl) P32 (zad (za Tryz.func69 rfl rfl) P69 (zad (za Tryz.func68 rfl rfl) P68 (zad (za Tryz.func67 rfl rfl) P67 (zad (za Tryz.func65 rfl rfl) P65 (zad (za Tryz.func35 rfl rfl) P35 (zac))))))))))))) 1000 Srf37 zxH Tryz.func37 rfl rfl (by kernel_rfl) rfl rfl rfl rfl rfl rfl rfl rfl (λ _=>rfl) (λ _=>rfl) (λ _ _=>⟨rfl,rfl⟩) ?_;rintro⟨s0,s1,s2,s3,s4,s5,s6,s7,s8⟩ y hF;have hF:f37b (f37 N) N s0 s1 s2 s3 s4 s5 s6 s7 s8=some y:=hF;show vc _ _ _ _ ⟨[(0, .ptr 0 0),(1, .ptr 1 0),(2, .dat (strN s0)),(3, .dat (strN s1)),(4, .dat (strN s2))],[(0, .box [.ptr 2 0, .rs 3 (List.length s4)]),(1, .box [.kb s3, .rs 4 (List.length s5)]),(2, .box [.mp 5, .mp 6, .mp 7]),(3,(rW s4)),(4,(rW s5)),(5,(sW [6] s6)),(6,(eW s7)),(7,(mW s8))]⟩ _;unfold f37b at hF;exact wk3
theorem P37:CallOK Tryz.prog 37 (effPg zre G37):=zbn Q37

set_option maxRecDepth 20000 in
set_option maxHeartbeats 4000000 in
theorem Q23 (N:Nat):CallOK Tryz.prog 23 (effPg zrg (H23 N)):=by
 induction N with
 | zero=>exact zaM λ x y h=>(by cases (show (none:Option (ByteArray))=some y from h))
 | succ N ih =>
  refine zaz (c:=zam zae [(23,true,effPg zrg (H23 N)),(58,false,zbm (zam zae []) Tryz.f58),(56,false,zbm (zam zae [(82,true,copyPg 106)]) Tryz.f56),(53,false,zbm (zam zae []) Tryz.f53),(57,true,lendPg [[0]] G57),(30,true,lendPg [[0]] G30)]) rfl tyOK (zaj (za Tryz.func23 rfl rfl) ih (zaC (za Tryz.func58 rfl rfl) (CallOK.inl rfl tyOK (zac) Tryz.func58 (by kernel_rfl)) (zaC (za Tryz.func56 rfl rfl) (CallOK.inl rfl tyOK (znT (za Tryz.func82 rfl rfl) (zac)) Tryz.func56 (by kernel_rfl)) (zaC (za Tryz.func53 rfl rfl) (CallOK.inl rfl tyOK (zac) Tryz.func53 (by kernel_rfl)) (zad (za Tryz.func57 rfl rfl) P57 (zad (za Tryz.func30 rfl rfl) P30 (zac))))))) 1000 Srf23 zxI Tryz.func23 rfl rfl (by kernel_rfl) rfl rfl rfl rfl rfl rfl rfl rfl (λ _=>rfl) (λ _=>rfl) (λ _ _=>⟨rfl,rfl⟩) ?_;rintro⟨s0,s1,s2,s3⟩ y hF;have hF:f23b (f23 N) N s0 s1 s2 s3=some y:=hF;show vc _ _ _ _ ⟨[(0, .ptr 0 0)],[(0, .box [.ptr 1 0, .rs 2 (List.length s0)]),(1, .box [.mp 3, .mp 4, .mp 5]),(2,(rW s0)),(3,(sW [4] s1)),(4,(eW s2)),(5,(mW s3))]⟩ _;unfold f23b at hF;exact wk8
theorem P23:CallOK Tryz.prog 23 (effPg zrg G23):=zbn Q23

set_option maxRecDepth 20000 in
set_option maxHeartbeats 4000000 in
theorem P14:PureOK Tryz.prog 14 G14:=by
 refine zaf (c:=zam zae [(15,false,zbm (zam zae []) Tryz.f15),(40,true,effPg zo6 G40),(36,true,effPg zo5 G36),(34,true,effPg zo4 G34),(33,true,effPg zo3 G33),(32,true,effPg zo2 G32),(23,true,effPg zrg G23),(18,true,effPg zm5 G18),(17,true,effPg zq8 G17),(44,true,zbU [] G44),(35,true,lendPg [[1],[1]] G35)]) rfl tyOK (zaC (za Tryz.func15 rfl rfl) (CallOK.inl rfl tyOK (zac) Tryz.func15 (by kernel_rfl)) (zaj (za Tryz.func40 rfl rfl) P40 (zaj (za Tryz.func36 rfl rfl) P36 (zaj (za Tryz.func34 rfl rfl) P34 (zaj (za Tryz.func33 rfl rfl) P33 (zaj (za Tryz.func32 rfl rfl) P32 (zaj (za Tryz.func23 rfl rfl) P23 (zaj (za Tryz.func18 rfl rfl) P18 (zaj (za Tryz.func17 rfl rfl) P17 (zbd (za Tryz.func44 rfl rfl) P44 (zad (za Tryz.func35 rfl rfl) P35 (zac)))))))))))) [[0]] 0 Tryz.func14 rfl rfl (by decide) (by kernel_rfl) ?_;rintro ds d ⟨N,r,rfl,hF,rfl⟩ hok;clear hok;refine⟨rfl, ?_⟩;show vc _ _ _ _ ⟨[],[]⟩ _;unfold f14 at hF
 repeat' (first
 | ((with_reducible first|refine q0 _ _ ?_|refine q1 _ _ _ _ ?_|refine q2 _ _ _ ?_);clear Q q0 q1 q2)
 | ((with_reducible first|refine zdc ?hx (λ Q q0 q1 q2=>?_)|refine zdN ?hx (λ Q q0 q1 q2=>?_));(case hx=>exact rfl);conv=>whnf)
 | ((with_reducible first|refine ze9 ?hx ?_|refine zdO ?hx ?_|refine zcZ ?hx ?_|refine zdM ?hx ?_);(case hx=>exact rfl))
 | ((with_reducible refine zd5 ?_);(first|((first|refine zeg rfl ?hy (λ Q q0 q1 q2=>?_)|refine zdk rfl ?hy (λ Q q0 q1 q2=>?_));(case hy=>first|assumption|exact notT (by assumption)|exact rfl);conv=>whnf)|((first|refine zdj rfl ?hy ?_|refine zcH rfl ?hy ?_);(case hy=>first|assumption|exact notF (by assumption)|exact rfl))|(revert hF;(with_reducible first|refine zeh ?hx ?_ ?_|refine zdl ?hx ?_ ?_);(case hx=>exact rfl);(intro hc hF Q q0 q1 q2;conv=>whnf);rotate_left;(intro hc hF);rotate_right)|(revert hF;(with_reducible first|refine zei ?hx ?_ ?_|refine zdm ?hx ?_ ?_);(case hx=>exact rfl);(intro hc hF);rotate_left;(intro hc hF Q q0 q1 q2;conv=>whnf);rotate_right)))
 | ((with_reducible refine zc4 ?_);(first|((refine zec rfl ?hy ?_);(case hy=>first|assumption|exact notT (by assumption)|exact rfl))|((refine zed rfl ?hy ?_);(case hy=>first|assumption|exact notF (by assumption)|exact rfl))|(revert hF;(with_reducible refine zhn ?hx ?_ ?_);(case hx=>exact rfl);all_goals (intro hc hF))))
 | ((with_reducible refine zd5 ?_);(refine zgF zyB zyt (ks:=[]) rfl rfl ?_);dsimp only[St.kid];(first|((with_reducible refine hR _ ?_);clear R hR)|((with_reducible refine hL _ ?_);clear L hL)))
 | ((with_reducible refine zd5 ?_);(refine zgF 2201000100 2201000101 (ks:=[]) rfl rfl ?_);dsimp only[St.kid];(first|((with_reducible refine hR _ ?_);clear R hR)|((with_reducible refine hL _ ?_);clear L hL)))
 | ((with_reducible refine zcc ?_);(first|((with_reducible refine hR _ ?_);clear R hR)|((with_reducible refine hL _ ?_);clear L hL)))
 | ((with_reducible first|refine zbR ?_|refine zcg ?_|refine idx2 (by assumption) ?_|refine idx3 (by assumption) ?_);conv=>whnf)
 | (with_reducible first|refine zb0 ?_|refine zcb ?_|refine zdb ?_|refine zcK ?_|refine zbt (λ R hR=>?_)|refine zbs ?_|refine zbp ?_|refine zgY ?_|refine zbO ?_|refine zbB ?_|refine zcs ?_|refine zb3 ?_)
 | ((with_reducible refine zch [23,8,6] ?hx ?_);(case hx=>exact rfl))
 | ((with_reducible replace hF:=isE hF);(dsimp only[zk,zm7,zm8,zt5,zrh] at hF);first|((with_reducible replace hF:=chkE (e:=ziQ ..) hF);rewrite[ziQ] at hF)|rewrite[zhV] at hF|rewrite[zlV] at hF|rewrite[zt4] at hF)
 | ((with_reducible refine zcM ?_);(with_reducible replace hF:=zdG 1 hF);((refine Lp.cutI hF rfl rfl ?_ ?_) <;> clear hF);(intro hF);rotate_left;(rintro _ hF);rotate_right)
 | ((with_reducible refine zcN ?_);(with_reducible replace hF:=toLp 2 1 hF);exact Lp.headI hF (_,_) ⟨_,rfl,rfl,rfl,rfl⟩ (pr2 (by first|exact rfl|assumption|omega|(simp only[List.length_set];done)) (by first|exact rfl|assumption|omega|(simp only[List.length_set];done))))
 | ((with_reducible refine zcM ?_);(with_reducible replace hF:=zdG 4 hF);((refine Lp.cutI hF rfl rfl ?_ ?_) <;> clear hF);(intro hF);rotate_left;(rintro⟨_,_,_,_⟩ hF);rotate_right)
 | ((with_reducible refine zcN ?_);(with_reducible replace hF:=toLp 1 4 hF);exact Lp.headI hF (_,()) ⟨_,rfl,rfl,rfl,rfl⟩ (pr2 (by first|exact rfl|assumption|omega|(simp only[List.length_set];done)) rfl))
 | ((with_reducible refine zcM ?_);(with_reducible replace hF:=zdG 0 hF);((refine Lp.cutI hF rfl rfl ?_ ?_) <;> clear hF);(intro hF);rotate_left;(rintro _ hF);rotate_right)
 | ((with_reducible refine zcN ?_);(with_reducible replace hF:=toLp 1 0 hF);exact Lp.headI hF (_,()) ⟨_,rfl,rfl,rfl,rfl⟩ (pr2 (by first|exact rfl|assumption|omega|(simp only[List.length_set];done)) rfl))
 | ((with_reducible refine zee ?_);(with_reducible replace hF:=toLp 1 5 hF);((refine Lp.loopI hF (_,()) rfl ⟨_,rfl,rfl,rfl,rfl⟩ (pr2 (by first|exact rfl|assumption|omega|(simp only[List.length_set];done)) rfl) (λ _=>rfl) ?_);clear hF);(rintro n ⟨_,_,_,_,_⟩ hF))
 | ((with_reducible refine zef ?_);(with_reducible replace hF:=toLp 1 5 hF);exact Lp.backI hF (_,()) ⟨_,rfl,rfl,rfl,rfl⟩ (pr2 (by first|exact rfl|assumption|omega|(simp only[List.length_set];done)) rfl))
 | (revert hF;(with_reducible refine G35.lend ?hx ?_);(case hx=>exact rfl);intro v hF;conv=>whnf)
 | (revert hF;(with_reducible refine G44.step ?hx ?_);(case hx=>exact rfl);intro v hF;conv=>whnf)
 | (revert hF;(refine G17.step rfl rfl rfl rfl rfl rfl rfl (by first|exact rfl|assumption|omega|(simp only[List.length_set];done)) (by first|exact trivial|exact rfl) ?hn ?_);(case hn=>exact rfl);intro v hF;conv=>whnf)
 | (revert hF;(refine G18.step rfl rfl rfl rfl rfl rfl rfl (by first|exact rfl|assumption|omega|(simp only[List.length_set];done)) (by first|exact trivial|exact rfl) ?hn ?_);(case hn=>exact rfl);intro v hF;conv=>whnf)
 | (revert hF;(refine G23.step rfl rfl rfl rfl rfl rfl rfl (by first|exact rfl|assumption|omega|(simp only[List.length_set];done)) (by first|exact trivial|exact rfl) ?hn ?_);(case hn=>exact rfl);intro v hF;conv=>whnf)
 | (revert hF;(refine G32.step rfl rfl rfl rfl rfl rfl rfl (by first|exact rfl|assumption|omega|(simp only[List.length_set];done)) (by first|exact trivial|exact rfl) ?hn ?_);(case hn=>exact rfl);intro v hF;conv=>whnf)
 | (revert hF;(refine G33.step rfl rfl rfl rfl rfl rfl rfl (by first|exact rfl|assumption|omega|(simp only[List.length_set];done)) (by first|exact trivial|exact rfl) ?hn ?_);(case hn=>exact rfl);intro v hF;conv=>whnf)
 | (revert hF;(refine G34.step rfl rfl rfl rfl rfl rfl rfl (by first|exact rfl|assumption|omega|(simp only[List.length_set];done)) (by first|exact trivial|exact rfl) ?hn ?_);(case hn=>exact rfl);intro v hF;conv=>whnf)
 | (revert hF;(refine G36.step rfl rfl rfl rfl rfl rfl rfl (by first|exact rfl|assumption|omega|(simp only[List.length_set];done)) (by first|exact trivial|exact rfl) ?hn ?_);(case hn=>exact rfl);intro v hF;conv=>whnf)
 | (revert hF;(refine G40.step rfl rfl rfl rfl rfl rfl rfl (by first|exact rfl|assumption|omega|(simp only[List.length_set];done)) (by first|exact trivial|exact rfl) ?hn ?_);(case hn=>exact rfl);intro v hF;conv=>whnf)
 | (revert hF;(with_reducible refine idx1 ?hn ?_);(case hn=>first|exact rfl|exact(List.length_map _)|assumption|omega|simp);intro x hx hF;conv=>whnf)
 | ((refine zeb ?hn ?_);(case hn=>first|exact rfl|(simp;done)|(simp;omega));conv=>whnf)
 | ((with_reducible refine zgt ?hx ?_);(case hx=>first|exact rfl|assumption|exact notT (by assumption));conv=>whnf)
 | ((with_reducible refine ze2 ?hx ?_);(case hx=>first|exact rfl|assumption|exact notF (by assumption));conv=>whnf)
 | ((refine zas 100 101000000 rfl rfl (zyq rfl) rfl (λ R hR=>?_));(conv=>whnf);(with_reducible refine hR _ ?ha ?_);(case ha=>exact rfl);clear R hR)
 | ((refine zas 2200 2201000000 rfl rfl (zyq rfl) rfl (λ R hR=>?_));(conv=>whnf);(with_reducible refine hR _ ?ha ?_);(case ha=>exact rfl);clear R hR)
 | (show Kinl _ _ _ _ _ _ _;conv=>whnf)
 | ((with_reducible refine zcG ?ha ?hb ?_);(case ha=>exact rfl);(case hb=>exact rfl);conv=>whnf)
 | ((refine⟨?hx,trivial⟩);(case hx=>(cases hF;exact rfl)))
 | ((refine⟨?hx, ?_⟩);(case hx=>decide);conv=>whnf)
 | with_reducible refine zeW ?_)


end Go.Vc
