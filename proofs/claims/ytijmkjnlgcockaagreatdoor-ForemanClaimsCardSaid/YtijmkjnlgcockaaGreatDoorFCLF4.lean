/-
  A library for proofs about Go functions by symbolic evaluation,and plain Lean functions that the walked Go functions compute (written by a program of this claim).
-/
import Derived.Test.YtijmkjnlgcockaaGreatDoorFCLF1
import Derived.Test.YtijmkjnlgcockaaGreatDoorFCLF2
import Derived.Test.YtijmkjnlgcockaaGreatDoorFCLF3
set_option linter.unusedVariables false
set_option linter.unnecessarySimpa false
set_option linter.unusedSimpArgs false
namespace Go.Vc
open Go.Proofs
set_option maxRecDepth 20000 in
set_option maxHeartbeats 4000000 in
theorem Q34 (N:Nat):CallOK Tryz.prog 34 (effPg zq3 (H34 N)):=by
 induction N with
 | zero=>exact zaM λ x y h=>(by cases (show (none:Option (Tally×Int))=some y from h))
 | succ N ih =>
  refine zaD (c:=zat zal [(34,true,effPg zq3 (H34 N)),(62,false,zbL (zat zal [(53,false,zbL (zat zal []) Tryz.f53),(61,true,lendPg [[0]] G61)]) Tryz.f62),(64,true,lendPg [[0],[0]] G64)]) rfl tyOK (zaj (zaa Tryz.func34 rfl rfl) ih (zaL (zaa Tryz.func62 rfl rfl) (CallOK.inl rfl tyOK (zaL (zaa Tryz.func53 rfl rfl) (CallOK.inl rfl tyOK (zae) Tryz.func53 (by kernel_rfl)) (zay (zaa Tryz.func61 rfl rfl) P61 (zae))) Tryz.func62 (by kernel_rfl)) (zay (zaa Tryz.func64 rfl rfl) P64 (zae)))) 1000 Srf34 zxf Tryz.func34 rfl rfl (by kernel_rfl) rfl rfl rfl rfl rfl rfl rfl rfl (λ _=>rfl) (λ _=>rfl) (λ _ _=>⟨rfl,rfl⟩) ?_;rintro⟨s0,s1,s2,s3,s4⟩ y hF;have hF:f34b (f34 N) N s0 s1 s2 s3 s4=some y:=hF;show vc _ _ _ _ ⟨[(0, .ptr 0 0),(1, .dat (strN s0))],[(0, .box [.ptr 1 0, .rs 2 (List.length s1)]),(1, .box [.mp 3, .mp 4, .mp 5]),(2,(rW s1)),(3,(sW [4] s2)),(4,(eW s3)),(5,(mW s4))]⟩ _;unfold f34b at hF;exact wk7
theorem P34:CallOK Tryz.prog 34 (effPg zq3 G34):=zbq Q34

set_option maxRecDepth 20000 in
set_option maxHeartbeats 4000000 in
theorem Q36 (N:Nat):CallOK Tryz.prog 36 (effPg zq4 (H36 N)):=by
 induction N with
 | zero=>exact zaM λ x y h=>(by cases (show (none:Option (Int×Int))=some y from h))
 | succ N ih =>
  refine zaD (c:=zat zal [(36,true,effPg zq4 (H36 N)),(62,false,zbL (zat zal [(53,false,zbL (zat zal []) Tryz.f53),(61,true,lendPg [[0]] G61)]) Tryz.f62),(53,false,zbL (zat zal []) Tryz.f53),(61,true,lendPg [[0]] G61)]) rfl tyOK (zaj (zaa Tryz.func36 rfl rfl) ih (zaL (zaa Tryz.func62 rfl rfl) (CallOK.inl rfl tyOK (zaL (zaa Tryz.func53 rfl rfl) (CallOK.inl rfl tyOK (zae) Tryz.func53 (by kernel_rfl)) (zay (zaa Tryz.func61 rfl rfl) P61 (zae))) Tryz.func62 (by kernel_rfl)) (zaL (zaa Tryz.func53 rfl rfl) (CallOK.inl rfl tyOK (zae) Tryz.func53 (by kernel_rfl)) (zay (zaa Tryz.func61 rfl rfl) P61 (zae))))) 1000 Srf36 zxg Tryz.func36 rfl rfl (by kernel_rfl) rfl rfl rfl rfl rfl rfl rfl rfl (λ _=>rfl) (λ _=>rfl) (λ _ _=>⟨rfl,rfl⟩) ?_;rintro⟨s0,s1,s2,s3,s4,s5⟩ y hF;have hF:f36b (f36 N) N s0 s1 s2 s3 s4 s5=some y:=hF;show vc _ _ _ _ ⟨[(0, .ptr 0 0),(1, .dat (strN s0)),(2, .dat (strN s1))],[(0, .box [.ptr 1 0, .rs 2 (List.length s2)]),(1, .box [.mp 3, .mp 4, .mp 5]),(2,(rW s2)),(3,(sW [4] s3)),(4,(eW s4)),(5,(mW s5))]⟩ _;unfold f36b at hF;exact wk7
theorem P36:CallOK Tryz.prog 36 (effPg zq4 G36):=zbq Q36

set_option maxRecDepth 20000 in
set_option maxHeartbeats 4000000 in
theorem Q40 (N:Nat):CallOK Tryz.prog 40 (effPg zo4 (H40 N)):=by
 induction N with
 | zero=>exact zaM λ x y h=>(by cases (show (none:Option (Int×Int))=some y from h))
 | succ N ih =>
  refine zaD (c:=zat zal [(40,true,effPg zo4 (H40 N)),(62,false,zbL (zat zal [(53,false,zbL (zat zal []) Tryz.f53),(61,true,lendPg [[0]] G61)]) Tryz.f62),(64,true,lendPg [[0],[0]] G64)]) rfl tyOK (zaj (zaa Tryz.func40 rfl rfl) ih (zaL (zaa Tryz.func62 rfl rfl) (CallOK.inl rfl tyOK (zaL (zaa Tryz.func53 rfl rfl) (CallOK.inl rfl tyOK (zae) Tryz.func53 (by kernel_rfl)) (zay (zaa Tryz.func61 rfl rfl) P61 (zae))) Tryz.func62 (by kernel_rfl)) (zay (zaa Tryz.func64 rfl rfl) P64 (zae)))) 1000 Srf40 zxh Tryz.func40 rfl rfl (by kernel_rfl) rfl rfl rfl rfl rfl rfl rfl rfl (λ _=>rfl) (λ _=>rfl) (λ _ _=>⟨rfl,rfl⟩) ?_;rintro⟨s0,s1,s2,s3,s4⟩ y hF;have hF:f40b (f40 N) N s0 s1 s2 s3 s4=some y:=hF;show vc _ _ _ _ ⟨[(0, .ptr 0 0),(1, .dat (strN s0))],[(0, .box [.ptr 1 0, .rs 2 (List.length s1)]),(1, .box [.mp 3, .mp 4, .mp 5]),(2,(rW s1)),(3,(sW [4] s2)),(4,(eW s3)),(5,(mW s4))]⟩ _;unfold f40b at hF;exact wk7
theorem P40:CallOK Tryz.prog 40 (effPg zo4 G40):=zbq Q40

set_option maxRecDepth 20000 in
set_option maxHeartbeats 4000000 in
theorem P79:PureOK Tryz.prog 79 G79:=by
 refine zar (c:=zat zal [(106,false,zbL (zat zal [(138,false,zbL (zat zal [(107,true,lendPg [[0]] G107)]) Tryz.f138)]) Tryz.f106),(108,true,zcr [[1],[0,0]] G108),(105,true,lendPg [[0]] G105),(104,true,zcr [[0]] G104)]) rfl tyOK (zaL (zaa Tryz.func106 rfl rfl) (CallOK.inl rfl tyOK (zaL (zaa Tryz.func138 rfl rfl) (CallOK.inl rfl tyOK (zay (zaa Tryz.func107 rfl rfl) P107 (zae)) Tryz.func138 (by kernel_rfl)) (zae)) Tryz.func106 (by kernel_rfl)) (zbI (zaa Tryz.func108 rfl rfl) P108 (zay (zaa Tryz.func105 rfl rfl) P105 (zbI (zaa Tryz.func104 rfl rfl) P104 (zae))))) [[0],[0]] 1 Tryz.func79 rfl rfl (by decide) (by kernel_rfl) ?_;rintro ds d ⟨N,a0,r,rfl,hF,rfl⟩ hok;clear hok;refine⟨rfl, ?_⟩;show vc _ _ _ _ ⟨[(0, .dat (strN a0))],[]⟩ _;unfold f79 at hF
 repeat' (first
 | ((with_reducible first|refine q0 _ _ ?_|refine q1 _ _ _ _ ?_|refine q2 _ _ _ ?_);clear Q q0 q1 q2)
 | ((with_reducible first|refine zd6 ?hx (λ Q q0 q1 q2=>?_)|refine zea ?hx (λ Q q0 q1 q2=>?_));(case hx=>exact rfl);conv=>whnf)
 | ((with_reducible first|refine zeH ?hx ?_|refine zdJ ?hx ?_|refine zcD ?hx ?_|refine zdh ?hx ?_);(case hx=>exact rfl))
 | ((with_reducible refine zfs ?_);(first|((first|refine zeY rfl ?hy (λ Q q0 q1 q2=>?_)|refine zdX rfl ?hy (λ Q q0 q1 q2=>?_));(case hy=>first|assumption|exact notT (by assumption)|exact rfl);conv=>whnf)|((first|refine zdW rfl ?hy ?_|refine zc9 rfl ?hy ?_);(case hy=>first|assumption|exact notF (by assumption)|exact rfl))|(revert hF;(with_reducible first|refine zeZ ?hx ?_ ?_|refine zdY ?hx ?_ ?_);(case hx=>exact rfl);(intro hc hF Q q0 q1 q2;conv=>whnf);rotate_left;(intro hc hF);rotate_right)|(revert hF;(with_reducible first|refine ze0 ?hx ?_ ?_|refine zdZ ?hx ?_ ?_);(case hx=>exact rfl);(intro hc hF);rotate_left;(intro hc hF Q q0 q1 q2;conv=>whnf);rotate_right)))
 | ((with_reducible refine zdu ?_);(first|((refine zeF rfl ?hy ?_);(case hy=>first|assumption|exact notT (by assumption)|exact rfl))|((refine zeG rfl ?hy ?_);(case hy=>first|assumption|exact notF (by assumption)|exact rfl))|(revert hF;(with_reducible refine zic ?hx ?_ ?_);(case hx=>exact rfl);all_goals (intro hc hF))))
 | ((with_reducible refine zcJ ?_);(first|((with_reducible refine hR _ ?_);clear R hR)|((with_reducible refine hL _ ?_);clear L hL)))
 | ((with_reducible first|refine zcR ?_|refine zdn ?_|refine idx2 (by assumption) ?_|refine idx3 (by assumption) ?_);conv=>whnf)
 | (with_reducible first|refine zcf ?_|refine zcI ?_|refine zd5 ?_|refine zcZ ?_|refine zbK (λ R hR=>?_)|refine zbJ ?_|refine zby ?_|refine zh0 ?_|refine zbW ?_|refine zbM ?_|refine zcU ?_|refine zcv ?_)
 | ((with_reducible refine zcK [47,41,35,3305000103000000007,33,23] ?hx ?_);(case hx=>exact rfl))
 | ((with_reducible replace hF:=isE hF);(dsimp only[zjL,zq6,zjM,zjN,zbx,zb7,zjO,zq8,zjP,zlF,za2,zlG] at hF);first|((with_reducible replace hF:=chkE (e:=zfZ ..) hF);rewrite[zfZ] at hF)|((with_reducible replace hF:=chkE (e:=zf0 ..) hF);rewrite[zf0] at hF)|((with_reducible replace hF:=chkE (e:=zaP ..) hF);rewrite[zaP] at hF)|rewrite[zq5] at hF|rewrite[zhI] at hF|rewrite[zb6] at hF|rewrite[zhJ] at hF|rewrite[zq7] at hF|rewrite[zhK] at hF)
 | ((with_reducible refine zc7 ?_);(with_reducible replace hF:=zeV 0 hF);((refine Lp.cutI hF rfl rfl ?_ ?_) <;> clear hF);(intro hF);rotate_left;(rintro _ hF);rotate_right)
 | ((with_reducible refine zcL ?_);(with_reducible replace hF:=toLp 0 0 hF);exact Lp.headI hF () ⟨_,rfl,rfl,rfl,rfl⟩ rfl)
 | ((with_reducible refine zeW ?_);(with_reducible replace hF:=toLp 0 1 hF);((refine Lp.loopI hF () rfl ⟨_,rfl,rfl,rfl,rfl⟩ rfl (λ _=>rfl) ?_);clear hF);(rintro n _ hF))
 | ((with_reducible refine zeX ?_);(with_reducible replace hF:=toLp 0 1 hF);exact Lp.backI hF () ⟨_,rfl,rfl,rfl,rfl⟩ rfl)
 | ((with_reducible refine zc7 ?_);(with_reducible replace hF:=zeV 2 hF);((refine Lp.cutI hF rfl rfl ?_ ?_) <;> clear hF);(intro hF);rotate_left;(rintro⟨_,_⟩ hF);rotate_right)
 | ((with_reducible refine zcL ?_);(with_reducible replace hF:=toLp 0 2 hF);exact Lp.headI hF () ⟨_,rfl,rfl,rfl,rfl⟩ rfl)
 | ((with_reducible refine zc7 ?_);(with_reducible replace hF:=zeV 1 hF);((refine Lp.cutI hF rfl rfl ?_ ?_) <;> clear hF);(intro hF);rotate_left;(rintro _ hF);rotate_right)
 | ((with_reducible refine zcL ?_);(with_reducible replace hF:=toLp 0 1 hF);exact Lp.headI hF () ⟨_,rfl,rfl,rfl,rfl⟩ rfl)
 | ((with_reducible refine zeW ?_);(with_reducible replace hF:=toLp 0 2 hF);((refine Lp.loopI hF () rfl ⟨_,rfl,rfl,rfl,rfl⟩ rfl (λ _=>rfl) ?_);clear hF);(rintro n ⟨_,_⟩ hF))
 | ((with_reducible refine zeX ?_);(with_reducible replace hF:=toLp 0 2 hF);exact Lp.backI hF () ⟨_,rfl,rfl,rfl,rfl⟩ rfl)
 | (revert hF;(with_reducible refine G104.step ?hx ?_);(case hx=>exact rfl);intro v hF;conv=>whnf)
 | (revert hF;(with_reducible refine G105.lend ?hx ?_);(case hx=>exact rfl);intro v hF;conv=>whnf)
 | (revert hF;(with_reducible refine G107.lend ?hx ?_);(case hx=>exact rfl);intro v hF;conv=>whnf)
 | (revert hF;(with_reducible refine G108.step ?hx ?_);(case hx=>exact rfl);intro v hF;conv=>whnf)
 | ((with_reducible refine Or.inr ?_);(conv=>whnf);(with_reducible refine zqm (.int .i64 0) ?hg ?_);(case hg=>exact rfl);(with_reducible refine zfU (List.map iN (List.replicate 2 (0:Int))) ?hx ?_);(case hx=>(unfold ziZ;kernel_rfl));conv=>whnf)
 | ((with_reducible have hI:=zv4 hF);clear hI;revert hF;(refine zs0 (by decide) ?_);intro hF;conv=>whnf)
 | (revert hF;(refine A2iN.of_step ?_);intro x hF;conv=>whnf)
 | ((with_reducible refine zmG hF ?_);(clear hF;intro hF;conv=>whnf))
 | ((with_reducible have hG:=zju hF);clear hF;(first|(refine zmH hG (by(try simp only[W]);omega) (λ x hF=>?_))|(refine zmI hG (λ _=>rfl) (by(try simp only[W]);omega) (λ x hF=>?_)));clear hG;conv=>whnf)
 | ((with_reducible have hG:=zhg hF);clear hF;(first|(refine zjv hG (by(try simp only[W]);omega) rfl rfl (λ q hF=>?_))|(refine zjx hG (λ _=>rfl) (by(try simp only[W]);omega) rfl rfl (λ q hF=>?_)));clear hG;conv=>whnf)
 | (revert hF;(with_reducible refine idx1 ?hn ?_);(case hn=>first|exact rfl|exact(List.length_map _)|assumption|omega|simp);intro x hx hF;conv=>whnf)
 | ((with_reducible have hG:=zjt hF);clear hF;(refine znA hG (λ q hF=>?_));clear hG;conv=>whnf)
 | ((with_reducible refine zeS ?_);conv=>whnf)
 | ((with_reducible refine zhj ?hx ?_);(case hx=>first|exact rfl|assumption|exact notT (by assumption));conv=>whnf)
 | ((with_reducible refine zgh ?hx ?_);(case hx=>first|exact rfl|assumption|exact notF (by assumption));conv=>whnf)
 | (show retD _ _ _ _ _ _;conv=>whnf)
 | ((refine zaw 3304 3305000000 rfl rfl (Nat.le_of_ble_eq_true rfl) rfl (λ R hR=>?_));(conv=>whnf);(with_reducible refine hR _ ?ha ?_);(case ha=>exact rfl);clear R hR)
 | ((refine zaw 3305000102 3305000103000000 rfl rfl (Nat.le_of_ble_eq_true rfl) rfl (λ R hR=>?_));(conv=>whnf);(with_reducible refine hR _ ?ha ?_);(case ha=>exact rfl);clear R hR)
 | (show Kinl _ _ _ _ _ _ _;conv=>whnf)
 | ((with_reducible refine zc8 ?ha ?hb ?_);(case ha=>exact rfl);(case hb=>exact rfl);conv=>whnf)
 | ((refine⟨?hx,trivial⟩);(case hx=>(cases hF;exact rfl)))
 | with_reducible refine zfK ?_
 | ((refine I97.fo (K:=λ x=>mvPg x _ _ _ _) ?_);conv=>whnf)
 | ((refine I97.fp (K:=λ x=>Q ⟨x,[]⟩ _) ?_);conv=>whnf)
 | ((rename I97=>xi);cases xi <;> ((try dsimp only at hF);(try (conv=>whnf)))))

set_option maxRecDepth 20000 in
set_option maxHeartbeats 4000000 in
theorem P146:PureOK Tryz.prog 146 G146:=by
 refine zar (c:=zat zal [(158,true,lendPg [[1],[1]] G158),(132,true,lendPg [[1],[0],[1]] G132)]) rfl tyOK (zay (zaa Tryz.func158 rfl rfl) P158 (zay (zaa Tryz.func132 rfl rfl) P132 (zae))) [[0],[0]] 2 Tryz.func146 rfl rfl (by decide) (by kernel_rfl) ?_;rintro ds d ⟨N,a0,a1,r,rfl,hF,rfl⟩ hok;clear hok;refine⟨rfl, ?_⟩;show vc _ _ _ _ ⟨[(0, .dat (zav a0)),(1, .dat (zbn a1))],[]⟩ _;unfold f146 at hF;exact wk5

set_option maxRecDepth 20000 in
set_option maxHeartbeats 4000000 in
theorem Q51 (N:Nat):CallOK Tryz.prog 51 (effPg zo5 (H51 N)):=by
 induction N with
 | zero=>exact zaM λ x y h=>(by cases (show (none:Option (I97×Int))=some y from h))
 | succ N ih =>
  refine zaD (c:=zat zal [(51,true,effPg zo5 (H51 N)),(53,false,zbL (zat zal []) Tryz.f53),(215,true,effPg zlB G215),(212,true,effPg zlA G212),(210,true,effPg zlz G210),(208,true,effPg zlf G208),(206,true,effPg zle G206),(204,true,effPg zld G204),(202,true,effPg zlc G202),(200,true,effPg zlb G200),(198,true,effPg zla G198),(79,true,zcr [[0]] G79)]) rfl tyOK (zaj (zaa Tryz.func51 rfl rfl) ih (zaL (zaa Tryz.func53 rfl rfl) (CallOK.inl rfl tyOK (zae) Tryz.func53 (by kernel_rfl)) (zaj (zaa Tryz.func215 rfl rfl) P215 (zaj (zaa Tryz.func212 rfl rfl) P212 (zaj (zaa Tryz.func210 rfl rfl) P210 (zaj (zaa Tryz.func208 rfl rfl) P208 (zaj (zaa Tryz.func206 rfl rfl) P206 (zaj (zaa Tryz.func204 rfl rfl) P204 (zaj (zaa Tryz.func202 rfl rfl) P202 (zaj (zaa Tryz.func200 rfl rfl) P200 (zaj (zaa Tryz.func198 rfl rfl) P198 (zbI (zaa Tryz.func79 rfl rfl) P79 (zae))))))))))))) 1000 Srf51 zxi Tryz.func51 rfl rfl (by kernel_rfl) rfl rfl rfl rfl rfl rfl rfl rfl (λ _=>rfl) (λ _=>rfl) (λ _ _=>⟨rfl,rfl⟩) ?_;rintro⟨s0,s1,s2,s3,s4⟩ y hF;have hF:f51b (f51 N) N s0 s1 s2 s3 s4=some y:=hF;show vc _ _ _ _ ⟨[(0, .ptr 0 0),(1, .dat (strN s0))],[(0, .box [.ptr 1 0, .rs 2 (List.length s1)]),(1, .box [.mp 3, .mp 4, .mp 5]),(2,(rW s1)),(3,(sW [4] s2)),(4,(eW s3)),(5,(mW s4))]⟩ _;unfold f51b at hF
  repeat' (first
 | ((with_reducible first|refine q0 _ _ ?_|refine q1 _ _ _ _ ?_|refine q2 _ _ _ ?_);clear Q q0 q1 q2)
 | ((with_reducible first|refine zd6 ?hx (λ Q q0 q1 q2=>?_)|refine zdK ?hx (λ Q q0 q1 q2=>?_));(case hx=>exact rfl);conv=>whnf)
 | ((with_reducible refine zfs ?_);(first|((first|refine zeY rfl ?hy (λ Q q0 q1 q2=>?_)|refine zdX rfl ?hy (λ Q q0 q1 q2=>?_));(case hy=>first|assumption|exact notT (by assumption)|exact rfl);conv=>whnf)|((first|refine zdW rfl ?hy ?_|refine zc9 rfl ?hy ?_);(case hy=>first|assumption|exact notF (by assumption)|exact rfl))|(revert hF;(with_reducible first|refine zeZ ?hx ?_ ?_|refine zdY ?hx ?_ ?_);(case hx=>exact rfl);(intro hc hF Q q0 q1 q2;conv=>whnf);rotate_left;(intro hc hF);rotate_right)|(revert hF;(with_reducible first|refine ze0 ?hx ?_ ?_|refine zdZ ?hx ?_ ?_);(case hx=>exact rfl);(intro hc hF);rotate_left;(intro hc hF Q q0 q1 q2;conv=>whnf);rotate_right)))
 | ((with_reducible refine zdu ?_);(first|((refine zeF rfl ?hy ?_);(case hy=>first|assumption|exact notT (by assumption)|exact rfl))|((refine zeG rfl ?hy ?_);(case hy=>first|assumption|exact notF (by assumption)|exact rfl))|(revert hF;(with_reducible refine zic ?hx ?_ ?_);(case hx=>exact rfl);all_goals (intro hc hF))))
 | ((with_reducible refine zcJ ?_);(first|((with_reducible refine hR _ ?_);clear R hR)|((with_reducible refine hL _ ?_);clear L hL)))
 | ((with_reducible refine zcO ?_);(with_reducible refine hR _ _ ?hx ?_);(case hx=>kernel_rfl);clear R hR)
 | (with_reducible first|refine zcf ?_|refine zcI ?_|refine zd5 ?_|refine zcZ ?_|refine zbK (λ R hR=>?_)|refine zbJ ?_|refine zby ?_|refine zh0 ?_|refine zbW ?_|refine zbM ?_)
 | ((with_reducible refine zcK [1000006] ?hx ?_);(case hx=>exact rfl))
 | ((with_reducible refine zdI ?hx (λ R L hL hR=>?_));(case hx=>exact rfl))
 | ((with_reducible replace hF:=isE hF);(dsimp only[zmY] at hF);first|rewrite[zhL] at hF)
 | ((with_reducible refine zc7 ?_);(with_reducible replace hF:=zeV 2 hF);((refine Lp.cutI hF rfl rfl ?_ ?_) <;> clear hF);(intro hF);rotate_left;(rintro⟨_,_⟩ hF);rotate_right)
 | ((with_reducible refine zcL ?_);(with_reducible replace hF:=toLp 1 2 hF);exact Lp.headI hF (_,()) ⟨_,rfl,rfl,rfl,rfl⟩ (pr2 (by first|exact rfl|assumption|omega|(simp only[List.length_set];done)) rfl))
 | (revert hF;(with_reducible refine G79.step ?hx ?_);(case hx=>exact rfl);intro v hF;(obtain⟨v,ve⟩:=v);(try dsimp only at hF);(conv=>whnf))
 | ((with_reducible refine zcL ?_);(rename I97=>xi);cases xi)
 | (revert hF;(refine G198.step rfl rfl rfl rfl rfl  (by first|exact trivial|exact rfl) ?hn ?_);(case hn=>exact rfl);intro v hF;conv=>whnf)
 | (revert hF;(refine G200.step rfl rfl rfl rfl rfl  (by first|exact trivial|exact rfl) ?hn ?_);(case hn=>exact rfl);intro v hF;conv=>whnf)
 | (revert hF;(refine G202.step rfl rfl rfl rfl rfl  (by first|exact trivial|exact rfl) ?hn ?_);(case hn=>exact rfl);intro v hF;conv=>whnf)
 | (revert hF;(refine G204.step rfl rfl rfl rfl rfl  (by first|exact trivial|exact rfl) ?hn ?_);(case hn=>exact rfl);intro v hF;conv=>whnf)
 | (revert hF;(refine G206.step rfl rfl rfl rfl rfl  (by first|exact trivial|exact rfl) ?hn ?_);(case hn=>exact rfl);intro v hF;conv=>whnf)
 | (revert hF;(refine G208.step rfl rfl rfl rfl rfl  (by first|exact trivial|exact rfl) ?hn ?_);(case hn=>exact rfl);intro v hF;conv=>whnf)
 | (revert hF;(refine G210.step rfl rfl rfl rfl rfl  (by first|exact trivial|exact rfl) ?hn ?_);(case hn=>exact rfl);intro v hF;conv=>whnf)
 | (revert hF;(refine G212.step rfl rfl rfl rfl rfl  (by first|exact trivial|exact rfl) ?hn ?_);(case hn=>exact rfl);intro v hF;conv=>whnf)
 | (revert hF;(refine G215.step rfl rfl rfl rfl rfl  (by first|exact trivial|exact rfl) ?hn ?_);(case hn=>exact rfl);intro v hF;conv=>whnf)
 | (cases hF;(refine Or.inl ?_);(conv=>whnf);exact⟨rfl,rfl,rfl⟩)
 | with_reducible refine zfK ?_
 | (revert hF;(refine I97.on_step ?_ ?_ ?_ ?_ ?_ ?_ ?_ ?_ ?_ ?_) <;> ((intros);(rename_i hx hF);(first|(cases hx;done)|(subst hx;(conv=>whnf))|(cases hx;(conv=>whnf))|(simp only[hx];(conv=>whnf)))))
 | ((with_reducible refine zhj ?hx ?_);(case hx=>first|exact rfl|assumption|exact notT (by assumption));conv=>whnf)
 | ((with_reducible refine zgh ?hx ?_);(case hx=>first|exact rfl|assumption|exact notF (by assumption));conv=>whnf)
 | ((refine zaw 1101 1102000000 rfl rfl (Nat.le_of_ble_eq_true rfl) rfl (λ R hR=>?_));(conv=>whnf);(with_reducible refine hR _ ?ha ?_);(case ha=>exact rfl);clear R hR)
 | (show Kinl _ _ _ _ _ _ _;conv=>whnf)
 | ((with_reducible refine zc8 ?ha ?hb ?_);(case ha=>exact rfl);(case hb=>exact rfl);conv=>whnf)
 | (have hF:(none:Option _)=some _:=hF;cases hF)
 | ((refine I97.fo (K:=λ x=>Q ⟨x,[]⟩ _) ?_);conv=>whnf)
 | ((refine I97.fp (K:=λ x=>Q ⟨x,[]⟩ _) ?_);conv=>whnf)
 | ((refine I97.fp (K:=λ x=>mvPg x _ _ _ _) ?_);conv=>whnf)
 | ((rename I97=>xi);cases xi <;> ((try dsimp only at hF);(try (conv=>whnf)))))
theorem P51:CallOK Tryz.prog 51 (effPg zo5 G51):=zbq Q51

set_option maxRecDepth 20000 in
set_option maxHeartbeats 4000000 in
theorem P118:PureOK Tryz.prog 118 G118:=by
 refine zar (c:=zat zal [(147,true,lendPg [[1],[0]] G147),(146,true,lendPg [[1],[1]] G146)]) rfl tyOK (zay (zaa Tryz.func147 rfl rfl) P147 (zay (zaa Tryz.func146 rfl rfl) P146 (zae))) [[0],[0]] 2 Tryz.func118 rfl rfl (by decide) (by kernel_rfl) ?_;rintro ds d ⟨N,a0,a1,r,rfl,hF,rfl⟩ hok;clear hok;refine⟨rfl, ?_⟩;show vc _ _ _ _ ⟨[(0, .dat (zav a0)),(1, .dat (zbn a1))],[]⟩ _;unfold f118 at hF;exact wk5

set_option maxRecDepth 20000 in
set_option maxHeartbeats 4000000 in
theorem Q17 (N:Nat):CallOK Tryz.prog 17 (effPg zo6 (H17 N)):=by
 induction N with
 | zero=>exact zaM λ x y h=>(by cases (show (none:Option (Int))=some y from h))
 | succ N ih =>
  refine zaD (c:=zat zal [(17,true,effPg zo6 (H17 N)),(51,true,effPg zo5 G51)]) rfl tyOK (zaj (zaa Tryz.func17 rfl rfl) ih (zaj (zaa Tryz.func51 rfl rfl) P51 (zae))) 1000 Srf17 zxj Tryz.func17 rfl rfl (by kernel_rfl) rfl rfl rfl rfl rfl rfl rfl rfl (λ _=>rfl) (λ _=>rfl) (λ _ _=>⟨rfl,rfl⟩) ?_;rintro⟨s0,s1,s2,s3,s4⟩ y hF;have hF:f17b (f17 N) N s0 s1 s2 s3 s4=some y:=hF;show vc _ _ _ _ ⟨[(0, .ptr 0 0),(1, .dat (strN s0))],[(0, .box [.ptr 1 0, .rs 2 (List.length s1)]),(1, .box [.mp 3, .mp 4, .mp 5]),(2,(rW s1)),(3,(sW [4] s2)),(4,(eW s3)),(5,(mW s4))]⟩ _;unfold f17b at hF;exact wk4
theorem P17:CallOK Tryz.prog 17 (effPg zo6 G17):=zbq Q17

set_option maxRecDepth 20000 in
set_option maxHeartbeats 4000000 in
theorem Q18 (N:Nat):CallOK Tryz.prog 18 (effPg zo7 (H18 N)):=by
 induction N with
 | zero=>exact zaM λ x y h=>(by cases (show (none:Option (Int×LS×LE×LC×LB))=some y from h))
 | succ N ih =>
  refine zaD (c:=zat zal [(18,true,effPg zo7 (H18 N)),(214,true,effPg zlp G214),(211,true,effPg zlC G211),(209,true,effPg zlo G209),(207,true,effPg zln G207),(205,true,effPg zlm G205),(203,true,effPg zll G203),(201,true,effPg zlk G201),(199,true,effPg zlj G199),(197,true,effPg zli G197),(51,true,effPg zo5 G51)]) rfl tyOK (zaj (zaa Tryz.func18 rfl rfl) ih (zaj (zaa Tryz.func214 rfl rfl) P214 (zaj (zaa Tryz.func211 rfl rfl) P211 (zaj (zaa Tryz.func209 rfl rfl) P209 (zaj (zaa Tryz.func207 rfl rfl) P207 (zaj (zaa Tryz.func205 rfl rfl) P205 (zaj (zaa Tryz.func203 rfl rfl) P203 (zaj (zaa Tryz.func201 rfl rfl) P201 (zaj (zaa Tryz.func199 rfl rfl) P199 (zaj (zaa Tryz.func197 rfl rfl) P197 (zaj (zaa Tryz.func51 rfl rfl) P51 (zae)))))))))))) 1000 Srf18 zxk Tryz.func18 rfl rfl (by kernel_rfl) rfl rfl rfl rfl rfl rfl rfl rfl (λ _=>rfl) (λ _=>rfl) (λ _ _=>⟨rfl,rfl⟩) ?_;rintro⟨s0,s1,s2,s3,s4⟩ y hF;have hF:f18b (f18 N) N s0 s1 s2 s3 s4=some y:=hF;show vc _ _ _ _ ⟨[(0, .ptr 0 0),(1, .dat (strN s0))],[(0, .box [.ptr 1 0, .rs 2 (List.length s1)]),(1, .box [.mp 3, .mp 4, .mp 5]),(2,(rW s1)),(3,(sW [4] s2)),(4,(eW s3)),(5,(mW s4))]⟩ _;unfold f18b at hF;exact wk4
theorem P18:CallOK Tryz.prog 18 (effPg zo7 G18):=zbq Q18

set_option maxRecDepth 20000 in
set_option maxHeartbeats 4000000 in
theorem P83:PureOK Tryz.prog 83 G83:=by
 refine zar (c:=zat zal [(118,true,lendPg [[1],[1]] G118),(117,true,lendPg [[0],[0],[0]] G117),(116,true,lendPg [[1]] G116)]) rfl tyOK (zay (zaa Tryz.func118 rfl rfl) P118 (zay (zaa Tryz.func117 rfl rfl) P117 (zay (zaa Tryz.func116 rfl rfl) P116 (zae)))) [[1],[0]] 3 Tryz.func83 rfl rfl (by decide) (by kernel_rfl) ?_;rintro ds d ⟨N,a0,a1,a2,r,rfl,hF,rfl⟩ hok;clear hok;refine⟨rfl, ?_⟩;show vc _ _ _ _ ⟨[(0, .dat (zav a0)),(1, .dat (iN a1)),(2, .dat (iN a2))],[]⟩ _;unfold f83 at hF;exact wk2

set_option maxRecDepth 20000 in
set_option maxHeartbeats 4000000 in
theorem P57:PureOK Tryz.prog 57 G57:=by
 refine zar (c:=zat zal [(85,false,zbL (zat zal [(82,true,copyPg 106)]) Tryz.f85),(58,false,zbL (zat zal []) Tryz.f58),(84,true,zcr [] G84),(83,true,zcr [[1],[0],[0]] G83)]) rfl tyOK (zaL (zaa Tryz.func85 rfl rfl) (CallOK.inl rfl tyOK (znO (zaa Tryz.func82 rfl rfl) (zae)) Tryz.func85 (by kernel_rfl)) (zaL (zaa Tryz.func58 rfl rfl) (CallOK.inl rfl tyOK (zae) Tryz.func58 (by kernel_rfl)) (zbI (zaa Tryz.func84 rfl rfl) P84 (zbI (zaa Tryz.func83 rfl rfl) P83 (zae))))) [[0]] 1 Tryz.func57 rfl rfl (by decide) (by kernel_rfl) ?_;rintro ds d ⟨N,a0,r,rfl,hF,rfl⟩ hok;clear hok;refine⟨rfl, ?_⟩;show vc _ _ _ _ ⟨[(0, .dat (strN a0))],[]⟩ _;unfold f57 at hF;exact wk2

set_option maxRecDepth 20000 in
set_option maxHeartbeats 4000000 in
theorem Q23 (N:Nat):CallOK Tryz.prog 23 (effPg zre (H23 N)):=by
 induction N with
 | zero=>exact zaM λ x y h=>(by cases (show (none:Option (ByteArray))=some y from h))
 | succ N ih =>
  refine zaD (c:=zat zal [(23,true,effPg zre (H23 N)),(58,false,zbL (zat zal []) Tryz.f58),(56,false,zbL (zat zal [(82,true,copyPg 106)]) Tryz.f56),(53,false,zbL (zat zal []) Tryz.f53),(57,true,lendPg [[0]] G57),(30,true,lendPg [[0]] G30)]) rfl tyOK (zaj (zaa Tryz.func23 rfl rfl) ih (zaL (zaa Tryz.func58 rfl rfl) (CallOK.inl rfl tyOK (zae) Tryz.func58 (by kernel_rfl)) (zaL (zaa Tryz.func56 rfl rfl) (CallOK.inl rfl tyOK (znO (zaa Tryz.func82 rfl rfl) (zae)) Tryz.func56 (by kernel_rfl)) (zaL (zaa Tryz.func53 rfl rfl) (CallOK.inl rfl tyOK (zae) Tryz.func53 (by kernel_rfl)) (zay (zaa Tryz.func57 rfl rfl) P57 (zay (zaa Tryz.func30 rfl rfl) P30 (zae))))))) 1000 Srf23 zxl Tryz.func23 rfl rfl (by kernel_rfl) rfl rfl rfl rfl rfl rfl rfl rfl (λ _=>rfl) (λ _=>rfl) (λ _ _=>⟨rfl,rfl⟩) ?_;rintro⟨s0,s1,s2,s3⟩ y hF;have hF:f23b (f23 N) N s0 s1 s2 s3=some y:=hF;show vc _ _ _ _ ⟨[(0, .ptr 0 0)],[(0, .box [.ptr 1 0, .rs 2 (List.length s0)]),(1, .box [.mp 3, .mp 4, .mp 5]),(2,(rW s0)),(3,(sW [4] s1)),(4,(eW s2)),(5,(mW s3))]⟩ _;unfold f23b at hF;exact wk2
theorem P23:CallOK Tryz.prog 23 (effPg zre G23):=zbq Q23

set_option maxRecDepth 20000 in
set_option maxHeartbeats 4000000 in
theorem P14:PureOK Tryz.prog 14 G14:=by
 refine zar (c:=zat zal [(15,false,zbL (zat zal []) Tryz.f15),(40,true,effPg zo4 G40),(36,true,effPg zq4 G36),(34,true,effPg zq3 G34),(33,true,effPg zq2 G33),(32,true,effPg zq1 G32),(23,true,effPg zre G23),(18,true,effPg zo7 G18),(17,true,effPg zo6 G17),(44,true,zcr [] G44),(35,true,lendPg [[1],[1]] G35)]) rfl tyOK (zaL (zaa Tryz.func15 rfl rfl) (CallOK.inl rfl tyOK (zae) Tryz.func15 (by kernel_rfl)) (zaj (zaa Tryz.func40 rfl rfl) P40 (zaj (zaa Tryz.func36 rfl rfl) P36 (zaj (zaa Tryz.func34 rfl rfl) P34 (zaj (zaa Tryz.func33 rfl rfl) P33 (zaj (zaa Tryz.func32 rfl rfl) P32 (zaj (zaa Tryz.func23 rfl rfl) P23 (zaj (zaa Tryz.func18 rfl rfl) P18 (zaj (zaa Tryz.func17 rfl rfl) P17 (zbI (zaa Tryz.func44 rfl rfl) P44 (zay (zaa Tryz.func35 rfl rfl) P35 (zae)))))))))))) [[0]] 0 Tryz.func14 rfl rfl (by decide) (by kernel_rfl) ?_;rintro ds d ⟨N,r,rfl,hF,rfl⟩ hok;clear hok;refine⟨rfl, ?_⟩;show vc _ _ _ _ ⟨[],[]⟩ _;unfold f14 at hF
 repeat' (first
 | ((with_reducible first|refine q0 _ _ ?_|refine q1 _ _ _ _ ?_|refine q2 _ _ _ ?_);clear Q q0 q1 q2)
 | ((with_reducible first|refine zd6 ?hx (λ Q q0 q1 q2=>?_)|refine zea ?hx (λ Q q0 q1 q2=>?_));(case hx=>exact rfl);conv=>whnf)
 | ((with_reducible first|refine zeH ?hx ?_|refine zdJ ?hx ?_|refine zcD ?hx ?_|refine zdh ?hx ?_);(case hx=>exact rfl))
 | ((with_reducible refine zfs ?_);(first|((first|refine zeY rfl ?hy (λ Q q0 q1 q2=>?_)|refine zdX rfl ?hy (λ Q q0 q1 q2=>?_));(case hy=>first|assumption|exact notT (by assumption)|exact rfl);conv=>whnf)|((first|refine zdW rfl ?hy ?_|refine zc9 rfl ?hy ?_);(case hy=>first|assumption|exact notF (by assumption)|exact rfl))|(revert hF;(with_reducible first|refine zeZ ?hx ?_ ?_|refine zdY ?hx ?_ ?_);(case hx=>exact rfl);(intro hc hF Q q0 q1 q2;conv=>whnf);rotate_left;(intro hc hF);rotate_right)|(revert hF;(with_reducible first|refine ze0 ?hx ?_ ?_|refine zdZ ?hx ?_ ?_);(case hx=>exact rfl);(intro hc hF);rotate_left;(intro hc hF Q q0 q1 q2;conv=>whnf);rotate_right)))
 | ((with_reducible refine zdu ?_);(first|((refine zeF rfl ?hy ?_);(case hy=>first|assumption|exact notT (by assumption)|exact rfl))|((refine zeG rfl ?hy ?_);(case hy=>first|assumption|exact notF (by assumption)|exact rfl))|(revert hF;(with_reducible refine zic ?hx ?_ ?_);(case hx=>exact rfl);all_goals (intro hc hF))))
 | ((with_reducible refine zfs ?_);(refine zi4 zxA zxz (ks:=[]) rfl rfl ?_);dsimp only[St.kid];(first|((with_reducible refine hR _ ?_);clear R hR)|((with_reducible refine hL _ ?_);clear L hL)))
 | ((with_reducible refine zfs ?_);(refine zi4 2201000100 2201000101 (ks:=[]) rfl rfl ?_);dsimp only[St.kid];(first|((with_reducible refine hR _ ?_);clear R hR)|((with_reducible refine hL _ ?_);clear L hL)))
 | ((with_reducible refine zcJ ?_);(first|((with_reducible refine hR _ ?_);clear R hR)|((with_reducible refine hL _ ?_);clear L hL)))
 | ((with_reducible first|refine zcR ?_|refine zdn ?_|refine idx2 (by assumption) ?_|refine idx3 (by assumption) ?_);conv=>whnf)
 | (with_reducible first|refine zcf ?_|refine zcI ?_|refine zd5 ?_|refine zcZ ?_|refine zbK (λ R hR=>?_)|refine zbJ ?_|refine zby ?_|refine zh0 ?_|refine zbW ?_|refine zbM ?_|refine zcU ?_|refine zcv ?_)
 | ((with_reducible refine zcK [23,8,6] ?hx ?_);(case hx=>exact rfl))
 | ((with_reducible replace hF:=isE hF);(dsimp only[zjT,zm0,zm1,zug,zrf] at hF);first|((with_reducible replace hF:=chkE (e:=ziL ..) hF);rewrite[ziL] at hF)|rewrite[zhP] at hF|rewrite[zlK] at hF|rewrite[zuf] at hF)
 | ((with_reducible refine zc7 ?_);(with_reducible replace hF:=zeV 1 hF);((refine Lp.cutI hF rfl rfl ?_ ?_) <;> clear hF);(intro hF);rotate_left;(rintro _ hF);rotate_right)
 | ((with_reducible refine zcL ?_);(with_reducible replace hF:=toLp 2 1 hF);exact Lp.headI hF (_,_) ⟨_,rfl,rfl,rfl,rfl⟩ (pr2 (by first|exact rfl|assumption|omega|(simp only[List.length_set];done)) (by first|exact rfl|assumption|omega|(simp only[List.length_set];done))))
 | ((with_reducible refine zc7 ?_);(with_reducible replace hF:=zeV 4 hF);((refine Lp.cutI hF rfl rfl ?_ ?_) <;> clear hF);(intro hF);rotate_left;(rintro⟨_,_,_,_⟩ hF);rotate_right)
 | ((with_reducible refine zcL ?_);(with_reducible replace hF:=toLp 1 4 hF);exact Lp.headI hF (_,()) ⟨_,rfl,rfl,rfl,rfl⟩ (pr2 (by first|exact rfl|assumption|omega|(simp only[List.length_set];done)) rfl))
 | ((with_reducible refine zc7 ?_);(with_reducible replace hF:=zeV 0 hF);((refine Lp.cutI hF rfl rfl ?_ ?_) <;> clear hF);(intro hF);rotate_left;(rintro _ hF);rotate_right)
 | ((with_reducible refine zcL ?_);(with_reducible replace hF:=toLp 1 0 hF);exact Lp.headI hF (_,()) ⟨_,rfl,rfl,rfl,rfl⟩ (pr2 (by first|exact rfl|assumption|omega|(simp only[List.length_set];done)) rfl))
 | ((with_reducible refine zeW ?_);(with_reducible replace hF:=toLp 1 5 hF);((refine Lp.loopI hF (_,()) rfl ⟨_,rfl,rfl,rfl,rfl⟩ (pr2 (by first|exact rfl|assumption|omega|(simp only[List.length_set];done)) rfl) (λ _=>rfl) ?_);clear hF);(rintro n ⟨_,_,_,_,_⟩ hF))
 | ((with_reducible refine zeX ?_);(with_reducible replace hF:=toLp 1 5 hF);exact Lp.backI hF (_,()) ⟨_,rfl,rfl,rfl,rfl⟩ (pr2 (by first|exact rfl|assumption|omega|(simp only[List.length_set];done)) rfl))
 | (revert hF;(with_reducible refine G35.lend ?hx ?_);(case hx=>exact rfl);intro v hF;conv=>whnf)
 | (revert hF;(with_reducible refine G44.step ?hx ?_);(case hx=>exact rfl);intro v hF;conv=>whnf)
 | (revert hF;(refine G17.step rfl rfl rfl rfl rfl rfl rfl (by first|exact rfl|assumption|omega|(simp only[List.length_set];done)) (by first|exact trivial|exact rfl) ?hn ?_);(case hn=>exact rfl);intro v hF;conv=>whnf)
 | (revert hF;(refine G18.step rfl rfl rfl rfl rfl rfl rfl (by first|exact rfl|assumption|omega|(simp only[List.length_set];done)) (by first|exact trivial|exact rfl) ?hn ?_);(case hn=>exact rfl);intro v hF;conv=>whnf)
 | (revert hF;(refine G23.step rfl rfl rfl rfl rfl rfl rfl (by first|exact rfl|assumption|omega|(simp only[List.length_set];done)) (by first|exact trivial|exact rfl) ?hn ?_);(case hn=>exact rfl);intro v hF;conv=>whnf)
 | (revert hF;(refine G32.step rfl rfl rfl rfl rfl rfl rfl (by first|exact rfl|assumption|omega|(simp only[List.length_set];done)) (by first|exact trivial|exact rfl) ?hn ?_);(case hn=>exact rfl);intro v hF;conv=>whnf)
 | (revert hF;(refine G33.step rfl rfl rfl rfl rfl rfl rfl (by first|exact rfl|assumption|omega|(simp only[List.length_set];done)) (by first|exact trivial|exact rfl) ?hn ?_);(case hn=>exact rfl);intro v hF;conv=>whnf)
 | (revert hF;(refine G34.step rfl rfl rfl rfl rfl rfl rfl (by first|exact rfl|assumption|omega|(simp only[List.length_set];done)) (by first|exact trivial|exact rfl) ?hn ?_);(case hn=>exact rfl);intro v hF;conv=>whnf)
 | (revert hF;(refine G36.step rfl rfl rfl rfl rfl rfl rfl (by first|exact rfl|assumption|omega|(simp only[List.length_set];done)) (by first|exact trivial|exact rfl) ?hn ?_);(case hn=>exact rfl);intro v hF;conv=>whnf)
 | (revert hF;(refine G40.step rfl rfl rfl rfl rfl rfl rfl (by first|exact rfl|assumption|omega|(simp only[List.length_set];done)) (by first|exact trivial|exact rfl) ?hn ?_);(case hn=>exact rfl);intro v hF;conv=>whnf)
 | (revert hF;(with_reducible refine idx1 ?hn ?_);(case hn=>first|exact rfl|exact(List.length_map _)|assumption|omega|simp);intro x hx hF;conv=>whnf)
 | ((refine zeU ?hn ?_);(case hn=>first|exact rfl|(simp;done)|(simp;omega));conv=>whnf)
 | ((with_reducible refine zhj ?hx ?_);(case hx=>first|exact rfl|assumption|exact notT (by assumption));conv=>whnf)
 | ((with_reducible refine zgh ?hx ?_);(case hx=>first|exact rfl|assumption|exact notF (by assumption));conv=>whnf)
 | ((refine zaw 100 101000000 rfl rfl (Nat.le_of_ble_eq_true rfl) rfl (λ R hR=>?_));(conv=>whnf);(with_reducible refine hR _ ?ha ?_);(case ha=>exact rfl);clear R hR)
 | ((refine zaw 2200 2201000000 rfl rfl (Nat.le_of_ble_eq_true rfl) rfl (λ R hR=>?_));(conv=>whnf);(with_reducible refine hR _ ?ha ?_);(case ha=>exact rfl);clear R hR)
 | (show Kinl _ _ _ _ _ _ _;conv=>whnf)
 | ((with_reducible refine zc8 ?ha ?hb ?_);(case ha=>exact rfl);(case hb=>exact rfl);conv=>whnf)
 | ((refine⟨?hx,trivial⟩);(case hx=>(cases hF;exact rfl)))
 | ((refine⟨?hx, ?_⟩);(case hx=>decide);conv=>whnf)
 | with_reducible refine zfK ?_)


end Go.Vc
