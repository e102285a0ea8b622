/-
  A library for proofs about Go functions by symbolic evaluation,and plain Lean functions that the walked Go functions compute (written by a program of this claim).
-/
import Derived.Test.YtijmkjnlgcockaaGreatDoorFMF1
import Derived.Test.YtijmkjnlgcockaaGreatDoorFMF2
import Derived.Test.YtijmkjnlgcockaaGreatDoorFMF3
set_option linter.unusedVariables false
set_option linter.unnecessarySimpa false
set_option linter.unusedSimpArgs false
namespace Go.Vc
open Go.Proofs
set_option maxRecDepth 20000 in
set_option maxHeartbeats 4000000 in
theorem P79 : PureOK Tryz.prog 79 G79 := by
 refine zap (c := zao zai [(106,false,zbn (zao zai [(138,false,zbn (zao zai [(107,true,lendPg [[0]] G107)]) Tryz.f138)]) Tryz.f106),(108,true,zbN [[1],[0,0]] G108),(105,true,lendPg [[0]] G105),(104,true,zbN [[0]] G104)]) rfl tyOK (zaD (zaa Tryz.func106 rfl rfl) (CallOK.inl rfl tyOK (zaD (zaa Tryz.func138 rfl rfl) (CallOK.inl rfl tyOK (zax (zaa Tryz.func107 rfl rfl) P107 (zac)) Tryz.func138 (by kernel_rfl)) (zac)) Tryz.func106 (by kernel_rfl)) (za9 (zaa Tryz.func108 rfl rfl) P108 (zax (zaa Tryz.func105 rfl rfl) P105 (za9 (zaa Tryz.func104 rfl rfl) P104 (zac))))) [[0],[0]] 1 Tryz.func79 rfl rfl (by decide) (by kernel_rfl) ?_;rintro ds d ⟨N,a0,r,rfl,hF,rfl⟩ hok;clear hok;refine ⟨rfl, ?_⟩;show vc _ _ _ _ ⟨[(0, .dat (strN a0))],[]⟩ _;unfold f79 at hF
 repeat' (first
 | ((with_reducible first | refine q0 _ _ ?_ | refine q1 _ _ _ _ ?_ | refine q2 _ _ _ ?_);clear Q q0 q1 q2)
 | ((with_reducible first | refine zdv ?hx (λ Q q0 q1 q2=>?_) | refine zdb ?hx (λ Q q0 q1 q2=>?_));(case hx=>exact rfl);conv=>whnf)
 | ((with_reducible first | refine zd8 ?hx ?_ | refine zdc ?hx ?_ | refine zc ?hx ?_ | refine zcM ?hx ?_);(case hx=>exact rfl))
 | ((with_reducible refine zdH ?_);(first | ((first | refine zem rfl ?hy (λ Q q0 q1 q2=>?_) | refine zdo rfl ?hy (λ Q q0 q1 q2=>?_));(case hy=>first | assumption | exact notT (by assumption) | exact rfl);conv=>whnf) | ((first | refine zdn rfl ?hy ?_ | refine zcC rfl ?hy ?_);(case hy=>first | assumption | exact notF (by assumption) | exact rfl)) | (revert hF;(with_reducible first | refine zen ?hx ?_ ?_ | refine zdp ?hx ?_ ?_);(case hx=>exact rfl);(intro hc hF Q q0 q1 q2;conv=>whnf);rotate_left;(intro hc hF);rotate_right) | (revert hF;(with_reducible first | refine zeo ?hx ?_ ?_ | refine zdq ?hx ?_ ?_);(case hx=>exact rfl);(intro hc hF);rotate_left;(intro hc hF Q q0 q1 q2;conv=>whnf);rotate_right)))
 | ((with_reducible refine zcZ ?_);(first | ((refine zd6 rfl ?hy ?_);(case hy=>first | assumption | exact notT (by assumption) | exact rfl)) | ((refine zd7 rfl ?hy ?_);(case hy=>first | assumption | exact notF (by assumption) | exact rfl)) | (revert hF;(with_reducible refine zhl ?hx ?_ ?_);(case hx=>exact rfl);all_goals (intro hc hF))))
 | ((with_reducible refine zcf ?_);(first | ((with_reducible refine hR _ ?_);clear R hR) | ((with_reducible refine hL _ ?_);clear L hL)))
 | ((with_reducible first | refine zcl ?_ | refine zcm ?_ | refine idx2 (by assumption) ?_ | refine idx3 (by assumption) ?_);conv=>whnf)
 | (with_reducible first | refine zbP ?_ | refine zce ?_ | refine zdu ?_ | refine zct ?_ | refine zbm (λ R hR=>?_) | refine zbl ?_ | refine zba ?_ | refine zh ?_ | refine zby ?_ | refine zbo ?_ | refine zco ?_ | refine zb1 ?_)
 | ((with_reducible refine zcg [47,41,35,3305000103000000007,33,23] ?hx ?_);(case hx=>exact rfl))
 | ((with_reducible replace hF := isE hF);(dsimp only [ziM,zpL,ziN,ziO,za8,zbL,ziP,zpN,ziQ,zkt,zaR,zku] at hF);first | ((with_reducible replace hF := chkE (e := zfe ..) hF);rewrite [zfe] at hF) | ((with_reducible replace hF := chkE (e := zff ..) hF);rewrite [zff] at hF) | ((with_reducible replace hF := chkE (e := zaF ..) hF);rewrite [zaF] at hF) | rewrite [zpK] at hF | rewrite [zgS] at hF | rewrite [zbK] at hF | rewrite [zgT] at hF | rewrite [zpM] at hF | rewrite [zgU] at hF)
 | ((with_reducible refine zb3 ?_);(with_reducible replace hF := zel 0 hF);((refine Lp.cutI hF rfl rfl ?_ ?_) <;> clear hF);(intro hF);rotate_left;(rintro _ hF);rotate_right)
 | ((with_reducible refine zbi ?_);(with_reducible replace hF := toLp 0 0 hF);exact Lp.headI hF () ⟨_,rfl,rfl,rfl,rfl⟩ rfl)
 | ((with_reducible refine zcz ?_);(with_reducible replace hF := toLp 0 1 hF);((refine Lp.loopI hF () rfl ⟨_,rfl,rfl,rfl,rfl⟩ rfl (λ _=>rfl) ?_);clear hF);(rintro n _ hF))
 | ((with_reducible refine zcA ?_);(with_reducible replace hF := toLp 0 1 hF);exact Lp.backI hF () ⟨_,rfl,rfl,rfl,rfl⟩ rfl)
 | ((with_reducible refine zb3 ?_);(with_reducible replace hF := zel 2 hF);((refine Lp.cutI hF rfl rfl ?_ ?_) <;> clear hF);(intro hF);rotate_left;(rintro ⟨_,_⟩ hF);rotate_right)
 | ((with_reducible refine zbi ?_);(with_reducible replace hF := toLp 0 2 hF);exact Lp.headI hF () ⟨_,rfl,rfl,rfl,rfl⟩ rfl)
 | ((with_reducible refine zb3 ?_);(with_reducible replace hF := zel 1 hF);((refine Lp.cutI hF rfl rfl ?_ ?_) <;> clear hF);(intro hF);rotate_left;(rintro _ hF);rotate_right)
 | ((with_reducible refine zbi ?_);(with_reducible replace hF := toLp 0 1 hF);exact Lp.headI hF () ⟨_,rfl,rfl,rfl,rfl⟩ rfl)
 | ((with_reducible refine zcz ?_);(with_reducible replace hF := toLp 0 2 hF);((refine Lp.loopI hF () rfl ⟨_,rfl,rfl,rfl,rfl⟩ rfl (λ _=>rfl) ?_);clear hF);(rintro n ⟨_,_⟩ hF))
 | ((with_reducible refine zcA ?_);(with_reducible replace hF := toLp 0 2 hF);exact Lp.backI hF () ⟨_,rfl,rfl,rfl,rfl⟩ rfl)
 | (revert hF;(with_reducible refine G104.step ?hx ?_);(case hx=>exact rfl);intro v hF;conv=>whnf)
 | (revert hF;(with_reducible refine G105.lend ?hx ?_);(case hx=>exact rfl);intro v hF;conv=>whnf)
 | (revert hF;(with_reducible refine G107.lend ?hx ?_);(case hx=>exact rfl);intro v hF;conv=>whnf)
 | (revert hF;(with_reducible refine G108.step ?hx ?_);(case hx=>exact rfl);intro v hF;conv=>whnf)
 | ((refine Or.inr ?_);(conv=>whnf);(with_reducible refine zhG (List.map iN (List.replicate 2 (0 : Int))) ?hx ?_);(case hx=>(unfold zmY;kernel_rfl));conv=>whnf)
 | ((with_reducible have hI := zub hF);clear hI;revert hF;(refine zrh (by decide) ?_);intro hF;conv=>whnf)
 | (revert hF;(refine A2iN.of_step ?_);intro x hF;conv=>whnf)
 | ((with_reducible refine zoX hF ?_);(clear hF;intro hF;conv=>whnf))
 | ((with_reducible have hG := zmk hF);clear hF;(first | (refine zoY hG (by (try simp only [W]);omega) (λ x hF=>?_)) | (refine zoZ hG (λ _=>rfl) (by (try simp only [W]);omega) (λ x hF=>?_)));clear hG;conv=>whnf)
 | ((with_reducible have hG := zjP hF);clear hF;(first | (refine zml hG (by (try simp only [W]);omega) rfl rfl (λ q hF=>?_)) | (refine zmm hG (λ _=>rfl) (by (try simp only [W]);omega) rfl rfl (λ q hF=>?_)));clear hG;conv=>whnf)
 | (revert hF;(with_reducible refine idx1 ?hn ?_);(case hn=>first | exact rfl | exact (List.length_map _) | assumption | omega | simp);intro x hx hF;conv=>whnf)
 | ((with_reducible have hG := ziw hF);clear hF;(refine zmj hG (λ q hF=>?_));clear hG;conv=>whnf)
 | ((with_reducible refine zej ?_);conv=>whnf)
 | ((with_reducible refine zgA ?hx ?_);(case hx=>first | exact rfl | assumption | exact notT (by assumption));conv=>whnf)
 | ((with_reducible refine zfy ?hx ?_);(case hx=>first | exact rfl | assumption | exact notF (by assumption));conv=>whnf)
 | (show retD _ _ _ _ _ _;conv=>whnf)
 | ((refine zat 3304 3305000000 rfl rfl (Nat.le_of_ble_eq_true rfl) rfl (λ R hR=>?_));(conv=>whnf);(with_reducible refine hR _ ?ha ?_);(case ha=>exact rfl);clear R hR)
 | ((refine zat 3305000102 3305000103000000 rfl rfl (Nat.le_of_ble_eq_true rfl) rfl (λ R hR=>?_));(conv=>whnf);(with_reducible refine hR _ ?ha ?_);(case ha=>exact rfl);clear R hR)
 | (show Kinl _ _ _ _ _ _ _;conv=>whnf)
 | ((with_reducible refine zcB ?ha ?hb ?_);(case ha=>exact rfl);(case hb=>exact rfl);conv=>whnf)
 | ((refine ⟨?hx,trivial⟩);(case hx=>(cases hF;exact rfl)))
 | with_reducible refine zeC ?_
 | ((refine I97.fo (K := λ x=>one x _ _ _ _) ?_);conv=>whnf)
 | ((refine I97.fp (K := λ x=>Q ⟨x,[]⟩ _) ?_);conv=>whnf)
 | ((rename I97=>xi);cases xi <;> ((try dsimp only at hF);(try (conv=>whnf)))))

set_option maxRecDepth 20000 in
set_option maxHeartbeats 4000000 in
theorem P146 : PureOK Tryz.prog 146 G146 := by
 refine zap (c := zao zai [(158,true,lendPg [[1],[1]] G158),(132,true,lendPg [[1],[0],[1]] G132)]) rfl tyOK (zax (zaa Tryz.func158 rfl rfl) P158 (zax (zaa Tryz.func132 rfl rfl) P132 (zac))) [[0],[0]] 2 Tryz.func146 rfl rfl (by decide) (by kernel_rfl) ?_;rintro ds d ⟨N,a0,a1,r,rfl,hF,rfl⟩ hok;clear hok;refine ⟨rfl, ?_⟩;show vc _ _ _ _ ⟨[(0, .dat (zaq a0)),(1, .dat (zbj a1))],[]⟩ _;unfold f146 at hF;exact wk7

set_option maxRecDepth 20000 in
set_option maxHeartbeats 4000000 in
theorem Q51 (N : Nat) : CallOK Tryz.prog 51 (effPg znQ (H51 N)) := by
 induction N with
 | zero=>exact zaE λ x y h=>(by cases (show (none : Option (I97 × Int)) = some y from h))
 | succ N ih =>
  refine zaw (c := zao zai [(51,true,effPg znQ (H51 N)),(53,false,zbn (zao zai []) Tryz.f53),(215,true,effPg zkp G215),(212,true,effPg zko G212),(210,true,effPg zkn G210),(208,true,effPg zj5 G208),(206,true,effPg zj4 G206),(204,true,effPg zj3 G204),(202,true,effPg zj2 G202),(200,true,effPg zj1 G200),(198,true,effPg zj0 G198),(79,true,zbN [[0]] G79)]) rfl tyOK (zah (zaa Tryz.func51 rfl rfl) ih (zaD (zaa Tryz.func53 rfl rfl) (CallOK.inl rfl tyOK (zac) Tryz.func53 (by kernel_rfl)) (zah (zaa Tryz.func215 rfl rfl) P215 (zah (zaa Tryz.func212 rfl rfl) P212 (zah (zaa Tryz.func210 rfl rfl) P210 (zah (zaa Tryz.func208 rfl rfl) P208 (zah (zaa Tryz.func206 rfl rfl) P206 (zah (zaa Tryz.func204 rfl rfl) P204 (zah (zaa Tryz.func202 rfl rfl) P202 (zah (zaa Tryz.func200 rfl rfl) P200 (zah (zaa Tryz.func198 rfl rfl) P198 (za9 (zaa Tryz.func79 rfl rfl) P79 (zac))))))))))))) 1000 Srf51 zvq Tryz.func51 rfl rfl (by kernel_rfl) rfl rfl rfl rfl rfl rfl rfl rfl (λ _=>rfl) (λ _=>rfl) (λ _ _=>⟨rfl,rfl⟩) ?_;rintro ⟨s0,s1,s2,s3,s4⟩ y hF;have hF : f51b (f51 N) N s0 s1 s2 s3 s4 = some y := hF;show vc _ _ _ _ ⟨[(0, .ptr 0 0),(1, .dat (strN s0))],[(0, .box [.ptr 1 0, .rs 2 (List.length s1)]),(1, .box [.mp 3, .mp 4, .mp 5]),(2,(rW s1)),(3,(sW [4] s2)),(4,(eW s3)),(5,(mW s4))]⟩ _;unfold f51b at hF
  repeat' (first
 | ((with_reducible first | refine q0 _ _ ?_ | refine q1 _ _ _ _ ?_ | refine q2 _ _ _ ?_);clear Q q0 q1 q2)
 | ((with_reducible first | refine zdv ?hx (λ Q q0 q1 q2=>?_) | refine zdd ?hx (λ Q q0 q1 q2=>?_));(case hx=>exact rfl);conv=>whnf)
 | ((with_reducible refine zdH ?_);(first | ((first | refine zem rfl ?hy (λ Q q0 q1 q2=>?_) | refine zdo rfl ?hy (λ Q q0 q1 q2=>?_));(case hy=>first | assumption | exact notT (by assumption) | exact rfl);conv=>whnf) | ((first | refine zdn rfl ?hy ?_ | refine zcC rfl ?hy ?_);(case hy=>first | assumption | exact notF (by assumption) | exact rfl)) | (revert hF;(with_reducible first | refine zen ?hx ?_ ?_ | refine zdp ?hx ?_ ?_);(case hx=>exact rfl);(intro hc hF Q q0 q1 q2;conv=>whnf);rotate_left;(intro hc hF);rotate_right) | (revert hF;(with_reducible first | refine zeo ?hx ?_ ?_ | refine zdq ?hx ?_ ?_);(case hx=>exact rfl);(intro hc hF);rotate_left;(intro hc hF Q q0 q1 q2;conv=>whnf);rotate_right)))
 | ((with_reducible refine zcZ ?_);(first | ((refine zd6 rfl ?hy ?_);(case hy=>first | assumption | exact notT (by assumption) | exact rfl)) | ((refine zd7 rfl ?hy ?_);(case hy=>first | assumption | exact notF (by assumption) | exact rfl)) | (revert hF;(with_reducible refine zhl ?hx ?_ ?_);(case hx=>exact rfl);all_goals (intro hc hF))))
 | ((with_reducible refine zcf ?_);(first | ((with_reducible refine hR _ ?_);clear R hR) | ((with_reducible refine hL _ ?_);clear L hL)))
 | ((with_reducible refine zci ?_);(with_reducible refine hR _ _ ?hx ?_);(case hx=>kernel_rfl);clear R hR)
 | (with_reducible first | refine zbP ?_ | refine zce ?_ | refine zdu ?_ | refine zct ?_ | refine zbm (λ R hR=>?_) | refine zbl ?_ | refine zba ?_ | refine zh ?_ | refine zby ?_ | refine zbo ?_)
 | ((with_reducible refine zcg [1000006] ?hx ?_);(case hx=>exact rfl))
 | ((with_reducible refine zda ?hx (λ R L hL hR=>?_));(case hx=>exact rfl))
 | ((with_reducible replace hF := isE hF);(dsimp only [zlx] at hF);first | rewrite [zgV] at hF)
 | ((with_reducible refine zb3 ?_);(with_reducible replace hF := zel 2 hF);((refine Lp.cutI hF rfl rfl ?_ ?_) <;> clear hF);(intro hF);rotate_left;(rintro ⟨_,_⟩ hF);rotate_right)
 | ((with_reducible refine zbi ?_);(with_reducible replace hF := toLp 1 2 hF);exact Lp.headI hF (_,()) ⟨_,rfl,rfl,rfl,rfl⟩ (pr2 (by first | exact rfl | assumption | omega | (simp only [List.length_set];done)) rfl))
 | (revert hF;(with_reducible refine G79.step ?hx ?_);(case hx=>exact rfl);intro v hF;(obtain ⟨v,ve⟩ := v);(try dsimp only at hF);(conv=>whnf))
 | ((with_reducible refine zbi ?_);(rename I97=>xi);cases xi)
 | (revert hF;(refine G198.step rfl rfl rfl rfl rfl  (by first | exact trivial | exact rfl) ?hn ?_);(case hn=>exact rfl);intro v hF;conv=>whnf)
 | (revert hF;(refine G200.step rfl rfl rfl rfl rfl  (by first | exact trivial | exact rfl) ?hn ?_);(case hn=>exact rfl);intro v hF;conv=>whnf)
 | (revert hF;(refine G202.step rfl rfl rfl rfl rfl  (by first | exact trivial | exact rfl) ?hn ?_);(case hn=>exact rfl);intro v hF;conv=>whnf)
 | (revert hF;(refine G204.step rfl rfl rfl rfl rfl  (by first | exact trivial | exact rfl) ?hn ?_);(case hn=>exact rfl);intro v hF;conv=>whnf)
 | (revert hF;(refine G206.step rfl rfl rfl rfl rfl  (by first | exact trivial | exact rfl) ?hn ?_);(case hn=>exact rfl);intro v hF;conv=>whnf)
 | (revert hF;(refine G208.step rfl rfl rfl rfl rfl  (by first | exact trivial | exact rfl) ?hn ?_);(case hn=>exact rfl);intro v hF;conv=>whnf)
 | (revert hF;(refine G210.step rfl rfl rfl rfl rfl  (by first | exact trivial | exact rfl) ?hn ?_);(case hn=>exact rfl);intro v hF;conv=>whnf)
 | (revert hF;(refine G212.step rfl rfl rfl rfl rfl  (by first | exact trivial | exact rfl) ?hn ?_);(case hn=>exact rfl);intro v hF;conv=>whnf)
 | (revert hF;(refine G215.step rfl rfl rfl rfl rfl  (by first | exact trivial | exact rfl) ?hn ?_);(case hn=>exact rfl);intro v hF;conv=>whnf)
 | (cases hF;(refine Or.inl ?_);(conv=>whnf);exact ⟨rfl,rfl,rfl⟩)
 | with_reducible refine zeC ?_
 | (revert hF;(refine I97.on_step ?_ ?_ ?_ ?_ ?_ ?_ ?_ ?_ ?_ ?_) <;> ((intros);(rename_i hx hF);(first | (cases hx;done) | (subst hx;(conv=>whnf)) | (cases hx;(conv=>whnf)) | (simp only [hx];(conv=>whnf)))))
 | ((with_reducible refine zgA ?hx ?_);(case hx=>first | exact rfl | assumption | exact notT (by assumption));conv=>whnf)
 | ((with_reducible refine zfy ?hx ?_);(case hx=>first | exact rfl | assumption | exact notF (by assumption));conv=>whnf)
 | ((refine zat 1101 1102000000 rfl rfl (Nat.le_of_ble_eq_true rfl) rfl (λ R hR=>?_));(conv=>whnf);(with_reducible refine hR _ ?ha ?_);(case ha=>exact rfl);clear R hR)
 | (show Kinl _ _ _ _ _ _ _;conv=>whnf)
 | ((with_reducible refine zcB ?ha ?hb ?_);(case ha=>exact rfl);(case hb=>exact rfl);conv=>whnf)
 | (have hF : (none : Option _) = some _ := hF;cases hF)
 | ((refine I97.fo (K := λ x=>Q ⟨x,[]⟩ _) ?_);conv=>whnf)
 | ((refine I97.fp (K := λ x=>Q ⟨x,[]⟩ _) ?_);conv=>whnf)
 | ((refine I97.fp (K := λ x=>one x _ _ _ _) ?_);conv=>whnf)
 | ((rename I97=>xi);cases xi <;> ((try dsimp only at hF);(try (conv=>whnf)))))
theorem P51 : CallOK Tryz.prog 51 (effPg znQ G51) := za5 Q51

set_option maxRecDepth 20000 in
set_option maxHeartbeats 4000000 in
theorem P118 : PureOK Tryz.prog 118 G118 := by
 refine zap (c := zao zai [(147,true,lendPg [[1],[0]] G147),(146,true,lendPg [[1],[1]] G146)]) rfl tyOK (zax (zaa Tryz.func147 rfl rfl) P147 (zax (zaa Tryz.func146 rfl rfl) P146 (zac))) [[0],[0]] 2 Tryz.func118 rfl rfl (by decide) (by kernel_rfl) ?_;rintro ds d ⟨N,a0,a1,r,rfl,hF,rfl⟩ hok;clear hok;refine ⟨rfl, ?_⟩;show vc _ _ _ _ ⟨[(0, .dat (zaq a0)),(1, .dat (zbj a1))],[]⟩ _;unfold f118 at hF;exact wk7

set_option maxRecDepth 20000 in
set_option maxHeartbeats 4000000 in
theorem Q17 (N : Nat) : CallOK Tryz.prog 17 (effPg zpO (H17 N)) := by
 induction N with
 | zero=>exact zaE λ x y h=>(by cases (show (none : Option (Int)) = some y from h))
 | succ N ih =>
  refine zaw (c := zao zai [(17,true,effPg zpO (H17 N)),(51,true,effPg znQ G51)]) rfl tyOK (zah (zaa Tryz.func17 rfl rfl) ih (zah (zaa Tryz.func51 rfl rfl) P51 (zac))) 1000 Srf17 zvr Tryz.func17 rfl rfl (by kernel_rfl) rfl rfl rfl rfl rfl rfl rfl rfl (λ _=>rfl) (λ _=>rfl) (λ _ _=>⟨rfl,rfl⟩) ?_;rintro ⟨s0,s1,s2,s3,s4⟩ y hF;have hF : f17b (f17 N) N s0 s1 s2 s3 s4 = some y := hF;show vc _ _ _ _ ⟨[(0, .ptr 0 0),(1, .dat (strN s0))],[(0, .box [.ptr 1 0, .rs 2 (List.length s1)]),(1, .box [.mp 3, .mp 4, .mp 5]),(2,(rW s1)),(3,(sW [4] s2)),(4,(eW s3)),(5,(mW s4))]⟩ _;unfold f17b at hF;exact wk5
theorem P17 : CallOK Tryz.prog 17 (effPg zpO G17) := za5 Q17

set_option maxRecDepth 20000 in
set_option maxHeartbeats 4000000 in
theorem Q18 (N : Nat) : CallOK Tryz.prog 18 (effPg zly (H18 N)) := by
 induction N with
 | zero=>exact zaE λ x y h=>(by cases (show (none : Option (Int × LS × LE × LC × LB)) = some y from h))
 | succ N ih =>
  refine zaw (c := zao zai [(18,true,effPg zly (H18 N)),(214,true,effPg zke G214),(211,true,effPg zkq G211),(209,true,effPg zkd G209),(207,true,effPg zkc G207),(205,true,effPg zkb G205),(203,true,effPg zka G203),(201,true,effPg zk G201),(199,true,effPg zj9 G199),(197,true,effPg zj8 G197),(51,true,effPg znQ G51)]) rfl tyOK (zah (zaa Tryz.func18 rfl rfl) ih (zah (zaa Tryz.func214 rfl rfl) P214 (zah (zaa Tryz.func211 rfl rfl) P211 (zah (zaa Tryz.func209 rfl rfl) P209 (zah (zaa Tryz.func207 rfl rfl) P207 (zah (zaa Tryz.func205 rfl rfl) P205 (zah (zaa Tryz.func203 rfl rfl) P203 (zah (zaa Tryz.func201 rfl rfl) P201 (zah (zaa Tryz.func199 rfl rfl) P199 (zah (zaa Tryz.func197 rfl rfl) P197 (zah (zaa Tryz.func51 rfl rfl) P51 (zac)))))))))))) 1000 Srf18 zvs Tryz.func18 rfl rfl (by kernel_rfl) rfl rfl rfl rfl rfl rfl rfl rfl (λ _=>rfl) (λ _=>rfl) (λ _ _=>⟨rfl,rfl⟩) ?_;rintro ⟨s0,s1,s2,s3,s4⟩ y hF;have hF : f18b (f18 N) N s0 s1 s2 s3 s4 = some y := hF;show vc _ _ _ _ ⟨[(0, .ptr 0 0),(1, .dat (strN s0))],[(0, .box [.ptr 1 0, .rs 2 (List.length s1)]),(1, .box [.mp 3, .mp 4, .mp 5]),(2,(rW s1)),(3,(sW [4] s2)),(4,(eW s3)),(5,(mW s4))]⟩ _;unfold f18b at hF;exact wk5
theorem P18 : CallOK Tryz.prog 18 (effPg zly G18) := za5 Q18

set_option maxRecDepth 20000 in
set_option maxHeartbeats 4000000 in
theorem P83 : PureOK Tryz.prog 83 G83 := by
 refine zap (c := zao zai [(118,true,lendPg [[1],[1]] G118),(117,true,lendPg [[0],[0],[0]] G117),(116,true,lendPg [[1]] G116)]) rfl tyOK (zax (zaa Tryz.func118 rfl rfl) P118 (zax (zaa Tryz.func117 rfl rfl) P117 (zax (zaa Tryz.func116 rfl rfl) P116 (zac)))) [[1],[0]] 3 Tryz.func83 rfl rfl (by decide) (by kernel_rfl) ?_;rintro ds d ⟨N,a0,a1,a2,r,rfl,hF,rfl⟩ hok;clear hok;refine ⟨rfl, ?_⟩;show vc _ _ _ _ ⟨[(0, .dat (zaq a0)),(1, .dat (iN a1)),(2, .dat (iN a2))],[]⟩ _;unfold f83 at hF;exact wk2

set_option maxRecDepth 20000 in
set_option maxHeartbeats 4000000 in
theorem P57 : PureOK Tryz.prog 57 G57 := by
 refine zap (c := zao zai [(85,false,zbn (zao zai [(82,true,copyPg 106)]) Tryz.f85),(58,false,zbn (zao zai []) Tryz.f58),(84,true,zbN [] G84),(83,true,zbN [[1],[0],[0]] G83)]) rfl tyOK (zaD (zaa Tryz.func85 rfl rfl) (CallOK.inl rfl tyOK (zmy (zaa Tryz.func82 rfl rfl) (zac)) Tryz.func85 (by kernel_rfl)) (zaD (zaa Tryz.func58 rfl rfl) (CallOK.inl rfl tyOK (zac) Tryz.func58 (by kernel_rfl)) (za9 (zaa Tryz.func84 rfl rfl) P84 (za9 (zaa Tryz.func83 rfl rfl) P83 (zac))))) [[0]] 1 Tryz.func57 rfl rfl (by decide) (by kernel_rfl) ?_;rintro ds d ⟨N,a0,r,rfl,hF,rfl⟩ hok;clear hok;refine ⟨rfl, ?_⟩;show vc _ _ _ _ ⟨[(0, .dat (strN a0))],[]⟩ _;unfold f57 at hF;exact wk2

set_option maxRecDepth 20000 in
set_option maxHeartbeats 4000000 in
theorem Q23 (N : Nat) : CallOK Tryz.prog 23 (effPg zpU (H23 N)) := by
 induction N with
 | zero=>exact zaE λ x y h=>(by cases (show (none : Option (ByteArray)) = some y from h))
 | succ N ih =>
  refine zaw (c := zao zai [(23,true,effPg zpU (H23 N)),(58,false,zbn (zao zai []) Tryz.f58),(56,false,zbn (zao zai [(82,true,copyPg 106)]) Tryz.f56),(53,false,zbn (zao zai []) Tryz.f53),(57,true,lendPg [[0]] G57),(30,true,lendPg [[0]] G30)]) rfl tyOK (zah (zaa Tryz.func23 rfl rfl) ih (zaD (zaa Tryz.func58 rfl rfl) (CallOK.inl rfl tyOK (zac) Tryz.func58 (by kernel_rfl)) (zaD (zaa Tryz.func56 rfl rfl) (CallOK.inl rfl tyOK (zmy (zaa Tryz.func82 rfl rfl) (zac)) Tryz.func56 (by kernel_rfl)) (zaD (zaa Tryz.func53 rfl rfl) (CallOK.inl rfl tyOK (zac) Tryz.func53 (by kernel_rfl)) (zax (zaa Tryz.func57 rfl rfl) P57 (zax (zaa Tryz.func30 rfl rfl) P30 (zac))))))) 1000 Srf23 zvt Tryz.func23 rfl rfl (by kernel_rfl) rfl rfl rfl rfl rfl rfl rfl rfl (λ _=>rfl) (λ _=>rfl) (λ _ _=>⟨rfl,rfl⟩) ?_;rintro ⟨s0,s1,s2,s3⟩ y hF;have hF : f23b (f23 N) N s0 s1 s2 s3 = some y := hF;show vc _ _ _ _ ⟨[(0, .ptr 0 0)],[(0, .box [.ptr 1 0, .rs 2 (List.length s0)]),(1, .box [.mp 3, .mp 4, .mp 5]),(2,(rW s0)),(3,(sW [4] s1)),(4,(eW s2)),(5,(mW s3))]⟩ _;unfold f23b at hF;exact wk2
theorem P23 : CallOK Tryz.prog 23 (effPg zpU G23) := za5 Q23

set_option maxRecDepth 20000 in
set_option maxHeartbeats 4000000 in
theorem P14 : PureOK Tryz.prog 14 G14 := by
 refine zap (c := zao zai [(15,false,zbn (zao zai []) Tryz.f15),(40,true,effPg zpJ G40),(36,true,effPg znP G36),(34,true,effPg znO G34),(33,true,effPg znN G33),(32,true,effPg znM G32),(23,true,effPg zpU G23),(18,true,effPg zly G18),(17,true,effPg zpO G17),(44,true,zbN [] G44),(35,true,lendPg [[1],[1]] G35)]) rfl tyOK (zaD (zaa Tryz.func15 rfl rfl) (CallOK.inl rfl tyOK (zac) Tryz.func15 (by kernel_rfl)) (zah (zaa Tryz.func40 rfl rfl) P40 (zah (zaa Tryz.func36 rfl rfl) P36 (zah (zaa Tryz.func34 rfl rfl) P34 (zah (zaa Tryz.func33 rfl rfl) P33 (zah (zaa Tryz.func32 rfl rfl) P32 (zah (zaa Tryz.func23 rfl rfl) P23 (zah (zaa Tryz.func18 rfl rfl) P18 (zah (zaa Tryz.func17 rfl rfl) P17 (za9 (zaa Tryz.func44 rfl rfl) P44 (zax (zaa Tryz.func35 rfl rfl) P35 (zac)))))))))))) [[0]] 0 Tryz.func14 rfl rfl (by decide) (by kernel_rfl) ?_;rintro ds d ⟨N,r,rfl,hF,rfl⟩ hok;clear hok;refine ⟨rfl, ?_⟩;show vc _ _ _ _ ⟨[],[]⟩ _;unfold f14 at hF
 repeat' (first
 | ((with_reducible first | refine q0 _ _ ?_ | refine q1 _ _ _ _ ?_ | refine q2 _ _ _ ?_);clear Q q0 q1 q2)
 | ((with_reducible first | refine zdv ?hx (λ Q q0 q1 q2=>?_) | refine zdb ?hx (λ Q q0 q1 q2=>?_));(case hx=>exact rfl);conv=>whnf)
 | ((with_reducible first | refine zd8 ?hx ?_ | refine zdc ?hx ?_ | refine zc ?hx ?_ | refine zcM ?hx ?_);(case hx=>exact rfl))
 | ((with_reducible refine zdH ?_);(first | ((first | refine zem rfl ?hy (λ Q q0 q1 q2=>?_) | refine zdo rfl ?hy (λ Q q0 q1 q2=>?_));(case hy=>first | assumption | exact notT (by assumption) | exact rfl);conv=>whnf) | ((first | refine zdn rfl ?hy ?_ | refine zcC rfl ?hy ?_);(case hy=>first | assumption | exact notF (by assumption) | exact rfl)) | (revert hF;(with_reducible first | refine zen ?hx ?_ ?_ | refine zdp ?hx ?_ ?_);(case hx=>exact rfl);(intro hc hF Q q0 q1 q2;conv=>whnf);rotate_left;(intro hc hF);rotate_right) | (revert hF;(with_reducible first | refine zeo ?hx ?_ ?_ | refine zdq ?hx ?_ ?_);(case hx=>exact rfl);(intro hc hF);rotate_left;(intro hc hF Q q0 q1 q2;conv=>whnf);rotate_right)))
 | ((with_reducible refine zcZ ?_);(first | ((refine zd6 rfl ?hy ?_);(case hy=>first | assumption | exact notT (by assumption) | exact rfl)) | ((refine zd7 rfl ?hy ?_);(case hy=>first | assumption | exact notF (by assumption) | exact rfl)) | (revert hF;(with_reducible refine zhl ?hx ?_ ?_);(case hx=>exact rfl);all_goals (intro hc hF))))
 | ((with_reducible refine zdH ?_);(refine zfK zvY zvW (ks := []) rfl rfl ?_);dsimp only [St.kid];(first | ((with_reducible refine hR _ ?_);clear R hR) | ((with_reducible refine hL _ ?_);clear L hL)))
 | ((with_reducible refine zdH ?_);(refine zfK 2201000100 2201000101 (ks := []) rfl rfl ?_);dsimp only [St.kid];(first | ((with_reducible refine hR _ ?_);clear R hR) | ((with_reducible refine hL _ ?_);clear L hL)))
 | ((with_reducible refine zcf ?_);(first | ((with_reducible refine hR _ ?_);clear R hR) | ((with_reducible refine hL _ ?_);clear L hL)))
 | ((with_reducible first | refine zcl ?_ | refine zcm ?_ | refine idx2 (by assumption) ?_ | refine idx3 (by assumption) ?_);conv=>whnf)
 | (with_reducible first | refine zbP ?_ | refine zce ?_ | refine zdu ?_ | refine zct ?_ | refine zbm (λ R hR=>?_) | refine zbl ?_ | refine zba ?_ | refine zh ?_ | refine zby ?_ | refine zbo ?_ | refine zco ?_ | refine zb1 ?_)
 | ((with_reducible refine zcg [23,8,6] ?hx ?_);(case hx=>exact rfl))
 | ((with_reducible replace hF := isE hF);(dsimp only [ziU,zlA,zlB,zso,zpV] at hF);first | ((with_reducible replace hF := chkE (e := zhT ..) hF);rewrite [zhT] at hF) | rewrite [zgY] at hF | rewrite [zkz] at hF | rewrite [zsn] at hF)
 | ((with_reducible refine zb3 ?_);(with_reducible replace hF := zel 1 hF);((refine Lp.cutI hF rfl rfl ?_ ?_) <;> clear hF);(intro hF);rotate_left;(rintro _ hF);rotate_right)
 | ((with_reducible refine zbi ?_);(with_reducible replace hF := toLp 2 1 hF);exact Lp.headI hF (_,_) ⟨_,rfl,rfl,rfl,rfl⟩ (pr2 (by first | exact rfl | assumption | omega | (simp only [List.length_set];done)) (by first | exact rfl | assumption | omega | (simp only [List.length_set];done))))
 | ((with_reducible refine zb3 ?_);(with_reducible replace hF := zel 4 hF);((refine Lp.cutI hF rfl rfl ?_ ?_) <;> clear hF);(intro hF);rotate_left;(rintro ⟨_,_,_,_⟩ hF);rotate_right)
 | ((with_reducible refine zbi ?_);(with_reducible replace hF := toLp 1 4 hF);exact Lp.headI hF (_,()) ⟨_,rfl,rfl,rfl,rfl⟩ (pr2 (by first | exact rfl | assumption | omega | (simp only [List.length_set];done)) rfl))
 | ((with_reducible refine zb3 ?_);(with_reducible replace hF := zel 0 hF);((refine Lp.cutI hF rfl rfl ?_ ?_) <;> clear hF);(intro hF);rotate_left;(rintro _ hF);rotate_right)
 | ((with_reducible refine zbi ?_);(with_reducible replace hF := toLp 1 0 hF);exact Lp.headI hF (_,()) ⟨_,rfl,rfl,rfl,rfl⟩ (pr2 (by first | exact rfl | assumption | omega | (simp only [List.length_set];done)) rfl))
 | ((with_reducible refine zcz ?_);(with_reducible replace hF := toLp 1 5 hF);((refine Lp.loopI hF (_,()) rfl ⟨_,rfl,rfl,rfl,rfl⟩ (pr2 (by first | exact rfl | assumption | omega | (simp only [List.length_set];done)) rfl) (λ _=>rfl) ?_);clear hF);(rintro n ⟨_,_,_,_,_⟩ hF))
 | ((with_reducible refine zcA ?_);(with_reducible replace hF := toLp 1 5 hF);exact Lp.backI hF (_,()) ⟨_,rfl,rfl,rfl,rfl⟩ (pr2 (by first | exact rfl | assumption | omega | (simp only [List.length_set];done)) rfl))
 | (revert hF;(with_reducible refine G35.lend ?hx ?_);(case hx=>exact rfl);intro v hF;conv=>whnf)
 | (revert hF;(with_reducible refine G44.step ?hx ?_);(case hx=>exact rfl);intro v hF;conv=>whnf)
 | (revert hF;(refine G17.step rfl rfl rfl rfl rfl rfl rfl (by first | exact rfl | assumption | omega | (simp only [List.length_set];done)) (by first | exact trivial | exact rfl) ?hn ?_);(case hn=>exact rfl);intro v hF;conv=>whnf)
 | (revert hF;(refine G18.step rfl rfl rfl rfl rfl rfl rfl (by first | exact rfl | assumption | omega | (simp only [List.length_set];done)) (by first | exact trivial | exact rfl) ?hn ?_);(case hn=>exact rfl);intro v hF;conv=>whnf)
 | (revert hF;(refine G23.step rfl rfl rfl rfl rfl rfl rfl (by first | exact rfl | assumption | omega | (simp only [List.length_set];done)) (by first | exact trivial | exact rfl) ?hn ?_);(case hn=>exact rfl);intro v hF;conv=>whnf)
 | (revert hF;(refine G32.step rfl rfl rfl rfl rfl rfl rfl (by first | exact rfl | assumption | omega | (simp only [List.length_set];done)) (by first | exact trivial | exact rfl) ?hn ?_);(case hn=>exact rfl);intro v hF;conv=>whnf)
 | (revert hF;(refine G33.step rfl rfl rfl rfl rfl rfl rfl (by first | exact rfl | assumption | omega | (simp only [List.length_set];done)) (by first | exact trivial | exact rfl) ?hn ?_);(case hn=>exact rfl);intro v hF;conv=>whnf)
 | (revert hF;(refine G34.step rfl rfl rfl rfl rfl rfl rfl (by first | exact rfl | assumption | omega | (simp only [List.length_set];done)) (by first | exact trivial | exact rfl) ?hn ?_);(case hn=>exact rfl);intro v hF;conv=>whnf)
 | (revert hF;(refine G36.step rfl rfl rfl rfl rfl rfl rfl (by first | exact rfl | assumption | omega | (simp only [List.length_set];done)) (by first | exact trivial | exact rfl) ?hn ?_);(case hn=>exact rfl);intro v hF;conv=>whnf)
 | (revert hF;(refine G40.step rfl rfl rfl rfl rfl rfl rfl (by first | exact rfl | assumption | omega | (simp only [List.length_set];done)) (by first | exact trivial | exact rfl) ?hn ?_);(case hn=>exact rfl);intro v hF;conv=>whnf)
 | (revert hF;(with_reducible refine idx1 ?hn ?_);(case hn=>first | exact rfl | exact (List.length_map _) | assumption | omega | simp);intro x hx hF;conv=>whnf)
 | ((refine zdG ?hn ?_);(case hn=>first | exact rfl | (simp;done) | (simp;omega));conv=>whnf)
 | ((with_reducible refine zgA ?hx ?_);(case hx=>first | exact rfl | assumption | exact notT (by assumption));conv=>whnf)
 | ((with_reducible refine zfy ?hx ?_);(case hx=>first | exact rfl | assumption | exact notF (by assumption));conv=>whnf)
 | ((refine zat 100 101000000 rfl rfl (Nat.le_of_ble_eq_true rfl) rfl (λ R hR=>?_));(conv=>whnf);(with_reducible refine hR _ ?ha ?_);(case ha=>exact rfl);clear R hR)
 | ((refine zat 2200 2201000000 rfl rfl (Nat.le_of_ble_eq_true rfl) rfl (λ R hR=>?_));(conv=>whnf);(with_reducible refine hR _ ?ha ?_);(case ha=>exact rfl);clear R hR)
 | (show Kinl _ _ _ _ _ _ _;conv=>whnf)
 | ((with_reducible refine zcB ?ha ?hb ?_);(case ha=>exact rfl);(case hb=>exact rfl);conv=>whnf)
 | ((refine ⟨?hx,trivial⟩);(case hx=>(cases hF;exact rfl)))
 | ((refine ⟨?hx, ?_⟩);(case hx=>decide);conv=>whnf)
 | with_reducible refine zeC ?_)


end Go.Vc
