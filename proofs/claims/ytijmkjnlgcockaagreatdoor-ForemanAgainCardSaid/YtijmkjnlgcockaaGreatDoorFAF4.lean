/-
  A library for proofs about Go functions by symbolic evaluation,and plain Lean functions that the walked Go functions compute (written by a program of this claim).
-/
import Derived.Test.YtijmkjnlgcockaaGreatDoorFAF1
import Derived.Test.YtijmkjnlgcockaaGreatDoorFAF2
import Derived.Test.YtijmkjnlgcockaaGreatDoorFAF3
set_option linter.unusedVariables false
set_option linter.unnecessarySimpa false
set_option linter.unusedSimpArgs false
namespace Go.Vc
open Go.Proofs
set_option maxRecDepth 20000 in
set_option maxHeartbeats 4000000 in
theorem P79 : PureOK Tryz.prog 79 G79 := by
 refine zat (c := zar zai [(106,false,zbq (zar zai [(138,false,zbq (zar zai [(107,true,lendPg [[0]] G107)]) Tryz.f138)]) Tryz.f106),(108,true,zb3 [[1],[0,0]] G108),(105,true,lendPg [[0]] G105),(104,true,zb3 [[0]] G104)]) rfl tyOK (zaF (za Tryz.func106 rfl rfl) (CallOK.inl rfl tyOK (zaF (za Tryz.func138 rfl rfl) (CallOK.inl rfl tyOK (zaB (za Tryz.func107 rfl rfl) P107 (zac)) Tryz.func138 (by kernel_rfl)) (zac)) Tryz.func106 (by kernel_rfl)) (zbr (za Tryz.func108 rfl rfl) P108 (zaB (za Tryz.func105 rfl rfl) P105 (zbr (za Tryz.func104 rfl rfl) P104 (zac))))) [[0],[0]] 1 Tryz.func79 rfl rfl (by decide) (by kernel_rfl) ?_;rintro ds d ⟨N,a0,r,rfl,hF,rfl⟩ hok;clear hok;refine ⟨rfl, ?_⟩;show vc _ _ _ _ ⟨[(0, .dat (strN a0))],[]⟩ _;unfold f79 at hF
 repeat' (first
 | ((with_reducible first | refine q0 _ _ ?_ | refine q1 _ _ _ _ ?_ | refine q2 _ _ _ ?_);clear Q q0 q1 q2)
 | ((with_reducible first | refine zc6 ?hx (λ Q q0 q1 q2=>?_) | refine zdu ?hx (λ Q q0 q1 q2=>?_));(case hx=>exact rfl);conv=>whnf)
 | ((with_reducible first | refine zdY ?hx ?_ | refine zc7 ?hx ?_ | refine zb6 ?hx ?_ | refine zcI ?hx ?_);(case hx=>exact rfl))
 | ((with_reducible refine zcW ?_);(first | ((first | refine zd3 rfl ?hy (λ Q q0 q1 q2=>?_) | refine zdf rfl ?hy (λ Q q0 q1 q2=>?_));(case hy=>first | assumption | exact notT (by assumption) | exact rfl);conv=>whnf) | ((first | refine zde rfl ?hy ?_ | refine zcC rfl ?hy ?_);(case hy=>first | assumption | exact notF (by assumption) | exact rfl)) | (revert hF;(with_reducible first | refine zd4 ?hx ?_ ?_ | refine zdg ?hx ?_ ?_);(case hx=>exact rfl);(intro hc hF Q q0 q1 q2;conv=>whnf);rotate_left;(intro hc hF);rotate_right) | (revert hF;(with_reducible first | refine zd5 ?hx ?_ ?_ | refine zdh ?hx ?_ ?_);(case hx=>exact rfl);(intro hc hF);rotate_left;(intro hc hF Q q0 q1 q2;conv=>whnf);rotate_right)))
 | ((with_reducible refine zcF ?_);(first | ((refine zdJ rfl ?hy ?_);(case hy=>first | assumption | exact notT (by assumption) | exact rfl)) | ((refine zdK rfl ?hy ?_);(case hy=>first | assumption | exact notF (by assumption) | exact rfl)) | (revert hF;(with_reducible refine zgb ?hx ?_ ?_);(case hx=>exact rfl);all_goals (intro hc hF))))
 | ((with_reducible refine zb7 ?_);(first | ((with_reducible refine hR _ ?_);clear R hR) | ((with_reducible refine hL _ ?_);clear L hL)))
 | ((with_reducible first | refine zb9 ?_ | refine zc ?_ | refine idx2 (by assumption) ?_ | refine idx3 (by assumption) ?_);conv=>whnf)
 | (with_reducible first | refine zbI ?_ | refine zb5 ?_ | refine zc5 ?_ | refine zcm ?_ | refine zbl (λ R hR=>?_) | refine zbk ?_ | refine zbb ?_ | refine zf9 ?_ | refine zbB ?_ | refine zbj ?_ | refine zbZ ?_ | refine zbF ?_)
 | ((with_reducible refine zca [47,41,35,3305000103000000007,33,23] ?hx ?_);(case hx=>exact rfl))
 | ((with_reducible replace hF := isE hF);(dsimp only [zi8,zpX,zi9,zj,zbp,zb1,zja,zpZ,zjb,zkY,za1,zkZ] at hF);first | ((with_reducible replace hF := chkE (e := zfL ..) hF);rewrite [zfL] at hF) | ((with_reducible replace hF := chkE (e := zfM ..) hF);rewrite [zfM] at hF) | ((with_reducible replace hF := chkE (e := zaP ..) hF);rewrite [zaP] at hF) | rewrite [zpW] at hF | rewrite [zhf] at hF | rewrite [zb0] at hF | rewrite [zhg] at hF | rewrite [zpY] at hF | rewrite [zhh] at hF)
 | ((with_reducible refine zbM ?_);(with_reducible replace hF := zdN 0 hF);((refine Lp.cutI hF rfl rfl ?_ ?_) <;> clear hF);(intro hF);rotate_left;(rintro _ hF);rotate_right)
 | ((with_reducible refine zbe ?_);(with_reducible replace hF := toLp 0 0 hF);exact Lp.headI hF () ⟨_,rfl,rfl,rfl,rfl⟩ rfl)
 | ((with_reducible refine zco ?_);(with_reducible replace hF := toLp 0 1 hF);((refine Lp.loopI hF () rfl ⟨_,rfl,rfl,rfl,rfl⟩ rfl (λ _=>rfl) ?_);clear hF);(rintro n _ hF))
 | ((with_reducible refine zcp ?_);(with_reducible replace hF := toLp 0 1 hF);exact Lp.backI hF () ⟨_,rfl,rfl,rfl,rfl⟩ rfl)
 | ((with_reducible refine zbM ?_);(with_reducible replace hF := zdN 2 hF);((refine Lp.cutI hF rfl rfl ?_ ?_) <;> clear hF);(intro hF);rotate_left;(rintro ⟨_,_⟩ hF);rotate_right)
 | ((with_reducible refine zbe ?_);(with_reducible replace hF := toLp 0 2 hF);exact Lp.headI hF () ⟨_,rfl,rfl,rfl,rfl⟩ rfl)
 | ((with_reducible refine zbM ?_);(with_reducible replace hF := zdN 1 hF);((refine Lp.cutI hF rfl rfl ?_ ?_) <;> clear hF);(intro hF);rotate_left;(rintro _ hF);rotate_right)
 | ((with_reducible refine zbe ?_);(with_reducible replace hF := toLp 0 1 hF);exact Lp.headI hF () ⟨_,rfl,rfl,rfl,rfl⟩ rfl)
 | ((with_reducible refine zco ?_);(with_reducible replace hF := toLp 0 2 hF);((refine Lp.loopI hF () rfl ⟨_,rfl,rfl,rfl,rfl⟩ rfl (λ _=>rfl) ?_);clear hF);(rintro n ⟨_,_⟩ hF))
 | ((with_reducible refine zcp ?_);(with_reducible replace hF := toLp 0 2 hF);exact Lp.backI hF () ⟨_,rfl,rfl,rfl,rfl⟩ rfl)
 | (revert hF;(with_reducible refine G104.step ?hx ?_);(case hx=>exact rfl);intro v hF;conv=>whnf)
 | (revert hF;(with_reducible refine G105.lend ?hx ?_);(case hx=>exact rfl);intro v hF;conv=>whnf)
 | (revert hF;(with_reducible refine G107.lend ?hx ?_);(case hx=>exact rfl);intro v hF;conv=>whnf)
 | (revert hF;(with_reducible refine G108.step ?hx ?_);(case hx=>exact rfl);intro v hF;conv=>whnf)
 | ((refine Or.inr ?_);(conv=>whnf);(with_reducible refine zh5 (List.map iN (List.replicate 2 (0 : Int))) ?hx ?_);(case hx=>(unfold znb;kernel_rfl));conv=>whnf)
 | ((with_reducible have hI := zuc hF);clear hI;revert hF;(refine zrf (by decide) ?_);intro hF;conv=>whnf)
 | (revert hF;(refine A2iN.of_step ?_);intro x hF;conv=>whnf)
 | ((with_reducible refine zpe hF ?_);(clear hF;intro hF;conv=>whnf))
 | ((with_reducible have hG := zmD hF);clear hF;(first | (refine zpf hG (by (try simp only [W]);omega) (λ x hF=>?_)) | (refine zpg hG (λ _=>rfl) (by (try simp only [W]);omega) (λ x hF=>?_)));clear hG;conv=>whnf)
 | ((with_reducible have hG := zkj hF);clear hF;(first | (refine zmE hG (by (try simp only [W]);omega) rfl rfl (λ q hF=>?_)) | (refine zmF hG (λ _=>rfl) (by (try simp only [W]);omega) rfl rfl (λ q hF=>?_)));clear hG;conv=>whnf)
 | (revert hF;(with_reducible refine idx1 ?hn ?_);(case hn=>first | exact rfl | exact (List.length_map _) | assumption | omega | simp);intro x hx hF;conv=>whnf)
 | ((with_reducible have hG := zgk hF);clear hF;(refine ziS hG (λ q hF=>?_));clear hG;conv=>whnf)
 | ((with_reducible refine zeM ?_);conv=>whnf)
 | ((with_reducible refine zf3 ?hx ?_);(case hx=>first | exact rfl | assumption | exact notT (by assumption));conv=>whnf)
 | ((with_reducible refine zfl ?hx ?_);(case hx=>first | exact rfl | assumption | exact notF (by assumption));conv=>whnf)
 | (show retD _ _ _ _ _ _;conv=>whnf)
 | ((refine zam 3304 3305000000 rfl rfl (Nat.le_of_ble_eq_true rfl) rfl (λ R hR=>?_));(conv=>whnf);(with_reducible refine hR _ ?ha ?_);(case ha=>exact rfl);clear R hR)
 | ((refine zam 3305000102 3305000103000000 rfl rfl (Nat.le_of_ble_eq_true rfl) rfl (λ R hR=>?_));(conv=>whnf);(with_reducible refine hR _ ?ha ?_);(case ha=>exact rfl);clear R hR)
 | (show Kinl _ _ _ _ _ _ _;conv=>whnf)
 | ((with_reducible refine zcB ?ha ?hb ?_);(case ha=>exact rfl);(case hb=>exact rfl);conv=>whnf)
 | ((refine ⟨?hx,trivial⟩);(case hx=>(cases hF;exact rfl)))
 | with_reducible refine zex ?_
 | ((refine I97.fo (K := λ x=>one x _ _ _ _) ?_);conv=>whnf)
 | ((refine I97.fp (K := λ x=>Q ⟨x,[]⟩ _) ?_);conv=>whnf)
 | ((rename I97=>xi);cases xi <;> ((try dsimp only at hF);(try (conv=>whnf)))))

set_option maxRecDepth 20000 in
set_option maxHeartbeats 4000000 in
theorem P146 : PureOK Tryz.prog 146 G146 := by
 refine zat (c := zar zai [(158,true,lendPg [[1],[1]] G158),(132,true,lendPg [[1],[0],[1]] G132)]) rfl tyOK (zaB (za Tryz.func158 rfl rfl) P158 (zaB (za Tryz.func132 rfl rfl) P132 (zac))) [[0],[0]] 2 Tryz.func146 rfl rfl (by decide) (by kernel_rfl) ?_;rintro ds d ⟨N,a0,a1,r,rfl,hF,rfl⟩ hok;clear hok;refine ⟨rfl, ?_⟩;show vc _ _ _ _ ⟨[(0, .dat (zau a0)),(1, .dat (zbz a1))],[]⟩ _;unfold f146 at hF;exact wk7

set_option maxRecDepth 20000 in
set_option maxHeartbeats 4000000 in
theorem Q51 (N : Nat) : CallOK Tryz.prog 51 (effPg zn6 (H51 N)) := by
 induction N with
 | zero=>exact zaN λ x y h=>(by cases (show (none : Option (I97 × Int)) = some y from h))
 | succ N ih =>
  refine zay (c := zar zai [(51,true,effPg zn6 (H51 N)),(53,false,zbq (zar zai []) Tryz.f53),(215,true,effPg zkU G215),(212,true,effPg zkT G212),(210,true,effPg zkS G210),(208,true,effPg zkz G208),(206,true,effPg zky G206),(204,true,effPg zkx G204),(202,true,effPg zkw G202),(200,true,effPg zkv G200),(198,true,effPg zku G198),(79,true,zb3 [[0]] G79)]) rfl tyOK (zae (za Tryz.func51 rfl rfl) ih (zaF (za Tryz.func53 rfl rfl) (CallOK.inl rfl tyOK (zac) Tryz.func53 (by kernel_rfl)) (zae (za Tryz.func215 rfl rfl) P215 (zae (za Tryz.func212 rfl rfl) P212 (zae (za Tryz.func210 rfl rfl) P210 (zae (za Tryz.func208 rfl rfl) P208 (zae (za Tryz.func206 rfl rfl) P206 (zae (za Tryz.func204 rfl rfl) P204 (zae (za Tryz.func202 rfl rfl) P202 (zae (za Tryz.func200 rfl rfl) P200 (zae (za Tryz.func198 rfl rfl) P198 (zbr (za Tryz.func79 rfl rfl) P79 (zac))))))))))))) 1000 Srf51 zvq Tryz.func51 rfl rfl (by kernel_rfl) rfl rfl rfl rfl rfl rfl rfl rfl (λ _=>rfl) (λ _=>rfl) (λ _ _=>⟨rfl,rfl⟩) ?_;rintro ⟨s0,s1,s2,s3,s4⟩ y hF;have hF : f51b (f51 N) N s0 s1 s2 s3 s4 = some y := hF;show vc _ _ _ _ ⟨[(0, .ptr 0 0),(1, .dat (strN s0))],[(0, .box [.ptr 1 0, .rs 2 (List.length s1)]),(1, .box [.mp 3, .mp 4, .mp 5]),(2,(rW s1)),(3,(sW [4] s2)),(4,(eW s3)),(5,(mW s4))]⟩ _;unfold f51b at hF
  repeat' (first
 | ((with_reducible first | refine q0 _ _ ?_ | refine q1 _ _ _ _ ?_ | refine q2 _ _ _ ?_);clear Q q0 q1 q2)
 | ((with_reducible first | refine zc6 ?hx (λ Q q0 q1 q2=>?_) | refine zdZ ?hx (λ Q q0 q1 q2=>?_));(case hx=>exact rfl);conv=>whnf)
 | ((with_reducible refine zcW ?_);(first | ((first | refine zd3 rfl ?hy (λ Q q0 q1 q2=>?_) | refine zdf rfl ?hy (λ Q q0 q1 q2=>?_));(case hy=>first | assumption | exact notT (by assumption) | exact rfl);conv=>whnf) | ((first | refine zde rfl ?hy ?_ | refine zcC rfl ?hy ?_);(case hy=>first | assumption | exact notF (by assumption) | exact rfl)) | (revert hF;(with_reducible first | refine zd4 ?hx ?_ ?_ | refine zdg ?hx ?_ ?_);(case hx=>exact rfl);(intro hc hF Q q0 q1 q2;conv=>whnf);rotate_left;(intro hc hF);rotate_right) | (revert hF;(with_reducible first | refine zd5 ?hx ?_ ?_ | refine zdh ?hx ?_ ?_);(case hx=>exact rfl);(intro hc hF);rotate_left;(intro hc hF Q q0 q1 q2;conv=>whnf);rotate_right)))
 | ((with_reducible refine zcF ?_);(first | ((refine zdJ rfl ?hy ?_);(case hy=>first | assumption | exact notT (by assumption) | exact rfl)) | ((refine zdK rfl ?hy ?_);(case hy=>first | assumption | exact notF (by assumption) | exact rfl)) | (revert hF;(with_reducible refine zgb ?hx ?_ ?_);(case hx=>exact rfl);all_goals (intro hc hF))))
 | ((with_reducible refine zb7 ?_);(first | ((with_reducible refine hR _ ?_);clear R hR) | ((with_reducible refine hL _ ?_);clear L hL)))
 | ((with_reducible refine zc8 ?_);(with_reducible refine hR _ _ ?hx ?_);(case hx=>kernel_rfl);clear R hR)
 | (with_reducible first | refine zbI ?_ | refine zb5 ?_ | refine zc5 ?_ | refine zcm ?_ | refine zbl (λ R hR=>?_) | refine zbk ?_ | refine zbb ?_ | refine zf9 ?_ | refine zbB ?_ | refine zbj ?_)
 | ((with_reducible refine zca [1000006] ?hx ?_);(case hx=>exact rfl))
 | ((with_reducible refine zdX ?hx (λ R L hL hR=>?_));(case hx=>exact rfl))
 | ((with_reducible replace hF := isE hF);(dsimp only [zl3] at hF);first | rewrite [zhi] at hF)
 | ((with_reducible refine zbM ?_);(with_reducible replace hF := zdN 2 hF);((refine Lp.cutI hF rfl rfl ?_ ?_) <;> clear hF);(intro hF);rotate_left;(rintro ⟨_,_⟩ hF);rotate_right)
 | ((with_reducible refine zbe ?_);(with_reducible replace hF := toLp 1 2 hF);exact Lp.headI hF (_,()) ⟨_,rfl,rfl,rfl,rfl⟩ (pr2 (by first | exact rfl | assumption | omega | (simp only [List.length_set];done)) rfl))
 | (revert hF;(with_reducible refine G79.step ?hx ?_);(case hx=>exact rfl);intro v hF;(obtain ⟨v,ve⟩ := v);(try dsimp only at hF);(conv=>whnf))
 | ((with_reducible refine zbe ?_);(rename I97=>xi);cases xi)
 | (revert hF;(refine G198.step rfl rfl rfl rfl rfl  (by first | exact trivial | exact rfl) ?hn ?_);(case hn=>exact rfl);intro v hF;conv=>whnf)
 | (revert hF;(refine G200.step rfl rfl rfl rfl rfl  (by first | exact trivial | exact rfl) ?hn ?_);(case hn=>exact rfl);intro v hF;conv=>whnf)
 | (revert hF;(refine G202.step rfl rfl rfl rfl rfl  (by first | exact trivial | exact rfl) ?hn ?_);(case hn=>exact rfl);intro v hF;conv=>whnf)
 | (revert hF;(refine G204.step rfl rfl rfl rfl rfl  (by first | exact trivial | exact rfl) ?hn ?_);(case hn=>exact rfl);intro v hF;conv=>whnf)
 | (revert hF;(refine G206.step rfl rfl rfl rfl rfl  (by first | exact trivial | exact rfl) ?hn ?_);(case hn=>exact rfl);intro v hF;conv=>whnf)
 | (revert hF;(refine G208.step rfl rfl rfl rfl rfl  (by first | exact trivial | exact rfl) ?hn ?_);(case hn=>exact rfl);intro v hF;conv=>whnf)
 | (revert hF;(refine G210.step rfl rfl rfl rfl rfl  (by first | exact trivial | exact rfl) ?hn ?_);(case hn=>exact rfl);intro v hF;conv=>whnf)
 | (revert hF;(refine G212.step rfl rfl rfl rfl rfl  (by first | exact trivial | exact rfl) ?hn ?_);(case hn=>exact rfl);intro v hF;conv=>whnf)
 | (revert hF;(refine G215.step rfl rfl rfl rfl rfl  (by first | exact trivial | exact rfl) ?hn ?_);(case hn=>exact rfl);intro v hF;conv=>whnf)
 | (cases hF;(refine Or.inl ?_);(conv=>whnf);exact ⟨rfl,rfl,rfl⟩)
 | with_reducible refine zex ?_
 | (revert hF;(refine I97.on_step ?_ ?_ ?_ ?_ ?_ ?_ ?_ ?_ ?_ ?_) <;> ((intros);(rename_i hx hF);(first | (cases hx;done) | (subst hx;(conv=>whnf)) | (cases hx;(conv=>whnf)) | (simp only [hx];(conv=>whnf)))))
 | ((with_reducible refine zf3 ?hx ?_);(case hx=>first | exact rfl | assumption | exact notT (by assumption));conv=>whnf)
 | ((with_reducible refine zfl ?hx ?_);(case hx=>first | exact rfl | assumption | exact notF (by assumption));conv=>whnf)
 | ((refine zam 1101 1102000000 rfl rfl (Nat.le_of_ble_eq_true rfl) rfl (λ R hR=>?_));(conv=>whnf);(with_reducible refine hR _ ?ha ?_);(case ha=>exact rfl);clear R hR)
 | (show Kinl _ _ _ _ _ _ _;conv=>whnf)
 | ((with_reducible refine zcB ?ha ?hb ?_);(case ha=>exact rfl);(case hb=>exact rfl);conv=>whnf)
 | (have hF : (none : Option _) = some _ := hF;cases hF)
 | ((refine I97.fo (K := λ x=>Q ⟨x,[]⟩ _) ?_);conv=>whnf)
 | ((refine I97.fp (K := λ x=>Q ⟨x,[]⟩ _) ?_);conv=>whnf)
 | ((refine I97.fp (K := λ x=>one x _ _ _ _) ?_);conv=>whnf)
 | ((rename I97=>xi);cases xi <;> ((try dsimp only at hF);(try (conv=>whnf)))))
theorem P51 : CallOK Tryz.prog 51 (effPg zn6 G51) := zbm Q51

set_option maxRecDepth 20000 in
set_option maxHeartbeats 4000000 in
theorem P118 : PureOK Tryz.prog 118 G118 := by
 refine zat (c := zar zai [(147,true,lendPg [[1],[0]] G147),(146,true,lendPg [[1],[1]] G146)]) rfl tyOK (zaB (za Tryz.func147 rfl rfl) P147 (zaB (za Tryz.func146 rfl rfl) P146 (zac))) [[0],[0]] 2 Tryz.func118 rfl rfl (by decide) (by kernel_rfl) ?_;rintro ds d ⟨N,a0,a1,r,rfl,hF,rfl⟩ hok;clear hok;refine ⟨rfl, ?_⟩;show vc _ _ _ _ ⟨[(0, .dat (zau a0)),(1, .dat (zbz a1))],[]⟩ _;unfold f118 at hF;exact wk7

set_option maxRecDepth 20000 in
set_option maxHeartbeats 4000000 in
theorem Q17 (N : Nat) : CallOK Tryz.prog 17 (effPg zn7 (H17 N)) := by
 induction N with
 | zero=>exact zaN λ x y h=>(by cases (show (none : Option (Int)) = some y from h))
 | succ N ih =>
  refine zay (c := zar zai [(17,true,effPg zn7 (H17 N)),(51,true,effPg zn6 G51)]) rfl tyOK (zae (za Tryz.func17 rfl rfl) ih (zae (za Tryz.func51 rfl rfl) P51 (zac))) 1000 Srf17 zvr Tryz.func17 rfl rfl (by kernel_rfl) rfl rfl rfl rfl rfl rfl rfl rfl (λ _=>rfl) (λ _=>rfl) (λ _ _=>⟨rfl,rfl⟩) ?_;rintro ⟨s0,s1,s2,s3,s4⟩ y hF;have hF : f17b (f17 N) N s0 s1 s2 s3 s4 = some y := hF;show vc _ _ _ _ ⟨[(0, .ptr 0 0),(1, .dat (strN s0))],[(0, .box [.ptr 1 0, .rs 2 (List.length s1)]),(1, .box [.mp 3, .mp 4, .mp 5]),(2,(rW s1)),(3,(sW [4] s2)),(4,(eW s3)),(5,(mW s4))]⟩ _;unfold f17b at hF;exact wk6
theorem P17 : CallOK Tryz.prog 17 (effPg zn7 G17) := zbm Q17

set_option maxRecDepth 20000 in
set_option maxHeartbeats 4000000 in
theorem Q18 (N : Nat) : CallOK Tryz.prog 18 (effPg zk0 (H18 N)) := by
 induction N with
 | zero=>exact zaN λ x y h=>(by cases (show (none : Option (Int × LS × LE × LC × LB)) = some y from h))
 | succ N ih =>
  refine zay (c := zar zai [(18,true,effPg zk0 (H18 N)),(214,true,effPg zkJ G214),(211,true,effPg zkV G211),(209,true,effPg zkI G209),(207,true,effPg zkH G207),(205,true,effPg zkG G205),(203,true,effPg zkF G203),(201,true,effPg zkE G201),(199,true,effPg zkD G199),(197,true,effPg zkC G197),(51,true,effPg zn6 G51)]) rfl tyOK (zae (za Tryz.func18 rfl rfl) ih (zae (za Tryz.func214 rfl rfl) P214 (zae (za Tryz.func211 rfl rfl) P211 (zae (za Tryz.func209 rfl rfl) P209 (zae (za Tryz.func207 rfl rfl) P207 (zae (za Tryz.func205 rfl rfl) P205 (zae (za Tryz.func203 rfl rfl) P203 (zae (za Tryz.func201 rfl rfl) P201 (zae (za Tryz.func199 rfl rfl) P199 (zae (za Tryz.func197 rfl rfl) P197 (zae (za Tryz.func51 rfl rfl) P51 (zac)))))))))))) 1000 Srf18 zvs Tryz.func18 rfl rfl (by kernel_rfl) rfl rfl rfl rfl rfl rfl rfl rfl (λ _=>rfl) (λ _=>rfl) (λ _ _=>⟨rfl,rfl⟩) ?_;rintro ⟨s0,s1,s2,s3,s4⟩ y hF;have hF : f18b (f18 N) N s0 s1 s2 s3 s4 = some y := hF;show vc _ _ _ _ ⟨[(0, .ptr 0 0),(1, .dat (strN s0))],[(0, .box [.ptr 1 0, .rs 2 (List.length s1)]),(1, .box [.mp 3, .mp 4, .mp 5]),(2,(rW s1)),(3,(sW [4] s2)),(4,(eW s3)),(5,(mW s4))]⟩ _;unfold f18b at hF;exact wk6
theorem P18 : CallOK Tryz.prog 18 (effPg zk0 G18) := zbm Q18

set_option maxRecDepth 20000 in
set_option maxHeartbeats 4000000 in
theorem P83 : PureOK Tryz.prog 83 G83 := by
 refine zat (c := zar zai [(118,true,lendPg [[1],[1]] G118),(117,true,lendPg [[0],[0],[0]] G117),(116,true,lendPg [[1]] G116)]) rfl tyOK (zaB (za Tryz.func118 rfl rfl) P118 (zaB (za Tryz.func117 rfl rfl) P117 (zaB (za Tryz.func116 rfl rfl) P116 (zac)))) [[1],[0]] 3 Tryz.func83 rfl rfl (by decide) (by kernel_rfl) ?_;rintro ds d ⟨N,a0,a1,a2,r,rfl,hF,rfl⟩ hok;clear hok;refine ⟨rfl, ?_⟩;show vc _ _ _ _ ⟨[(0, .dat (zau a0)),(1, .dat (iN a1)),(2, .dat (iN a2))],[]⟩ _;unfold f83 at hF;exact wk3

set_option maxRecDepth 20000 in
set_option maxHeartbeats 4000000 in
theorem P57 : PureOK Tryz.prog 57 G57 := by
 refine zat (c := zar zai [(85,false,zbq (zar zai [(82,true,copyPg 106)]) Tryz.f85),(58,false,zbq (zar zai []) Tryz.f58),(84,true,zb3 [] G84),(83,true,zb3 [[1],[0],[0]] G83)]) rfl tyOK (zaF (za Tryz.func85 rfl rfl) (CallOK.inl rfl tyOK (zmQ (za Tryz.func82 rfl rfl) (zac)) Tryz.func85 (by kernel_rfl)) (zaF (za Tryz.func58 rfl rfl) (CallOK.inl rfl tyOK (zac) Tryz.func58 (by kernel_rfl)) (zbr (za Tryz.func84 rfl rfl) P84 (zbr (za Tryz.func83 rfl rfl) P83 (zac))))) [[0]] 1 Tryz.func57 rfl rfl (by decide) (by kernel_rfl) ?_;rintro ds d ⟨N,a0,r,rfl,hF,rfl⟩ hok;clear hok;refine ⟨rfl, ?_⟩;show vc _ _ _ _ ⟨[(0, .dat (strN a0))],[]⟩ _;unfold f57 at hF;exact wk3

set_option maxRecDepth 20000 in
set_option maxHeartbeats 4000000 in
theorem Q23 (N : Nat) : CallOK Tryz.prog 23 (effPg zl5 (H23 N)) := by
 induction N with
 | zero=>exact zaN λ x y h=>(by cases (show (none : Option (ByteArray)) = some y from h))
 | succ N ih =>
  refine zay (c := zar zai [(23,true,effPg zl5 (H23 N)),(58,false,zbq (zar zai []) Tryz.f58),(56,false,zbq (zar zai [(82,true,copyPg 106)]) Tryz.f56),(53,false,zbq (zar zai []) Tryz.f53),(57,true,lendPg [[0]] G57),(30,true,lendPg [[0]] G30)]) rfl tyOK (zae (za Tryz.func23 rfl rfl) ih (zaF (za Tryz.func58 rfl rfl) (CallOK.inl rfl tyOK (zac) Tryz.func58 (by kernel_rfl)) (zaF (za Tryz.func56 rfl rfl) (CallOK.inl rfl tyOK (zmQ (za Tryz.func82 rfl rfl) (zac)) Tryz.func56 (by kernel_rfl)) (zaF (za Tryz.func53 rfl rfl) (CallOK.inl rfl tyOK (zac) Tryz.func53 (by kernel_rfl)) (zaB (za Tryz.func57 rfl rfl) P57 (zaB (za Tryz.func30 rfl rfl) P30 (zac))))))) 1000 Srf23 zvt Tryz.func23 rfl rfl (by kernel_rfl) rfl rfl rfl rfl rfl rfl rfl rfl (λ _=>rfl) (λ _=>rfl) (λ _ _=>⟨rfl,rfl⟩) ?_;rintro ⟨s0,s1,s2,s3⟩ y hF;have hF : f23b (f23 N) N s0 s1 s2 s3 = some y := hF;show vc _ _ _ _ ⟨[(0, .ptr 0 0)],[(0, .box [.ptr 1 0, .rs 2 (List.length s0)]),(1, .box [.mp 3, .mp 4, .mp 5]),(2,(rW s0)),(3,(sW [4] s1)),(4,(eW s2)),(5,(mW s3))]⟩ _;unfold f23b at hF;exact wk3
theorem P23 : CallOK Tryz.prog 23 (effPg zl5 G23) := zbm Q23

set_option maxRecDepth 20000 in
set_option maxHeartbeats 4000000 in
theorem P14 : PureOK Tryz.prog 14 G14 := by
 refine zat (c := zar zai [(15,false,zbq (zar zai []) Tryz.f15),(40,true,effPg zn5 G40),(36,true,effPg zn4 G36),(34,true,effPg zn3 G34),(33,true,effPg zn2 G33),(32,true,effPg zn1 G32),(23,true,effPg zl5 G23),(18,true,effPg zk0 G18),(17,true,effPg zn7 G17),(44,true,zb3 [] G44),(35,true,lendPg [[1],[1]] G35)]) rfl tyOK (zaF (za Tryz.func15 rfl rfl) (CallOK.inl rfl tyOK (zac) Tryz.func15 (by kernel_rfl)) (zae (za Tryz.func40 rfl rfl) P40 (zae (za Tryz.func36 rfl rfl) P36 (zae (za Tryz.func34 rfl rfl) P34 (zae (za Tryz.func33 rfl rfl) P33 (zae (za Tryz.func32 rfl rfl) P32 (zae (za Tryz.func23 rfl rfl) P23 (zae (za Tryz.func18 rfl rfl) P18 (zae (za Tryz.func17 rfl rfl) P17 (zbr (za Tryz.func44 rfl rfl) P44 (zaB (za Tryz.func35 rfl rfl) P35 (zac)))))))))))) [[0]] 0 Tryz.func14 rfl rfl (by decide) (by kernel_rfl) ?_;rintro ds d ⟨N,r,rfl,hF,rfl⟩ hok;clear hok;refine ⟨rfl, ?_⟩;show vc _ _ _ _ ⟨[],[]⟩ _;unfold f14 at hF
 repeat' (first
 | ((with_reducible first | refine q0 _ _ ?_ | refine q1 _ _ _ _ ?_ | refine q2 _ _ _ ?_);clear Q q0 q1 q2)
 | ((with_reducible first | refine zc6 ?hx (λ Q q0 q1 q2=>?_) | refine zdu ?hx (λ Q q0 q1 q2=>?_));(case hx=>exact rfl);conv=>whnf)
 | ((with_reducible first | refine zdY ?hx ?_ | refine zc7 ?hx ?_ | refine zb6 ?hx ?_ | refine zcI ?hx ?_);(case hx=>exact rfl))
 | ((with_reducible refine zcW ?_);(first | ((first | refine zd3 rfl ?hy (λ Q q0 q1 q2=>?_) | refine zdf rfl ?hy (λ Q q0 q1 q2=>?_));(case hy=>first | assumption | exact notT (by assumption) | exact rfl);conv=>whnf) | ((first | refine zde rfl ?hy ?_ | refine zcC rfl ?hy ?_);(case hy=>first | assumption | exact notF (by assumption) | exact rfl)) | (revert hF;(with_reducible first | refine zd4 ?hx ?_ ?_ | refine zdg ?hx ?_ ?_);(case hx=>exact rfl);(intro hc hF Q q0 q1 q2;conv=>whnf);rotate_left;(intro hc hF);rotate_right) | (revert hF;(with_reducible first | refine zd5 ?hx ?_ ?_ | refine zdh ?hx ?_ ?_);(case hx=>exact rfl);(intro hc hF);rotate_left;(intro hc hF Q q0 q1 q2;conv=>whnf);rotate_right)))
 | ((with_reducible refine zcF ?_);(first | ((refine zdJ rfl ?hy ?_);(case hy=>first | assumption | exact notT (by assumption) | exact rfl)) | ((refine zdK rfl ?hy ?_);(case hy=>first | assumption | exact notF (by assumption) | exact rfl)) | (revert hF;(with_reducible refine zgb ?hx ?_ ?_);(case hx=>exact rfl);all_goals (intro hc hF))))
 | ((with_reducible refine zcW ?_);(refine zdt zv7 zv1 (ks := []) rfl rfl ?_);dsimp only [St.kid];(first | ((with_reducible refine hR _ ?_);clear R hR) | ((with_reducible refine hL _ ?_);clear L hL)))
 | ((with_reducible refine zcW ?_);(refine zdt 2201000100 2201000101 (ks := []) rfl rfl ?_);dsimp only [St.kid];(first | ((with_reducible refine hR _ ?_);clear R hR) | ((with_reducible refine hL _ ?_);clear L hL)))
 | ((with_reducible refine zb7 ?_);(first | ((with_reducible refine hR _ ?_);clear R hR) | ((with_reducible refine hL _ ?_);clear L hL)))
 | ((with_reducible first | refine zb9 ?_ | refine zc ?_ | refine idx2 (by assumption) ?_ | refine idx3 (by assumption) ?_);conv=>whnf)
 | (with_reducible first | refine zbI ?_ | refine zb5 ?_ | refine zc5 ?_ | refine zcm ?_ | refine zbl (λ R hR=>?_) | refine zbk ?_ | refine zbb ?_ | refine zf9 ?_ | refine zbB ?_ | refine zbj ?_ | refine zbZ ?_ | refine zbF ?_)
 | ((with_reducible refine zca [23,8,6] ?hx ?_);(case hx=>exact rfl))
 | ((with_reducible replace hF := isE hF);(dsimp only [zjf,zl6,zl7,zsj,zp5] at hF);first | ((with_reducible replace hF := chkE (e := zig ..) hF);rewrite [zig] at hF) | rewrite [zhl] at hF | rewrite [zk5] at hF | rewrite [zsi] at hF)
 | ((with_reducible refine zbM ?_);(with_reducible replace hF := zdN 1 hF);((refine Lp.cutI hF rfl rfl ?_ ?_) <;> clear hF);(intro hF);rotate_left;(rintro _ hF);rotate_right)
 | ((with_reducible refine zbe ?_);(with_reducible replace hF := toLp 2 1 hF);exact Lp.headI hF (_,_) ⟨_,rfl,rfl,rfl,rfl⟩ (pr2 (by first | exact rfl | assumption | omega | (simp only [List.length_set];done)) (by first | exact rfl | assumption | omega | (simp only [List.length_set];done))))
 | ((with_reducible refine zbM ?_);(with_reducible replace hF := zdN 4 hF);((refine Lp.cutI hF rfl rfl ?_ ?_) <;> clear hF);(intro hF);rotate_left;(rintro ⟨_,_,_,_⟩ hF);rotate_right)
 | ((with_reducible refine zbe ?_);(with_reducible replace hF := toLp 1 4 hF);exact Lp.headI hF (_,()) ⟨_,rfl,rfl,rfl,rfl⟩ (pr2 (by first | exact rfl | assumption | omega | (simp only [List.length_set];done)) rfl))
 | ((with_reducible refine zbM ?_);(with_reducible replace hF := zdN 0 hF);((refine Lp.cutI hF rfl rfl ?_ ?_) <;> clear hF);(intro hF);rotate_left;(rintro _ hF);rotate_right)
 | ((with_reducible refine zbe ?_);(with_reducible replace hF := toLp 1 0 hF);exact Lp.headI hF (_,()) ⟨_,rfl,rfl,rfl,rfl⟩ (pr2 (by first | exact rfl | assumption | omega | (simp only [List.length_set];done)) rfl))
 | ((with_reducible refine zco ?_);(with_reducible replace hF := toLp 1 5 hF);((refine Lp.loopI hF (_,()) rfl ⟨_,rfl,rfl,rfl,rfl⟩ (pr2 (by first | exact rfl | assumption | omega | (simp only [List.length_set];done)) rfl) (λ _=>rfl) ?_);clear hF);(rintro n ⟨_,_,_,_,_⟩ hF))
 | ((with_reducible refine zcp ?_);(with_reducible replace hF := toLp 1 5 hF);exact Lp.backI hF (_,()) ⟨_,rfl,rfl,rfl,rfl⟩ (pr2 (by first | exact rfl | assumption | omega | (simp only [List.length_set];done)) rfl))
 | (revert hF;(with_reducible refine G35.lend ?hx ?_);(case hx=>exact rfl);intro v hF;conv=>whnf)
 | (revert hF;(with_reducible refine G44.step ?hx ?_);(case hx=>exact rfl);intro v hF;conv=>whnf)
 | (revert hF;(refine G17.step rfl rfl rfl rfl rfl rfl rfl (by first | exact rfl | assumption | omega | (simp only [List.length_set];done)) (by first | exact trivial | exact rfl) ?hn ?_);(case hn=>exact rfl);intro v hF;conv=>whnf)
 | (revert hF;(refine G18.step rfl rfl rfl rfl rfl rfl rfl (by first | exact rfl | assumption | omega | (simp only [List.length_set];done)) (by first | exact trivial | exact rfl) ?hn ?_);(case hn=>exact rfl);intro v hF;conv=>whnf)
 | (revert hF;(refine G23.step rfl rfl rfl rfl rfl rfl rfl (by first | exact rfl | assumption | omega | (simp only [List.length_set];done)) (by first | exact trivial | exact rfl) ?hn ?_);(case hn=>exact rfl);intro v hF;conv=>whnf)
 | (revert hF;(refine G32.step rfl rfl rfl rfl rfl rfl rfl (by first | exact rfl | assumption | omega | (simp only [List.length_set];done)) (by first | exact trivial | exact rfl) ?hn ?_);(case hn=>exact rfl);intro v hF;conv=>whnf)
 | (revert hF;(refine G33.step rfl rfl rfl rfl rfl rfl rfl (by first | exact rfl | assumption | omega | (simp only [List.length_set];done)) (by first | exact trivial | exact rfl) ?hn ?_);(case hn=>exact rfl);intro v hF;conv=>whnf)
 | (revert hF;(refine G34.step rfl rfl rfl rfl rfl rfl rfl (by first | exact rfl | assumption | omega | (simp only [List.length_set];done)) (by first | exact trivial | exact rfl) ?hn ?_);(case hn=>exact rfl);intro v hF;conv=>whnf)
 | (revert hF;(refine G36.step rfl rfl rfl rfl rfl rfl rfl (by first | exact rfl | assumption | omega | (simp only [List.length_set];done)) (by first | exact trivial | exact rfl) ?hn ?_);(case hn=>exact rfl);intro v hF;conv=>whnf)
 | (revert hF;(refine G40.step rfl rfl rfl rfl rfl rfl rfl (by first | exact rfl | assumption | omega | (simp only [List.length_set];done)) (by first | exact trivial | exact rfl) ?hn ?_);(case hn=>exact rfl);intro v hF;conv=>whnf)
 | (revert hF;(with_reducible refine idx1 ?hn ?_);(case hn=>first | exact rfl | exact (List.length_map _) | assumption | omega | simp);intro x hx hF;conv=>whnf)
 | ((refine zdE ?hn ?_);(case hn=>first | exact rfl | (simp;done) | (simp;omega));conv=>whnf)
 | ((with_reducible refine zf3 ?hx ?_);(case hx=>first | exact rfl | assumption | exact notT (by assumption));conv=>whnf)
 | ((with_reducible refine zfl ?hx ?_);(case hx=>first | exact rfl | assumption | exact notF (by assumption));conv=>whnf)
 | ((refine zam 100 101000000 rfl rfl (Nat.le_of_ble_eq_true rfl) rfl (λ R hR=>?_));(conv=>whnf);(with_reducible refine hR _ ?ha ?_);(case ha=>exact rfl);clear R hR)
 | ((refine zam 2200 2201000000 rfl rfl (Nat.le_of_ble_eq_true rfl) rfl (λ R hR=>?_));(conv=>whnf);(with_reducible refine hR _ ?ha ?_);(case ha=>exact rfl);clear R hR)
 | (show Kinl _ _ _ _ _ _ _;conv=>whnf)
 | ((with_reducible refine zcB ?ha ?hb ?_);(case ha=>exact rfl);(case hb=>exact rfl);conv=>whnf)
 | ((refine ⟨?hx,trivial⟩);(case hx=>(cases hF;exact rfl)))
 | ((refine ⟨?hx, ?_⟩);(case hx=>decide);conv=>whnf)
 | with_reducible refine zex ?_)


end Go.Vc
