/-
  A library for proofs about Go functions by symbolic evaluation,and plain Lean functions that the walked Go functions compute (written by a program of this claim).
-/
import Derived.Test.YtijmkjnlgcockaaGreatDoorFRDF1
import Derived.Test.YtijmkjnlgcockaaGreatDoorFRDF2
import Derived.Test.YtijmkjnlgcockaaGreatDoorFRDF3
import Derived.Test.YtijmkjnlgcockaaGreatDoorFRDF4
import Derived.Test.YtijmkjnlgcockaaGreatDoorVc4
set_option linter.unusedVariables false
set_option linter.unnecessarySimpa false
set_option linter.unusedSimpArgs false
namespace Go.Vc
open Go.Proofs
set_option maxRecDepth 20000 in
set_option maxHeartbeats 4000000 in
theorem P9:PureOK Tryz.prog 9 G9:=by
 refine zan (c:=zaq zai [(42,false,zby (zaq zai [(15,false,zby (zaq zai []) Tryz.f15),(18,true,effPg zm8 G18),(75,true,lendPg [[0]] G75),(74,true,lendPg [[0],[0]] G74),(73,true,zbM [[0],[0]] G73),(72,true,lendPg [[0],[0]] G72),(30,true,lendPg [[0]] G30)]) Tryz.f42),(25,false,zby (zaq zai [(15,false,zby (zaq zai []) Tryz.f15),(18,true,effPg zm8 G18)]) Tryz.f25),(41,true,effPg zrI G41),(23,true,effPg zn G23),(21,true,effPg zpB G21),(30,true,lendPg [[0]] G30),(26,true,zbM [[4]] G26),(14,true,lendPg [] G14)]) rfl tyOK (zaF (za Tryz.func42 rfl rfl) (CallOK.inl rfl tyOK (zaF (za Tryz.func15 rfl rfl) (CallOK.inl rfl tyOK (zac) Tryz.func15 (by kernel_rfl)) (zae (za Tryz.func18 rfl rfl) P18 (zap (za Tryz.func75 rfl rfl) P75 (zap (za Tryz.func74 rfl rfl) P74 (zba (za Tryz.func73 rfl rfl) P73 (zap (za Tryz.func72 rfl rfl) P72 (zap (za Tryz.func30 rfl rfl) P30 (zac)))))))) Tryz.func42 (by kernel_rfl)) (zaF (za Tryz.func25 rfl rfl) (CallOK.inl rfl tyOK (zaF (za Tryz.func15 rfl rfl) (CallOK.inl rfl tyOK (zac) Tryz.func15 (by kernel_rfl)) (zae (za Tryz.func18 rfl rfl) P18 (zac))) Tryz.func25 (by kernel_rfl)) (zae (za Tryz.func41 rfl rfl) P41 (zae (za Tryz.func23 rfl rfl) P23 (zae (za Tryz.func21 rfl rfl) P21 (zap (za Tryz.func30 rfl rfl) P30 (zba (za Tryz.func26 rfl rfl) P26 (zap (za Tryz.func14 rfl rfl) P14 (zac))))))))) [[0]] 4 Tryz.func9 rfl rfl (by decide) (by kernel_rfl) ?_;rintro ds d ⟨N,a0,a1,a2,a3,r,rfl,hF,rfl⟩ hok;clear hok;refine⟨rfl, ?_⟩;show vc _ _ _ _ ⟨[(0, .dat (zdM a0)),(1, .dat (u16N a1)),(2, .dat (u8N a2)),(3, .kb a3)],[]⟩ _;unfold f9 at hF
 repeat' (first
 | ((with_reducible first|refine q0 _ _ ?_|refine q1 _ _ _ _ ?_|refine q2 _ _ _ ?_);clear Q q0 q1 q2)
 | ((with_reducible first|refine zdq ?hx (λ Q q0 q1 q2=>?_)|refine zdC ?hx (λ Q q0 q1 q2=>?_)|refine zdj ?hx (λ Q q0 q1 q2=>?_)|refine zex ?hx (λ Q q0 q1 q2=>?_));(case hx=>exact rfl);conv=>whnf)
 | ((with_reducible first|refine zeV ?hx ?_|refine zdB ?hx ?_|refine zjb ?hx ?_|refine zg2 ?hx ?_|refine zcw ?hx ?_|refine zc4 ?hx ?_);(case hx=>exact rfl))
 | ((with_reducible refine zda ?_);(first|((first|refine zeh rfl ?hy (λ Q q0 q1 q2=>?_)|refine zdc rfl ?hy (λ Q q0 q1 q2=>?_));(case hy=>first|assumption|exact notT (by assumption)|exact zlj (by assumption)|exact zlk (by assumption)|exact notT (zll (by assumption))|exact notT (zlm (by assumption))|exact rfl);conv=>whnf)|((first|refine zdb rfl ?hy ?_|refine zcx rfl ?hy ?_);(case hy=>first|assumption|exact notF (by assumption)|exact zll (by assumption)|exact zlm (by assumption)|exact notF (zlj (by assumption))|exact notF (zlk (by assumption))|exact rfl))|(revert hF;(with_reducible first|refine zei ?hx ?_ ?_|refine zdd ?hx ?_ ?_);(case hx=>exact rfl);(intro hc hF Q q0 q1 q2;conv=>whnf);rotate_left;(intro hc hF);rotate_right)|(revert hF;(with_reducible first|refine zej ?hx ?_ ?_|refine zde ?hx ?_ ?_);(case hx=>exact rfl);(intro hc hF);rotate_left;(intro hc hF Q q0 q1 q2;conv=>whnf);rotate_right)))
 | ((with_reducible refine zq4 ?_);(first|((first|refine znU rfl ?hy (λ Q q0 q1 q2=>?_)|refine zle rfl ?hy (λ Q q0 q1 q2=>?_));(case hy=>first|assumption|exact notT (by assumption)|exact zlj (by assumption)|exact zlk (by assumption)|exact notT (zll (by assumption))|exact notT (zlm (by assumption))|exact rfl);conv=>whnf)|((first|refine zld rfl ?hy ?_|refine ziM rfl ?hy ?_);(case hy=>first|assumption|exact notF (by assumption)|exact zll (by assumption)|exact zlm (by assumption)|exact notF (zlj (by assumption))|exact notF (zlk (by assumption))|exact rfl))|(revert hF;(with_reducible first|refine znV ?hx ?_ ?_|refine zlf ?hx ?_ ?_);(case hx=>exact rfl);(intro hc hF Q q0 q1 q2;conv=>whnf);rotate_left;(intro hc hF);rotate_right)|(revert hF;(with_reducible first|refine znW ?hx ?_ ?_|refine zlg ?hx ?_ ?_);(case hx=>exact rfl);(intro hc hF);rotate_left;(intro hc hF Q q0 q1 q2;conv=>whnf);rotate_right)))
 | ((with_reducible refine zcW ?_);(first|((refine zee rfl ?hy ?_);(case hy=>first|assumption|exact notT (by assumption)|exact zlj (by assumption)|exact zlk (by assumption)|exact notT (zll (by assumption))|exact notT (zlm (by assumption))|exact rfl))|((refine zef rfl ?hy ?_);(case hy=>first|assumption|exact notF (by assumption)|exact zll (by assumption)|exact zlm (by assumption)|exact notF (zlj (by assumption))|exact notF (zlk (by assumption))|exact rfl))|(revert hF;(with_reducible refine zht ?hx ?_ ?_);(case hx=>exact rfl);all_goals (intro hc hF))))
 | ((with_reducible refine zda ?_);(refine zeu zyZ zyX (ks:=[]) rfl rfl ?_);dsimp only[St.kid];(first|((with_reducible refine hR _ ?_);clear R hR)|((with_reducible refine hL _ ?_);clear L hL)))
 | ((with_reducible refine zda ?_);(refine zeu zzk zzb (ks:=[]) rfl rfl ?_);dsimp only[St.kid];(first|((with_reducible refine hR _ ?_);clear R hR)|((with_reducible refine hL _ ?_);clear L hL)))
 | ((with_reducible refine zda ?_);(refine zeu zy6 zy3 (ks:=[]) rfl rfl ?_);dsimp only[St.kid];(first|((with_reducible refine hR _ ?_);clear R hR)|((with_reducible refine hL _ ?_);clear L hL)))
 | ((with_reducible refine zda ?_);(refine zeu zzl zzc (ks:=[]) rfl rfl ?_);dsimp only[St.kid];(first|((with_reducible refine hR _ ?_);clear R hR)|((with_reducible refine hL _ ?_);clear L hL)))
 | ((with_reducible refine zcm ?_);(first|((with_reducible refine hR _ ?_);clear R hR)|((with_reducible refine hL _ ?_);clear L hL)))
 | ((with_reducible refine zcF ?_);(with_reducible refine hR _ _ ?hx ?_);(case hx=>kernel_rfl);clear R hR)
 | ((with_reducible first|refine zbU ?_|refine zbV ?_|refine idx2 (by assumption) ?_|refine idx3 (by assumption) ?_);conv=>whnf)
 | (with_reducible first|refine zbR ?_|refine zck ?_|refine zdp ?_|refine zcB ?_|refine zbo (λ R hR=>?_)|refine zbm ?_|refine zbe ?_|refine zg1 ?_|refine zbC ?_|refine zbn ?_|refine zcl ?_|refine zbX ?_)
 | ((with_reducible refine zco [47,46,47,46,47,46,47,46,4003000000018,47,46,47,46,4003000000013,40,32,zzq,zzr,103000101000107000000018,103000101000107000000013,24,23,22,13,103000000007,103000000005] ?hx ?_);(case hx=>exact rfl))
 | ((with_reducible refine zdA ?hx (λ R L hL hR=>?_));(case hx=>exact rfl))
 | ((with_reducible replace hF:=isE hF);(dsimp only[znc,znd,zuP,zhQ,zhR,zog,zhS,zhT,zoi,zhU,zhV,zok,zdS,zhW,zhX,zom,zhY,zhZ,zoo,zdX,zgw,znf,zng,zdY,zdZ,zgy,zd0,zd1,zgA,znh,zni,znj,zuT,znl,zyr,zys,zfl,zfm,ziX,zne,zfh,zfi,zgb,zfj,zfk,zb1,zbG,zb2,znk,f9_9,f9_5,zcY] at hF);first|((with_reducible replace hF:=chkE (e:=zfS ..) hF);rewrite[zfS] at hF)|rewrite[zhO] at hF|rewrite[zhP] at hF|rewrite[zuO] at hF|rewrite[zdO] at hF|rewrite[zdP] at hF|rewrite[zof] at hF|rewrite[zdQ] at hF|rewrite[zdR] at hF|rewrite[zoh] at hF|rewrite[zdg] at hF|rewrite[zdh] at hF|rewrite[zoj] at hF|rewrite[zbg] at hF|rewrite[zdT] at hF|rewrite[zdU] at hF|rewrite[zol] at hF|rewrite[zdV] at hF|rewrite[zdW] at hF|rewrite[zon] at hF|rewrite[zcy] at hF|rewrite[zgv] at hF|rewrite[zeT] at hF|rewrite[zb4] at hF|rewrite[zcz] at hF|rewrite[zgx] at hF|rewrite[zbv] at hF|rewrite[zcA] at hF|rewrite[zgz] at hF|rewrite[zgB] at hF|rewrite[zh0] at hF|rewrite[zh1] at hF|rewrite[zl2] at hF|rewrite[zh2] at hF|rewrite[ztU] at hF|rewrite[ztV] at hF|rewrite[zb5] at hF|rewrite[zcK] at hF|rewrite[zeJ] at hF)
 | ((with_reducible refine zb0 ?_);(with_reducible replace hF:=zeg 1 hF);((refine Lp.cutI hF rfl rfl ?_ ?_) <;> clear hF);(intro hF);rotate_left;(rintro _ hF);rotate_right)
 | ((with_reducible refine zbb ?_);(with_reducible replace hF:=toLp 0 1 hF);exact Lp.headI hF () ⟨_,rfl,rfl,rfl,rfl⟩ rfl)
 | ((with_reducible refine zcp ?_);(with_reducible replace hF:=toLp 0 1 hF);((refine Lp.loopI hF () rfl ⟨_,rfl,rfl,rfl,rfl⟩ rfl (λ _=>rfl) ?_);clear hF);(rintro n _ hF))
 | ((with_reducible refine zcq ?_);(with_reducible replace hF:=toLp 0 1 hF);exact Lp.backI hF () ⟨_,rfl,rfl,rfl,rfl⟩ rfl)
 | ((with_reducible refine zb0 ?_);(with_reducible replace hF:=zeg 4 hF);((refine Lp.cutI hF rfl rfl ?_ ?_) <;> clear hF);(intro hF);rotate_left;(rintro⟨_,_,_,_⟩ hF);rotate_right)
 | ((with_reducible refine zbb ?_);(with_reducible replace hF:=toLp 1 4 hF);exact Lp.headI hF (_,()) ⟨_,rfl,rfl,rfl,rfl⟩ (pr2 (by first|exact rfl|assumption|omega|(simp only[List.length_set];done)) rfl))
 | ((with_reducible refine zb0 ?_);(with_reducible replace hF:=zeg 2 hF);((refine Lp.cutI hF rfl rfl ?_ ?_) <;> clear hF);(intro hF);rotate_left;(rintro⟨_,_⟩ hF);rotate_right)
 | ((with_reducible refine zbb ?_);(with_reducible replace hF:=toLp 1 2 hF);exact Lp.headI hF (_,()) ⟨_,rfl,rfl,rfl,rfl⟩ (pr2 (by first|exact rfl|assumption|omega|(simp only[List.length_set];done)) rfl))
 | ((with_reducible refine zcp ?_);(with_reducible replace hF:=toLp 1 5 hF);((refine Lp.loopI hF (_,()) rfl ⟨_,rfl,rfl,rfl,rfl⟩ (pr2 (by first|exact rfl|assumption|omega|(simp only[List.length_set];done)) rfl) (λ _=>rfl) ?_);clear hF);(rintro n ⟨_,_,_,_,_⟩ hF))
 | ((with_reducible refine zcq ?_);(with_reducible replace hF:=toLp 1 5 hF);exact Lp.backI hF (_,()) ⟨_,rfl,rfl,rfl,rfl⟩ (pr2 (by first|exact rfl|assumption|omega|(simp only[List.length_set];done)) rfl))
 | ((with_reducible refine zbb ?_);(with_reducible replace hF:=toLp 1 1 hF);exact Lp.headI hF (_,()) ⟨_,rfl,rfl,rfl,rfl⟩ (pr2 (by first|exact rfl|assumption|omega|(simp only[List.length_set];done)) rfl))
 | ((with_reducible refine zb0 ?_);(with_reducible replace hF:=zeg 0 hF);((refine Lp.cutI hF rfl rfl ?_ ?_) <;> clear hF);(intro hF);rotate_left;(rintro _ hF);rotate_right)
 | ((with_reducible refine zbb ?_);(with_reducible replace hF:=toLp 0 0 hF);exact Lp.headI hF () ⟨_,rfl,rfl,rfl,rfl⟩ rfl)
 | ((with_reducible refine zbb ?_);(with_reducible replace hF:=toLp 3 4 hF);exact Lp.headI hF (_,_,_) ⟨_,rfl,rfl,rfl,rfl⟩ (pr2 (by first|exact rfl|assumption|omega|(simp only[List.length_set];done)) (pr2 (by first|exact rfl|assumption|omega|(simp only[List.length_set];done)) (by first|exact rfl|assumption|omega|(simp only[List.length_set];done)))))
 | ((with_reducible refine zbb ?_);(with_reducible replace hF:=toLp 3 2 hF);exact Lp.headI hF (_,_,_) ⟨_,rfl,rfl,rfl,rfl⟩ (pr2 (by first|exact rfl|assumption|omega|(simp only[List.length_set];done)) (pr2 (by first|exact rfl|assumption|omega|(simp only[List.length_set];done)) (by first|exact rfl|assumption|omega|(simp only[List.length_set];done)))))
 | ((with_reducible refine zcp ?_);(with_reducible replace hF:=toLp 3 5 hF);((refine Lp.loopI hF (_,_,_) rfl ⟨_,rfl,rfl,rfl,rfl⟩ (pr2 (by first|exact rfl|assumption|omega|(simp only[List.length_set];done)) (pr2 (by first|exact rfl|assumption|omega|(simp only[List.length_set];done)) (by first|exact rfl|assumption|omega|(simp only[List.length_set];done)))) (λ _=>rfl) ?_);clear hF);(rintro n ⟨_,_,_,_,_⟩ hF))
 | ((with_reducible refine zcq ?_);(with_reducible replace hF:=toLp 3 5 hF);exact Lp.backI hF (_,_,_) ⟨_,rfl,rfl,rfl,rfl⟩ (pr2 (by first|exact rfl|assumption|omega|(simp only[List.length_set];done)) (pr2 (by first|exact rfl|assumption|omega|(simp only[List.length_set];done)) (by first|exact rfl|assumption|omega|(simp only[List.length_set];done)))))
 | ((with_reducible refine zbb ?_);(with_reducible replace hF:=toLp 2 4 hF);exact Lp.headI hF (_,_) ⟨_,rfl,rfl,rfl,rfl⟩ (pr2 (by first|exact rfl|assumption|omega|(simp only[List.length_set];done)) (by first|exact rfl|assumption|omega|(simp only[List.length_set];done))))
 | ((with_reducible refine zbb ?_);(with_reducible replace hF:=toLp 2 2 hF);exact Lp.headI hF (_,_) ⟨_,rfl,rfl,rfl,rfl⟩ (pr2 (by first|exact rfl|assumption|omega|(simp only[List.length_set];done)) (by first|exact rfl|assumption|omega|(simp only[List.length_set];done))))
 | ((with_reducible refine zcp ?_);(with_reducible replace hF:=toLp 2 5 hF);((refine Lp.loopI hF (_,_) rfl ⟨_,rfl,rfl,rfl,rfl⟩ (pr2 (by first|exact rfl|assumption|omega|(simp only[List.length_set];done)) (by first|exact rfl|assumption|omega|(simp only[List.length_set];done))) (λ _=>rfl) ?_);clear hF);(rintro n ⟨_,_,_,_,_⟩ hF))
 | ((with_reducible refine zcq ?_);(with_reducible replace hF:=toLp 2 5 hF);exact Lp.backI hF (_,_) ⟨_,rfl,rfl,rfl,rfl⟩ (pr2 (by first|exact rfl|assumption|omega|(simp only[List.length_set];done)) (by first|exact rfl|assumption|omega|(simp only[List.length_set];done))))
 | ((with_reducible refine zbb ?_);(with_reducible replace hF:=toLp 2 1 hF);exact Lp.headI hF (_,_) ⟨_,rfl,rfl,rfl,rfl⟩ (pr2 (by first|exact rfl|assumption|omega|(simp only[List.length_set];done)) (by first|exact rfl|assumption|omega|(simp only[List.length_set];done))))
 | ((with_reducible refine zcp ?_);(with_reducible replace hF:=toLp 3 3 hF);((refine Lp.loopI hF (_,_,_) rfl ⟨_,rfl,rfl,rfl,rfl⟩ (pr2 (by first|exact rfl|assumption|omega|(simp only[List.length_set];done)) (pr2 (by first|exact rfl|assumption|omega|(simp only[List.length_set];done)) (by first|exact rfl|assumption|omega|(simp only[List.length_set];done)))) (λ _=>rfl) ?_);clear hF);(rintro n ⟨_,_,_⟩ hF))
 | ((with_reducible refine zcq ?_);(with_reducible replace hF:=toLp 3 3 hF);exact Lp.backI hF (_,_,_) ⟨_,rfl,rfl,rfl,rfl⟩ (pr2 (by first|exact rfl|assumption|omega|(simp only[List.length_set];done)) (pr2 (by first|exact rfl|assumption|omega|(simp only[List.length_set];done)) (by first|exact rfl|assumption|omega|(simp only[List.length_set];done)))))
 | ((with_reducible refine zcp ?_);(with_reducible replace hF:=toLp 2 2 hF);((refine Lp.loopI hF (_,_) rfl ⟨_,rfl,rfl,rfl,rfl⟩ (pr2 (by first|exact rfl|assumption|omega|(simp only[List.length_set];done)) (by first|exact rfl|assumption|omega|(simp only[List.length_set];done))) (λ _=>rfl) ?_);clear hF);(rintro n ⟨_,_⟩ hF))
 | ((with_reducible refine zcq ?_);(with_reducible replace hF:=toLp 2 2 hF);exact Lp.backI hF (_,_) ⟨_,rfl,rfl,rfl,rfl⟩ (pr2 (by first|exact rfl|assumption|omega|(simp only[List.length_set];done)) (by first|exact rfl|assumption|omega|(simp only[List.length_set];done))))
 | (revert hF;(with_reducible refine G14.lend ?hx ?_);(case hx=>exact rfl);intro v hF;conv=>whnf)
 | (revert hF;(with_reducible refine G26.step ?hx ?_);(case hx=>exact rfl);intro v hF;conv=>whnf)
 | (revert hF;(with_reducible refine G30.lend ?hx ?_);(case hx=>exact rfl);intro v hF;conv=>whnf)
 | (revert hF;(with_reducible refine G72.lend ?hx ?_);(case hx=>exact rfl);intro v hF;conv=>whnf)
 | (revert hF;(with_reducible refine G73.step ?hx ?_);(case hx=>exact rfl);intro v hF;conv=>whnf)
 | (revert hF;(with_reducible refine G74.lend ?hx ?_);(case hx=>exact rfl);intro v hF;conv=>whnf)
 | (revert hF;(with_reducible refine G75.lend ?hx ?_);(case hx=>exact rfl);intro v hF;conv=>whnf)
 | (revert hF;(refine G18.step rfl rfl rfl rfl rfl rfl rfl (by first|exact rfl|assumption|omega|(simp only[List.length_set];done)) (by first|exact trivial|exact rfl) ?hn ?_);(case hn=>exact rfl);intro v hF;conv=>whnf)
 | (revert hF;(refine G21.step rfl rfl rfl rfl rfl rfl rfl (by first|exact rfl|assumption|omega|(simp only[List.length_set];done)) (by first|exact trivial|exact rfl) ?hn ?_);(case hn=>exact rfl);intro v hF;conv=>whnf)
 | (revert hF;(refine G23.step rfl rfl rfl rfl rfl rfl rfl (by first|exact rfl|assumption|omega|(simp only[List.length_set];done)) (by first|exact trivial|exact rfl) ?hn ?_);(case hn=>exact rfl);intro v hF;conv=>whnf)
 | (revert hF;(refine G41.step rfl rfl rfl rfl rfl rfl rfl rfl rfl rfl rfl rfl rfl (by first|exact rfl|assumption|omega|(simp only[List.length_set];done)) (by first|exact rfl|assumption|omega|(simp only[List.length_set];done)) (by first|exact trivial|exact rfl) ?hn ?_);(case hn=>exact rfl);intro v hF;conv=>whnf)
 | ((with_reducible have hI:=zmW hF);clear hI;revert hF;(refine zhp ?_);intro x hF;conv=>whnf)
 | ((with_reducible have hI:=zrh hF);clear hI;revert hF;(refine zla ?_);intro x hF;conv=>whnf)
 | ((with_reducible have hI:=zmV hF);clear hI;revert hF;(refine zhq ?_);intro x hF;conv=>whnf)
 | ((with_reducible have hI:=zth hF);clear hI;revert hF;(first|refine zps (λ _ h=>h) ?_|refine zmT ?_);intro x hF;conv=>whnf)
 | ((with_reducible have hI:=zlt hF);clear hI;revert hF;(refine zhr ?_);intro x hF;(first|((with_reducible refine orR ?_);(conv=>whnf);(refine⟨x.length,by simp, ?_⟩);conv=>whnf)|conv=>whnf))
 | (revert hF;(with_reducible refine idx1 ?hn ?_);(case hn=>first|exact rfl|exact(List.length_map _)|assumption|omega|simp);intro x hx hF;conv=>whnf)
 | ((with_reducible have hG:=zgN hF);clear hF;(refine zjD hG (λ q hF=>?_));clear hG;conv=>whnf)
 | ((refine zed ?hn ?_);(case hn=>first|exact rfl|(simp;done)|(simp;omega));conv=>whnf)
 | ((with_reducible refine zjG ?hn ?_);(case hn=>first|exact rfl|assumption|omega);conv=>whnf)
 | ((with_reducible have hG:=zec hF);clear hF;(refine zfG hG ?hs (λ q hl hF=>?_));(case hs=>exact rfl);clear hG;conv=>whnf)
 | ((refine⟨?hx, ?_⟩);(case hx=>exact⟨rfl,zyV rfl,rfl⟩);conv=>whnf)
 | ((with_reducible refine ze6 ?_);conv=>whnf)
 | ((with_reducible have hG:=zjF hF);clear hF;(refine⟨?hx, ?_⟩);(case hx=>(first|exact of_decide_eq_true hG.1|exact hG.1));have hF:=hG.2;clear hG;conv=>whnf)
 | ((with_reducible refine zgm ?hx ?_);(case hx=>first|exact rfl|assumption|exact notT (by assumption)|exact zlj (by assumption)|exact zlk (by assumption)|exact notT (zll (by assumption))|exact notT (zlm (by assumption)));conv=>whnf)
 | ((with_reducible refine zgn ?hx ?_);(case hx=>first|exact rfl|assumption|exact notF (by assumption)|exact zll (by assumption)|exact zlm (by assumption)|exact notF (zlj (by assumption))|exact notF (zlk (by assumption)));conv=>whnf)
 | ((refine zas 102 103000000 rfl rfl (zyV rfl) rfl (λ R hR=>?_));(conv=>whnf);(with_reducible refine hR _ ?ha ?_);(case ha=>exact rfl);clear R hR)
 | ((refine zas 2501 103000101000107000000 rfl rfl (zyV rfl) rfl (λ R hR=>?_));(conv=>whnf);(with_reducible refine hR _ ?ha ?_);(case ha=>exact rfl);clear R hR)
 | ((refine zas 2903 103000101000107000801000107000000 rfl rfl (zyV rfl) rfl (λ R hR=>?_));(conv=>whnf);(with_reducible refine hR _ ?ha ?_);(case ha=>exact rfl);clear R hR)
 | ((refine zas 4002 4003000000 rfl rfl (zyV rfl) rfl (λ R hR=>?_));(conv=>whnf);(with_reducible refine hR _ ?ha ?_);(case ha=>exact rfl);clear R hR)
 | ((refine zas 103000100 103000101000000 rfl rfl (zyV rfl) rfl (λ R hR=>?_));(conv=>whnf);(with_reducible refine hR _ ?ha ?_);(case ha=>exact rfl);clear R hR)
 | ((refine zas 4003000800 4003000801000000 rfl rfl (zyV rfl) rfl (λ R hR=>?_));(conv=>whnf);(with_reducible refine hR _ ?ha ?_);(case ha=>exact rfl);clear R hR)
 | ((refine zas 103000101000107000800 103000101000107000801000000 rfl rfl (zyV rfl) rfl (λ R hR=>?_));(conv=>whnf);(with_reducible refine hR _ ?ha ?_);(case ha=>exact rfl);clear R hR)
 | ((refine zas 103000101000107000801000107000800 103000101000107000801000107000801000000 rfl rfl (zyV rfl) rfl (λ R hR=>?_));(conv=>whnf);(with_reducible refine hR _ ?ha ?_);(case ha=>exact rfl);clear R hR)
 | (show Kinl _ _ _ _ _ _ _;conv=>whnf)
 | ((with_reducible refine zcV ?ha ?hb ?_);(case ha=>exact rfl);(case hb=>exact rfl);conv=>whnf)
 | ((refine⟨?hx,trivial⟩);(case hx=>(cases hF;exact rfl)))
 | ((refine⟨?hx, ?_⟩);(case hx=>decide);conv=>whnf)
 | with_reducible refine zeU ?_)


end Go.Vc
namespace Go.Vc
section
variable {α β σ:Type}
end
end Go.Vc
namespace Go.Vc
open Go.Proofs
def sumI:List Int->Int
 | []=>0
 | x::l=>x+sumI l
theorem zop (a b:List Int):sumI (a++b)=sumI a+sumI b:=by
 induction a with
 | nil=>simp[sumI]
 | cons x a ih=>simp only[List.cons_append,sumI,ih];omega
theorem zcZ {l:List Int}(h:∀ k,k∈l->0<=k):0<=sumI l:=by
 induction l with
 | nil=>simp[sumI]
 | cons x l ih =>
  simp only[List.mem_cons,forall_eq_or_imp] at h;have:=ih h.2;simp only[sumI];omega
theorem zgP {l:List Int}{i:Nat}{x y:Int}(h:l[i]? = some x):sumI (l.set i y)=sumI l-x+y:=by
 induction l generalizing i with
 | nil=>simp at h
 | cons z l ih =>
  cases i with
  | zero=>simp at h;subst h;simp only[List.set_cons_zero,sumI];omega
  | succ i=>simp only[List.set_cons_succ,sumI,ih (by simpa using h)];omega
theorem zrJ {l:List Int}(h:∀ k,k∈l->0<=k){i:Nat}{x:Int}(hx:l[i]? = some x):x<=sumI l:=by
 induction l generalizing i with
 | nil=>simp at hx
 | cons z l ih =>
  simp only[List.mem_cons,forall_eq_or_imp] at h;have:=zcZ h.2
  cases i with
  | zero=>simp at hx;subst hx;simp only[sumI];omega
  | succ i =>
   have:=ih h.2 (by simpa using hx);simp only[sumI];omega
theorem zl3 {l:List Int}(h:∀ k,k∈l->0<=k)(n:Nat):0<=sumI (l.drop n)/\sumI (l.drop n)<=sumI l:=by
 have h1:0<=sumI (l.drop n):=zcZ λ k hk=>h k (List.mem_of_mem_drop hk);have h2:0<=sumI (l.take n):=zcZ λ k hk=>h k (List.mem_of_mem_take hk);have h3:=zop (l.take n) (l.drop n);rw[List.take_append_drop] at h3;exact⟨h1,by omega⟩
abbrev TS:=List (ByteArray×StoneM)
abbrev TE:=List (ByteArray×EditionM)
abbrev TC:=List (ByteArray×Bool)
section
variable {κ σ:Type}
def modF (l:List (κ×σ))(i:Nat)(f:σ->σ):List (κ×σ):=l.modify i λ p=>(p.1,f p.2)
theorem zcH {l:List (κ×σ)}{i:Nat}{x:σ}{f:σ->σ}(h:getF l i=some x):setF l i (f x)=modF l i f:=by
 obtain⟨k,hk⟩:=za2.1 h;unfold setF modF;apply List.ext_getElem?;intro j;simp only[List.getElem?_modify];by_cases hj:i=j
 .subst hj;simp[hk]
 .simp [hj]
theorem zeq {l:List (κ×σ)}{i:Nat}{x y:σ}:setF (setF l i x) i y=setF l i y:=by
 unfold setF;apply List.ext_getElem?;intro j;simp only[List.getElem?_modify];by_cases hj:i=j
 .subst hj;cases l[i]? <;> simp
 .simp [hj]
theorem zoq {l:List (κ×σ)}{i:Nat}{f:σ->σ}:(modF l i f).length=l.length:=by simp[modF]
theorem zl4 {l:List (κ×σ)}{i:Nat}{f:σ->σ}:(modF l i f).map (·.1)=l.map (·.1):=by
 unfold modF;apply List.ext_getElem?;intro j;simp only[List.getElem?_map,List.getElem?_modify];by_cases hj:i=j
 .subst hj;cases l[i]? <;> simp
 .simp [hj]
theorem zkd {l:List (κ×σ)}{i j:Nat}{f:σ->σ}:(modF l i f)[j]? = if i=j then (l[j]?).map (λ p=>(p.1,f p.2)) else l[j]? := by
 unfold modF;rw[List.getElem?_modify]
 split
 .rename_i h;subst h;rfl
 .cases l[j]? <;> rfl
theorem zor {l:List (κ×σ)}{i:Nat}{f:σ->σ}{p:κ×σ}(h:p∈modF l i f):p∈l ∨ ∃ q,l[i]? = some q/\p=(q.1,f q.2):=by
 obtain⟨j,hj⟩:=List.getElem?_of_mem h;rw[zkd] at hj
 split at hj
 .rename_i e;subst e
  cases hl:l[i]? with
  | none=>rw[hl] at hj;cases hj
  | some q=>rw[hl] at hj;cases hj;exact .inr ⟨q,rfl,rfl⟩
 .exact .inl (zyU hj)
theorem zeK {l:List (κ×σ)}{i:Nat}{x:σ}(h:getF l i=some x):∃ q,l[i]? = some q/\q.2=x:=by
 obtain⟨k,hk⟩:=za2.1 h;exact⟨_,hk,rfl⟩
theorem zaP [DecidableEq κ]{k:κ}{l:List (κ×σ)}{i:Nat}(h:zaA k l=some i):∃ x,getF l i=some x:=by
 obtain⟨⟨x,hx⟩,_⟩:=zeG.1 h;exact⟨x,za2.2 ⟨k,hx⟩⟩
end
def stO (S:TS)(k:ByteArray):Option StoneM:=(zaA k S).bind (getF S)
def edO (E:TE)(k:ByteArray):Option EditionM:=(zaA k E).bind (getF E)
def EditionM.rest (e:EditionM)(k:Int):Int:=sumI (e.places.drop k.toNat)
def EditionM.at_ (e:EditionM)(k:Int):Int:=(e.places[k.toNat]?).getD 0
def EditionM.last (e:EditionM):Int:=(e.places[e.places.length-1]?).getD 0
def zaK (S:TS)(E:TE)(C:TC):I97->Int
 | .nil=>0
 | .c199 x=>if (zaA x.name S).isSome then 6 else if S.length=8 then 2 else 0
 | .c201 x=>if (zaA x.name E).isSome then 6 else if E.length=5 then 2 else 0
 | .c203 x=>match stO S x.stone,edO E x.edition with
  | some a,some e=>if a.of.isSome then 20 else if e.closed then 21 else 0
  | _,_=>5
 | .c205 x=>match edO E x.edition with
  | none=>5
  | some e=>if 0<e.from_ then 21 else if 5000<e.paper+x.n then 16 else 0
 | .c207 x=>match stO S x.stone with
  | none=>5
  | some a=>match a.of with
   | none=>1
   | some j=>if x.good+x.spoilt=0 then 1 else match getF E j with
    | none=>0
    | some e=>if e.at_ a.place<x.good+x.spoilt then 16 else 0
 | .c209 x=>match edO E x.edition with
  | none=>5
  | some e=>if e.closed then 21 else if e.places.length=1 then 1 else 0
 | .c211 x=>match edO E x.edition with
  | none=>5
  | some e=>if (zbB false x.customer C).1=false/\C.length=6 then 2 else if e.rest e.from_<e.open_+x.n then 16 else 0
 | .c213 x=>match edO E x.claiming.edition with
  | none=>5
  | some e=>if (zbB 0 x.claiming.customer e.owed).2=false then 5 else if e.closed=false then 22 else if (zbB 0 x.claiming.customer e.owed).1<x.claiming.n then 14 else if e.last<x.claiming.n then 16 else 0
 | .c215 x=>match stO S x.stone with
  | none=>5
  | some a=>match a.of with
   | none=>1
   | some j=>match getF E j with
    | none=>0
    | some e=>if e.closed=false then 22 else if e.rest (max e.from_ (a.place+1))<e.rest e.from_/\e.rest (max e.from_ (a.place+1))<e.open_ then 12 else if a.thick=1 then 13 else 0
def doM (S:TS)(E:TE)(C:TC):I97->TS×TE×TC
 | .nil=>(S,E,C)
 | .c199 x=>(S++[(x.name,⟨x.thick,none,0⟩)],E,C)
 | .c201 x=>(S,E++[(x.name,⟨x.name,false,[0],0,0,0,0,[],0⟩)],C)
 | .c203 x=>match zaA x.stone S,zaA x.edition E with
  | some i,some j=>(modF S i λ a=>{ a with of:=some j,place:=(((getF E j).map (·.places.length)).getD 0:Nat)-1 },modF E j λ e=>{ e with places:=e.places++[0] },C)
  | _,_=>(S,E,C)
 | .c205 x=>match zaA x.edition E with
  | some j=>(S,modF E j λ e=>{ e with paper:=e.paper+x.n,places:=e.places.set 0 (e.at_ 0+x.n) },C)
  | none=>(S,E,C)
 | .c207 x=>match stO S x.stone with
  | some a=>match a.of with
   | some j=>(S,modF E j λ e=>{ e with places:=(e.places.set a.place.toNat (e.at_ a.place-(x.good+x.spoilt))).set (a.place.toNat+1) (e.at_ (a.place+1)+x.good),spoilt:=e.spoilt+x.spoilt },C)
   | none=>(S,E,C)
  | none=>(S,E,C)
 | .c209 x=>match zaA x.edition E with
  | some j=>(S,modF E j λ e=>{ e with closed:=true },C)
  | none=>(S,E,C)
 | .c211 x=>match zaA x.edition E with
  | some j=>(S,modF E j λ e=>{ e with owed:=setK x.customer ((zbB 0 x.customer e.owed).1+x.n) e.owed,open_:=e.open_+x.n },setK x.customer true C)
  | none=>(S,E,C)
 | .c213 x=>match zaA x.claiming.edition E with
  | some j=>(S,modF E j λ e=>{ e with owed:=setK x.claiming.customer ((zbB 0 x.claiming.customer e.owed).1-x.claiming.n) e.owed,open_:=e.open_-x.claiming.n,delivered:=e.delivered+x.claiming.n,places:=e.places.set (e.places.length-1) (e.last-x.claiming.n) },C)
  | none=>(S,E,C)
 | .c215 x=>match zaA x.stone S with
  | some i=>match (getF S i).bind (·.of) with
   | some j=>(modF S i λ a=>⟨a.thick-1,none,0⟩,modF E j λ e=>{ e with from_:=max e.from_ (((getF S i).map (·.place)).getD 0+1) },C)
   | none=>(S,E,C)
  | none=>(S,E,C)
structure EdOK (n:Nat)(e:EditionM):Prop where
 ne:1<=e.places.length
 le:e.places.length<=n+1
 nn:∀ k,k∈e.places->0<=k
 sm:sumI e.places+e.delivered+e.spoilt=e.paper
 pp:e.paper<=5000
 dl:0<=e.delivered
 sp:0<=e.spoilt
 f0:0<=e.from_
 fl:e.from_<e.places.length
 ow:∀ p,p∈e.owed->0<=p.2
 os:e.open_=sumI (e.owed.map (·.2))
 ob:e.open_<=5000
structure StOK (E:TE)(a:StoneM):Prop where
 t1:1<=a.thick
 t9:a.thick<=99
 pl:∀ j,a.of=some j->∃ q,E[j]? = some q/\0<=a.place/\a.place+1<q.2.places.length
structure ShOK (n:Nat)(S:TS)(E:TE)(C:TC):Prop where
 sl:S.length<=8
 el:E.length<=5
 cl:C.length<=6
 sk:(S.map (·.1)).Nodup
 ek:(E.map (·.1)).Nodup
 st:∀ p,p∈S->StOK E p.2
 ed:∀ p,p∈E->EdOK n p.2/\p.2.name=p.1
def zc3:I97->Prop
 | .nil=>False
 | .c199 x=>1<=x.thick/\x.thick<=99
 | .c205 x=>1<=x.n/\x.n<=5000
 | .c207 x=>0<=x.good/\x.good<=5000/\0<=x.spoilt/\x.spoilt<=5000
 | .c211 x=>1<=x.n/\x.n<=5000
 | .c213 x=>1<=x.claiming.n/\x.claiming.n<=5000
 | _=>True
theorem EdOK.sums {n:Nat}{e:EditionM}(h:EdOK n e):sumI e.places<=5000:=by have:=h.sm;have:=h.pp;have:=h.dl;have:=h.sp;omega
theorem EdOK.rest_b {n:Nat}{e:EditionM}(h:EdOK n e)(k:Int):0<=e.rest k/\e.rest k<=5000:=by
 have h1:=zl3 h.nn k.toNat;have h2:=h.sums;exact⟨h1.1,by unfold EditionM.rest;omega⟩
end Go.Vc
namespace Go.Vc
open Go.Proofs
theorem ztW {k0:Int->Option Int}{x1:List Int}:∀ (r:List Int) (i n:Nat) (acc:Int),x1.drop i=r->i<=x1.length->r.length<n->(∀ k,k∈r->0<=k)->0<=acc->acc+sumI r<=1000000->x1.length<=1000000 ->
  zlC k0 x1 n acc (i:Int)=k0 (acc+sumI r):=by
 intro r
 induction r with
 | nil =>
  intro i n acc hd hi hn hnn ha hs hl;obtain⟨n,rfl⟩:∃ q,n=q+1:=⟨n-1,by simp at hn;omega⟩
  have:i=x1.length:=by
   have:=congrArg List.length hd;simp at this;omega
  subst this;simp only[zlC,zn5,sumI,Int.add_zero];rw[show decide ((x1.length:Int)<(x1.length:Int))=false from decide_eq_false (by omega),cond_false]
 | cons y r ih =>
  intro i n acc hd hi hn hnn ha hs hl;obtain⟨n,rfl⟩:∃ q,n=q+1:=⟨n-1,by simp at hn;omega⟩
  have hx:x1[i]? = some y:=by
   have:(x1.drop i)[0]? = some y:=by rw[hd];rfl
   simpa using this
  have hil:=(zyR.1 hx).1;simp only[List.mem_cons,forall_eq_or_imp] at hnn;simp only[sumI] at hs;have hr:=zcZ hnn.2;simp only[zlC,zn5,zbk,hx,zyQ];rw[show decide ((i:Int)<(x1.length:Int))=true from decide_eq_true (by omega),cond_true,zcC (by omega),W_of (by omega) (by omega),ih (i+1) n (acc+y) (by rw[<- List.drop_drop,hd];rfl) (by omega) (by simp at hn;omega) hnn.2 (by omega) (by omega) hl];simp only[sumI,Int.add_assoc]
theorem ziY {m M:Nat}{e:EditionM}(h:EdOK m e){k:Int}(h0:0<=k)(hk:k<=e.places.length)(hM:m+2<=M)(hm:m<=1000):f64 M e k=some (e.rest k):=by
 have hle:=h.le;have hs:=zl3 h.nn k.toNat;have h5:=h.sums;unfold f64 zau;obtain⟨j,rfl⟩:∃ j:Nat,k=j:=⟨k.toNat,by omega⟩;rw[zjK (by omega) (by omega)];simp only[zyQ,List.take_length];have:=ztW (k0:=zhy) (x1:=e.places.drop j) (e.places.drop j) 0 M 0 rfl (by omega) (by simp;omega) (λ k hk=>h.nn k (List.mem_of_mem_drop hk)) (by omega) (by simp at hs;omega) (by simp;omega);exact this.trans (by simp[zhy,EditionM.rest])
theorem znm {α:Type}{l:List α}(h:l.length<=1000):lenM l=some l.length:=by
 unfold lenM;rw[if_pos (by simp only[maxLen];omega)]
section
variable {n m:Nat} {S:TS} {E:TE} {C:TC}
theorem ShOK.gS (h:ShOK n S E C){i:Nat}{a:StoneM}(ha:getF S i=some a):StOK E a:=by
 obtain⟨q,hq,rfl⟩:=zeK ha;exact h.st q (zyU hq)
theorem ShOK.gE (h:ShOK n S E C){j:Nat}{e:EditionM}(he:getF E j=some e):EdOK n e:=by
 obtain⟨q,hq,rfl⟩:=zeK he;exact(h.ed q (zyU hq)).1
theorem StOK.getE {a:StoneM}(h:StOK E a){j:Nat}(hj:a.of=some j):∃ e,getF E j=some e/\0<=a.place/\a.place+1<e.places.length:=by
 obtain⟨q,h1,h2,h3⟩:=h.pl j hj;exact⟨q.2,za2.2 ⟨q.1,h1⟩,h2,h3⟩
theorem w198 (h:ShOK n S E C)(x:NewStone):f198 (m+1) x S E C=some (zaK S E C (.c199 x)):=by
 have:=h.sl;simp only[f198,zto,zaK]
 cases hl:zaA x.name S with
 | some i=>simp[onO]
 | none =>
  simp only[onO,znm (l:=S) (by omega),zyQ,zaR,decide_eq_true_eq];by_cases h8:S.length=8
  .rw [if_pos (by omega)];simp[h8]
  .rw [if_neg (by omega)];simp[h8]
theorem w200 (h:ShOK n S E C)(x:NewEdition):f200 (m+1) x S E C=some (zaK S E C (.c201 x)):=by
 have:=h.el;simp only[f200,ztp,zaK]
 cases hl:zaA x.name E with
 | some i=>simp[onO]
 | none =>
  simp only[onO,znm (l:=E) (by omega),zyQ,zaR,decide_eq_true_eq];by_cases h8:E.length=5
  .rw [if_pos (by omega)];simp[h8]
  .rw [if_neg (by omega)];simp[h8]
theorem w202 (h:ShOK n S E C)(x:Drawing):f202 (m+1) x S E C=some (zaK S E C (.c203 x)):=by
 simp only[f202,ztq,zaK,stO,edO]
 cases hl:zaA x.stone S with
 | none=>cases hE:zaA x.edition E <;> simp[onO]
 | some i =>
  obtain⟨a,ha⟩:=zaP hl
  cases hE:zaA x.edition E with
  | none=>simp[onO,ha]
  | some j =>
   obtain⟨e,he⟩:=zaP hE;simp only[onO,ha,he,zyQ]
   cases hof:a.of with
   | some q=>simp
   | none=>cases hc:e.closed <;> simp[hc]
theorem w204 (h:ShOK n S E C)(x:Paper)(ho:zc3 (.c205 x)):f204 (m+1) x S E C=some (zaK S E C (.c205 x)):=by
 simp only[f204,ztr,zaK,edO]
 cases hE:zaA x.edition E with
 | none=>simp[onO]
 | some j =>
  obtain⟨e,he⟩:=zaP hE;have hK:=h.gE he;have h1:=hK.pp;have h2:=hK.sm;have h3:=zcZ hK.nn;have h4:=hK.dl;have h5:=hK.sp;obtain⟨o1,o2⟩:=ho;simp only[onO,he,zyQ,zaR,decide_eq_true_eq];rw[W_of (by omega) (by omega)]
  split
  .rfl
  .split <;> rfl
theorem EdOK.at_ {e:EditionM}(h:EdOK n e){k:Int}(h0:0<=k)(hk:k<e.places.length):ix e.places k=some (e.at_ k)/\0<=e.at_ k/\e.at_ k<=5000:=by
 obtain⟨j,rfl⟩:∃ j:Nat,k=j:=⟨k.toNat,by omega⟩
 have hj:j<e.places.length:=by omega
 have hx:e.places[j]? = some e.places[j]:=by simp[hj]
 have h1:=zrJ h.nn hx;have h2:=h.nn _ (zyU hx);have h3:=h.sums
 have he:e.at_ j=e.places[j]:=by simp only[EditionM.at_,Int.toNat_natCast,hx,Option.getD_some]
 rw[he,zbk,hx];exact⟨rfl,h2,by omega⟩
theorem EdOK.last_ {e:EditionM}(h:EdOK n e)(hn:n<=1000):ix e.places (W ((e.places.length:Int)-1))=some e.last/\0<=e.last/\e.last<=5000:=by
 have h1:=h.ne;have h2:=h.le;rw[W_of (by omega) (by omega)];have:=h.at_ (k:=(e.places.length:Int)-1) (by omega) (by omega)
 have he:e.last=e.at_ ((e.places.length:Int)-1):=by
  unfold EditionM.last EditionM.at_;rw[show ((e.places.length:Int)-1).toNat=e.places.length-1 by omega]
 rw[he];exact this
theorem w206 (h:ShOK n S E C)(x:Printing)(ho:zc3 (.c207 x))(hn:n<=1000):f206 (m+1) x S E C=some (zaK S E C (.c207 x)):=by
 obtain⟨o1,o2,o3,o4⟩:=ho;simp only[f206,zts,zaK,stO]
 cases hl:zaA x.stone S with
 | none=>simp[onO]
 | some i =>
  obtain⟨a,ha⟩:=zaP hl;simp only[onO,ha,zyQ]
  cases hof:a.of with
  | none=>rfl
  | some j =>
   obtain⟨e,he,h0,h1⟩:=(h.gS ha).getE hof;have hK:=h.gE he;obtain⟨hi,_,_⟩:=hK.at_ h0 (by omega);simp only[he,hi,zyQ,zaR,decide_eq_true_eq];rw[W_of (by omega) (by omega)]
   split
   .rfl
   .split <;> rfl
theorem w208 (h:ShOK n S E C)(x:Closing):f208 (m+1) x S E C=some (zaK S E C (.c209 x)):=by
 simp only[f208,ztt,zaK,edO]
 cases hE:zaA x.edition E with
 | none=>simp[onO]
 | some j =>
  obtain⟨e,he⟩:=zaP hE;simp only[onO,he,zyQ,zaR,decide_eq_true_eq]
  split
  .rfl
  by_cases h1:e.places.length=1
  .rw [if_pos (by omega),if_pos h1]
  .rw [if_neg (by omega),if_neg h1]
theorem w210 (h:ShOK n S E C)(x:Claiming)(ho:zc3 (.c211 x))(hn:n<=1000)(hm:n+2<=m):f210 (m+1) x S E C=some (zaK S E C (.c211 x)):=by
 obtain⟨o1,o2⟩:=ho;have hcl:=h.cl;simp only[f210,ztE,zaK,edO]
 cases hE:zaA x.edition E with
 | none=>simp[onO]
 | some j =>
  obtain⟨e,he⟩:=zaP hE;have hK:=h.gE he;have h1:=hK.f0;have h2:=hK.fl;have h3:=hK.ob;have h4:=hK.os
  have h5:0<=e.open_:=by
   rw[h4];exact zcZ λ k hk=>by obtain⟨p,hp,rfl⟩:=List.mem_map.1 hk;exact hK.ow p hp
  simp only[onO,he,zyQ,zaR,decide_eq_true_eq,znm (l:=C) (by omega),ziY hK h1 (by omega) hm hn];rw[W_of (by omega) (by omega)]
  cases hc:(zbB false x.customer C).1
  .simp only[Bool.not_false,if_true,true_and]
   by_cases h6:C.length=6
   .rw [if_pos (by omega),if_pos h6]
   .rw [if_neg (by omega),if_neg h6];split <;> rfl
  .simp only[Bool.not_true,Bool.false_eq_true,if_false,reduceCtorEq,false_and];split <;> rfl
theorem w212 (h:ShOK n S E C)(x:Delivery)(hn:n<=1000):f212 (m+1) x S E C=some (zaK S E C (.c213 x)):=by
 simp only[f212,ztF,zaK,edO]
 cases hE:zaA x.claiming.edition E with
 | none=>simp[onO]
 | some j =>
  obtain⟨e,he⟩:=zaP hE;have hK:=h.gE he;simp only[onO,he,zyQ,zaR,decide_eq_true_eq,(hK.last_ hn).1]
  cases hc:(zbB 0 x.claiming.customer e.owed).2
  .simp
  .cases hcl:e.closed
   .simp
   .simp only[Bool.not_true,Bool.false_eq_true,if_false,reduceCtorEq]
    split
    .rfl
    .split <;> rfl
theorem w215 (h:ShOK n S E C)(x:Grinding)(hn:n<=1000)(hm:n+2<=m):f215 (m+1) x S E C=some (zaK S E C (.c215 x)):=by
 simp only[f215,ztG,zaK,stO]
 cases hl:zaA x.stone S with
 | none=>simp[onO]
 | some i =>
  obtain⟨a,ha⟩:=zaP hl;simp only[onO,ha,zyQ]
  cases hof:a.of with
  | none=>rfl
  | some j =>
   obtain⟨e,he,h0,h1⟩:=(h.gS ha).getE hof;have hK:=h.gE he;have h2:=hK.f0;have h3:=hK.fl;have h4:=hK.le;rw[W_of (by omega) (by omega)];simp only[he,zyQ,zaR,decide_eq_true_eq,ziY hK h2 (by omega) hm hn,ziY hK (k:=max e.from_ (a.place+1)) (by omega) (by omega) hm hn]
   cases hcl:e.closed
   .simp
   .simp only[Bool.not_true,Bool.false_eq_true,if_false,reduceCtorEq]
    by_cases ha1:e.rest (max e.from_ (a.place+1))<e.rest e.from_
    .by_cases hb1:e.rest (max e.from_ (a.place+1))<e.open_
     .simp [ha1,hb1]
     .by_cases ht:a.thick=1 <;> simp[ha1,hb1,ht]
    .by_cases ht:a.thick=1 <;> simp[ha1,ht]
end
end Go.Vc
namespace Go.Vc
open Go.Proofs
theorem zaE {n:Int}(h : -1000000<=n)(h':n<=1000000):W n=n:=W_of (by omega) (by omega)
theorem zke {l:List Int}{i:Nat}{x:Int}(h:i<l.length):setx l (i:Int) x=some (l.set i x):=by
 unfold setx;rw[if_pos ⟨by omega,by omega⟩];simp
section
variable {n m:Nat} {S:TS} {E:TE} {C:TC}
theorem d197 {x:NewStone}(hw:zaK S E C (.c199 x)=0):f197 (m+1) x S E C=some (doM S E C (.c199 x)).1:=by
 simp only[zaK] at hw;simp only[f197,ztu,insF,doM]
 cases hl:zaA x.name S with
 | some i=>rw[hl] at hw;simp at hw
 | none=>rfl
theorem d199 {x:NewEdition}(hw:zaK S E C (.c201 x)=0):f199 (m+1) x S E C=some (doM S E C (.c201 x)).2.1:=by
 simp only[zaK] at hw;simp only[f199,ztv,insF,doM]
 cases hl:zaA x.name E with
 | some i=>rw[hl] at hw;simp at hw
 | none=>rfl
theorem d201 (h:ShOK n S E C)(hn:n<=1000){x:Drawing}(hw:zaK S E C (.c203 x)=0):f201 (m+1) x S E C=some ((doM S E C (.c203 x)).1,(doM S E C (.c203 x)).2.1):=by
 simp only[zaK,stO,edO] at hw;simp only[f201,ztw,doM]
 cases hl:zaA x.stone S with
 | none=>rw[hl] at hw;simp at hw
 | some i =>
  cases hE:zaA x.edition E with
  | none=>rw[hl,hE] at hw;obtain⟨a,ha⟩:=zaP hl;simp[ha] at hw
  | some j =>
   obtain⟨a,ha⟩:=zaP hl;obtain⟨e,he⟩:=zaP hE;have hK:=h.gE he;have h1:=hK.ne;have h2:=hK.le;simp only[onO,ha,he,zyQ,Option.map_some,Option.getD_some];rw[zeQ (by simp;omega) (by simp;omega),zaE (by omega) (by omega)];simp only[zyQ,zeq];rw[<- zcH ha,<- zcH he]
theorem d203 (h:ShOK n S E C){x:Paper}(ho:zc3 (.c205 x))(hw:zaK S E C (.c205 x)=0):f203 (m+1) x S E C=some (doM S E C (.c205 x)).2.1:=by
 obtain⟨o1,o2⟩:=ho;simp only[zaK,edO] at hw;simp only[f203,ztx,doM]
 cases hE:zaA x.edition E with
 | none=>rw[hE] at hw;simp at hw
 | some j =>
  obtain⟨e,he⟩:=zaP hE;have hK:=h.gE he;have h1:=hK.ne;obtain⟨a1,a2,a3⟩:=hK.at_ (k:=0) (by omega) (by omega);have h3:=hK.pp;have h4:=hK.sm;have h5:=zcZ hK.nn;have h6:=hK.dl;have h7:=hK.sp;simp only[onO,he,zyQ,a1];rw[zaE (by omega) (by omega),zaE (by omega) (by omega),show (0:Int)=((0:Nat):Int) from rfl,zke (by omega)];simp only[zyQ,zeq];rw[<- zcH he]
theorem d205 (h:ShOK n S E C)(hn:n<=1000){x:Printing}(ho:zc3 (.c207 x))(hw:zaK S E C (.c207 x)=0):f205 (m+1) x S E C=some (doM S E C (.c207 x)).2.1:=by
 obtain⟨o1,o2,o3,o4⟩:=ho;simp only[zaK,stO] at hw;simp only[f205,zty,doM,stO]
 cases hl:zaA x.stone S with
 | none=>rw[hl] at hw;simp at hw
 | some i =>
  obtain⟨a,ha⟩:=zaP hl;rw[hl] at hw;simp only[onO,ha,zyQ] at hw ⊢
  cases hof:a.of with
  | none=>rw[hof] at hw;simp at hw
  | some j =>
   obtain⟨e,he,h0,h1⟩:=(h.gS ha).getE hof;have hK:=h.gE he;have h2:=hK.le;obtain⟨a1,a2,a3⟩:=hK.at_ h0 (by omega);obtain⟨b1,b2,b3⟩:=hK.at_ (k:=a.place+1) (by omega) (by omega);have hs:=hK.sm;have hp:=hK.pp;have hd:=hK.dl;have hsp:=hK.sp;have hss:=zcZ hK.nn;simp only[he,zyQ,a1];obtain⟨p,hp⟩:∃ p:Nat,a.place=p:=⟨a.place.toNat,by omega⟩;rw[hp] at h0 h1 a2 a3 b1 b2 b3 ⊢;rw[zaE (n:=x.good+x.spoilt) (by omega) (by omega),zaE (n:=e.at_ p-(x.good+x.spoilt)) (by omega) (by omega),zke (by omega),zaE (n:=(p:Int)+1) (by omega) (by omega)];simp only[zyQ]
   have hq:ix (e.places.set p (e.at_ p-(x.good+x.spoilt))) ((p:Int)+1)=some (e.at_ ((p:Int)+1)):=by
    rw[show (p:Int)+1=((p+1:Nat):Int) from rfl,zbk,List.getElem?_set_ne (by omega),<- zbk];exact b1
   rw[hq];simp only[zyQ];rw[zaE (n:=e.at_ ((p:Int)+1)+x.good) (by omega) (by omega),zaE (n:=e.spoilt+x.spoilt) (by omega) (by omega),show (p:Int)+1=((p+1:Nat):Int) from rfl,zke (by simp;omega)];simp only[zyQ,zeq];rw[<- zcH he];simp[hp]
theorem d207 {x:Closing}(hw:zaK S E C (.c209 x)=0):f207 (m+1) x S E C=some (doM S E C (.c209 x)).2.1:=by
 simp only[zaK,edO] at hw;simp only[f207,ztz,doM]
 cases hE:zaA x.edition E with
 | none=>rw[hE] at hw;simp at hw
 | some j =>
  obtain⟨e,he⟩:=zaP hE;simp only[onO,he,zyQ];rw[<- zcH he]
theorem zl5 {κ ν:Type}[DecidableEq κ]{z:ν}{k:κ}{l:List (κ×ν)}:((zbB z k l).2=true/\∃ p,p∈l/\p.1=k/\p.2=(zbB z k l).1)∨zbB z k l=(z,false):=by
 induction l with
 | nil=>exact .inr rfl
 | cons p r ih =>
  simp only[zbB]
  split
  .rename_i h;exact .inl ⟨rfl,p,List.mem_cons_self,h,rfl⟩
  .rcases ih with ⟨h1,q,h2,h3⟩|h
   .exact .inl ⟨h1,q,List.mem_cons_of_mem _ h2,h3⟩
   .exact .inr h
theorem EdOK.owed_b {e:EditionM}(h:EdOK n e)(k:ByteArray):0<=(zbB 0 k e.owed).1/\(zbB 0 k e.owed).1<=5000:=by
 have hs:∀ l:List (ByteArray×Int),(∀ p,p∈l->0<=p.2)->∀ p,p∈l->p.2<=sumI (l.map (·.2)):=by
  intro l hl p hp;obtain⟨i,hi⟩:=List.getElem?_of_mem hp;exact zrJ (i:=i) (λ k hk=>by obtain⟨q,hq,rfl⟩:=List.mem_map.1 hk;exact hl q hq) (by simp[hi])
 rcases zl5 (z:=0) (k:=k) (l:=e.owed) with ⟨_,p,hp,_,h2⟩|h2
 .have:=hs _ h.ow p hp
  have:=h.ow p hp;have:=h.os;have:=h.ob;rw[<- h2];omega
 .rw [h2];simp
theorem EdOK.open0 {e:EditionM}(h:EdOK n e):0<=e.open_:=by
 rw[h.os];exact zcZ λ k hk=>by obtain⟨p,hp,rfl⟩:=List.mem_map.1 hk;exact h.ow p hp
theorem d209 (h:ShOK n S E C){x:Claiming}(ho:zc3 (.c211 x))(hw:zaK S E C (.c211 x)=0):f209 (m+1) x S E C=some ((doM S E C (.c211 x)).2.1,(doM S E C (.c211 x)).2.2):=by
 obtain⟨o1,o2⟩:=ho;simp only[zaK,edO] at hw;simp only[f209,ztA,doM]
 cases hE:zaA x.edition E with
 | none=>rw[hE] at hw;simp at hw
 | some j =>
  obtain⟨e,he⟩:=zaP hE;have hK:=h.gE he;have h1:=hK.owed_b x.customer;have h2:=hK.open0;have h3:=hK.ob;simp only[onO,he,zyQ];rw[zaE (n:=(zbB 0 x.customer e.owed).1+x.n) (by omega) (by omega),zaE (n:=e.open_+x.n) (by omega) (by omega)];simp only[zeq];rw[<- zcH he]
theorem d211 (h:ShOK n S E C)(hn:n<=1000){x:Delivery}(ho:zc3 (.c213 x))(hw:zaK S E C (.c213 x)=0):f211 (m+1) x S E C=some (doM S E C (.c213 x)).2.1:=by
 obtain⟨o1,o2⟩:=ho;simp only[zaK,edO] at hw;simp only[f211,ztH,doM]
 cases hE:zaA x.claiming.edition E with
 | none=>rw[hE] at hw;simp at hw
 | some j =>
  obtain⟨e,he⟩:=zaP hE;have hK:=h.gE he;have h1:=hK.owed_b x.claiming.customer;have h2:=hK.open0;have h3:=hK.ob;have hs:=hK.sm;have hp:=hK.pp;have hd:=hK.dl;have hsp:=hK.sp;have hss:=zcZ hK.nn;obtain⟨a1,a2,a3⟩:=hK.last_ hn;have hne:=hK.ne;have hle:=hK.le;simp only[onO,he,zyQ,a1];rw[zaE (n:=(zbB 0 x.claiming.customer e.owed).1-x.claiming.n) (by omega) (by omega),zaE (n:=e.open_-x.claiming.n) (by omega) (by omega),zaE (n:=e.delivered+x.claiming.n) (by omega) (by omega),zaE (n:=e.last-x.claiming.n) (by omega) (by omega),zaE (n:=(e.places.length:Int)-1) (by omega) (by omega),show (e.places.length:Int)-1=((e.places.length-1:Nat):Int) by omega,zke (by omega)];simp only[zyQ,zeq];rw[<- zcH he]
theorem d214 (h:ShOK n S E C)(hn:n<=1000){x:Grinding}(hw:zaK S E C (.c215 x)=0):f214 (m+1) x S E C=some ((doM S E C (.c215 x)).1,(doM S E C (.c215 x)).2.1):=by
 simp only[zaK,stO] at hw;simp only[f214,ztB,doM]
 cases hl:zaA x.stone S with
 | none=>rw[hl] at hw;simp at hw
 | some i =>
  obtain⟨a,ha⟩:=zaP hl;rw[hl] at hw;simp only[onO,ha,zyQ] at hw ⊢
  cases hof:a.of with
  | none=>rw[hof] at hw;simp at hw
  | some j =>
   obtain⟨e,he,h0,h1⟩:=(h.gS ha).getE hof;have hK:=h.gE he;have h2:=hK.le;have h3:=(h.gS ha).t1;have h4:=(h.gS ha).t9;simp only[he,zyQ,Option.map_some,Option.getD_some];rw[zaE (n:=a.place+1) (by omega) (by omega),zaE (n:=a.thick-1) (by omega) (by omega)];rw[<- zcH ha,<- zcH he]
end
end Go.Vc
namespace Go.Vc
open Go.Proofs
section
variable {n m:Nat} {S:TS} {E:TE} {C:TC}
theorem EdOK.up {e:EditionM}(h:EdOK n e):EdOK (n+1) e:=⟨h.ne,by have:=h.le;omega,h.nn,h.sm,h.pp,h.dl,h.sp,h.f0,h.fl,h.ow,h.os,h.ob⟩
theorem zkf {k:ByteArray}{a:StoneM}(h:stO S k=some a):∃ i,zaA k S=some i/\getF S i=some a:=by
 unfold stO at h;obtain⟨i,h1,h2⟩:=Option.bind_eq_some_iff.1 h;exact⟨i,h1,h2⟩
theorem zeL {k:ByteArray}{e:EditionM}(h:edO E k=some e):∃ i,zaA k E=some i/\getF E i=some e:=by
 unfold edO at h;obtain⟨i,h1,h2⟩:=Option.bind_eq_some_iff.1 h;exact⟨i,h1,h2⟩
theorem ShOK.modE (h:ShOK n S E C){j:Nat}{e:EditionM}(he:getF E j=some e)(f:EditionM->EditionM)(hf:EdOK (n+1) (f e))(hn:(f e).name=e.name)(hl:e.places.length<=(f e).places.length):ShOK (n+1) S (modF E j f) C where
 sl:=h.sl
 el:=by rw[zoq];exact h.el
 cl:=h.cl
 sk:=h.sk
 ek:=by rw[zl4];exact h.ek
 st:=λ p hp=>⟨(h.st p hp).t1,(h.st p hp).t9,λ j' hj' => by
  obtain⟨q,h1,h2,h3⟩:=(h.st p hp).pl j' hj';rw[zkd]
  split
  .rename_i hjj
   subst hjj;obtain⟨q',hq',hqe⟩:=zeK he;rw[h1] at hq';cases hq';refine⟨_,by rw[h1];rfl,h2, ?_⟩;show p.2.place+1<((f q.2).places.length:Int);rw[hqe];rw[hqe] at h3;omega
  .exact ⟨q,h1,h2,h3⟩⟩
 ed:=λ p hp=>by
  rcases zor hp with hp|⟨q,h1,rfl⟩
  .exact ⟨(h.ed p hp).1.up,(h.ed p hp).2⟩
  .obtain ⟨q',hq',hqe⟩:=zeK he
   rw[h1] at hq';cases hq';have:=(h.ed q (zyU h1)).2;show EdOK (n+1) (f q.2)/\(f q.2).name=q.1;rw[hqe];rw[hqe] at this;exact⟨hf,hn.trans this⟩
theorem ShOK.up (h:ShOK n S E C):ShOK (n+1) S E C:=⟨h.sl,h.el,h.cl,h.sk,h.ek,h.st,λ p hp=>⟨(h.ed p hp).1.up,(h.ed p hp).2⟩⟩
theorem ShOK.modS (h:ShOK n S E C){i:Nat}{a:StoneM}(ha:getF S i=some a)(f:StoneM->StoneM)(hf:StOK E (f a)):ShOK n (modF S i f) E C where
 sl:=by rw[zoq];exact h.sl
 el:=h.el
 cl:=h.cl
 sk:=by rw[zl4];exact h.sk
 ek:=h.ek
 st:=λ p hp=>by
  rcases zor hp with hp|⟨q,h1,rfl⟩
  .exact h.st p hp
  .obtain ⟨q',hq',hqe⟩:=zeK ha
   rw[h1] at hq';cases hq';show StOK E (f q.2);rw[hqe];exact hf
 ed:=h.ed
theorem zl6 {α κ:Type}[DecidableEq κ]{l:List (κ×α)}{k:κ}{x:α}(h:(l.map (·.1)).Nodup)(hk:zaA k l=none):((l++[(k,x)]).map (·.1)).Nodup:=by
 rw[List.map_append,List.nodup_append];refine⟨h,by simp, ?_⟩;intro a ha b hb;simp only[List.map_cons,List.map_nil,List.mem_cons,List.not_mem_nil,or_false] at hb;subst hb;obtain⟨p,hp,rfl⟩:=List.mem_map.1 ha;exact ziN.1 hk p hp
theorem zos {κ ν:Type}[DecidableEq κ]{z:ν}{k:κ}{v:ν}:∀ l:List (κ×ν),(setK k v l).length=if (zbB z k l).2=true then l.length else l.length+1
 | []=>rfl
 | p::r=>by
  simp only[setK,zbB]
  split
  .simp
  .simp only[List.length_cons,zos (z:=z) r];split <;> omega
theorem zkg {k:ByteArray}{v:Int}:∀ l:List (ByteArray×Int),sumI ((setK k v l).map (·.2))=sumI (l.map (·.2))-(zbB 0 k l).1+v
 | []=>by simp[setK,zbB,sumI]
 | p::r=>by
  simp only[setK,zbB]
  split
  .simp only[List.map_cons,sumI];omega
  .have:=zkg (k:=k) (v:=v) r
   simp only[List.map_cons,sumI,this];omega
theorem zkh {κ ν:Type}[DecidableEq κ]{k:κ}{v:ν}:∀ {l:List (κ×ν)} {p:κ×ν},p∈setK k v l->p∈l∨p=(k,v)
 | [],p,h=>by simp[setK] at h;exact .inr h
 | q::r,p,h=>by
  simp only[setK] at h
  split at h
  .rcases List.mem_cons.1 h with rfl|h
   .exact .inr rfl
   .exact .inl (List.mem_cons_of_mem _ h)
  .rcases List.mem_cons.1 h with rfl|h
   .exact .inl List.mem_cons_self
   .rcases zkh h with h|h
    .exact .inl (List.mem_cons_of_mem _ h)
    .exact .inr h
theorem zki {l:List Int}{i:Nat}{x y:Int}(h:y∈l.set i x):y∈l∨y=x:=by
 rcases List.mem_or_eq_of_mem_set h with h|h
 .exact .inl h
 .exact .inr h
theorem zrK {e:EditionM}{k:Nat}(h:k<e.places.length):e.places[k]? = some (e.at_ k):=by
 simp[EditionM.at_,h]
theorem zv6 (h:ShOK n S E C){o:I97}(ho:zc3 o)(hw:zaK S E C o=0):ShOK (n+1) (doM S E C o).1 (doM S E C o).2.1 (doM S E C o).2.2:=by
 cases o with
 | nil=>exact ho.elim
 | c199 x =>
  simp only[zaK] at hw
  have hl:zaA x.name S=none:=by
   cases hl:zaA x.name S with
   | some i=>rw[hl] at hw;simp at hw
   | none=>rfl
  rw[hl] at hw
  have h8:S.length≠8:=by intro h8;simp[h8] at hw
  have hs:=h.sl;refine⟨by simp[doM];omega,h.el,h.cl,zl6 h.sk hl,h.ek,λ p hp=>?_,h.up.ed⟩;simp only[doM,List.mem_append,List.mem_singleton] at hp
  rcases hp with hp|rfl
  .exact h.st p hp
  .exact ⟨ho.1,ho.2,λ j hj=>by cases hj⟩
 | c201 x =>
  simp only[zaK] at hw
  have hl:zaA x.name E=none:=by
   cases hl:zaA x.name E with
   | some i=>rw[hl] at hw;simp at hw
   | none=>rfl
  rw[hl] at hw
  have h8:E.length≠5:=by intro h8;simp[h8] at hw
  have hs:=h.el;refine⟨h.sl,by simp[doM];omega,h.cl,h.sk,zl6 h.ek hl,λ p hp=>⟨(h.st p hp).t1,(h.st p hp).t9,λ j hj=>?_⟩,λ p hp=>?_⟩
  .obtain ⟨q,h1,h2⟩:=(h.st p hp).pl j hj
   refine⟨q, ?_,h2⟩;simp only[doM];rw[List.getElem?_append_left (zyR.1 h1).1];exact h1
  .simp only[doM,List.mem_append,List.mem_singleton] at hp
   rcases hp with hp|rfl
   .exact h.up.ed p hp
   .exact ⟨⟨by simp,by simp,by simp,by simp[sumI],by simp,by simp,by simp,by simp,by simp,by simp,by simp[sumI],by simp⟩,rfl⟩
 | c203 x =>
  simp only[zaK] at hw
  cases hS:stO S x.stone with
  | none=>rw[hS] at hw;simp at hw
  | some a =>
   cases hE:edO E x.edition with
   | none=>rw[hS,hE] at hw;simp at hw
   | some e =>
    obtain⟨i,hi,ha⟩:=zkf hS;obtain⟨j,hj,he⟩:=zeL hE;have hK:=h.gE he;have h1:=hK.ne;have h2:=hK.le;have h3:=hK.fl;simp only[doM,hi,hj,he,Option.map_some,Option.getD_some]
    have hA:=h.modE (C:=C) he (λ e=>{ e with places:=e.places++[0] }) ⟨by simp,by simp;omega,by
     intro k hk
     rcases List.mem_append.1 hk with hk|hk
     .exact hK.nn k hk
     .simp at hk;omega,by simp only[zop,sumI];have:=hK.sm;omega,hK.pp,hK.dl,hK.sp,hK.f0,by simp;omega,hK.ow,hK.os,hK.ob⟩ rfl (by simp)
    refine hA.modS ha _ ⟨(h.gS ha).t1,(h.gS ha).t9,λ j' hj' => ?_⟩;obtain rfl:j=j':=Option.some.inj hj';obtain⟨q,hq,hqe⟩:=zeK he;refine⟨(q.1,{ q.2 with places:=q.2.places++[0] }),by rw[zkd,if_pos rfl,hq];rfl, ?_⟩;rw[<- hqe] at h1;simp only[List.length_append,List.length_cons,List.length_nil,<- hqe];omega
 | c205 x =>
  obtain⟨o1,o2⟩:=ho;simp only[zaK] at hw
  cases hE:edO E x.edition with
  | none=>rw[hE] at hw;simp at hw
  | some e =>
   rw[hE] at hw;obtain⟨j,hj,he⟩:=zeL hE;have hK:=h.gE he;have h1:=hK.ne;have hg:=zrK (e:=e) (k:=0) h1;have hnn:=hK.nn _ (zyU hg);dsimp only at hw
   split at hw
   .cases hw
   .split at hw
    .cases hw
    .simp only[doM,hj]
     refine h.modE he _ ⟨by simpa using h1,by simpa using hK.up.le,λ k hk=>?_, ?_,by dsimp only;omega,hK.dl,hK.sp,hK.f0,by simpa using hK.fl,hK.ow,hK.os,hK.ob⟩ rfl (by simp)
     .rcases zki hk with hk|rfl
      .exact hK.nn k hk
      .show 0<=e.at_ ((0:Nat):Int)+x.n
       omega
     .have:=hK.sm
      have:=zgP (y:=e.at_ ((0:Nat):Int)+x.n) hg;show sumI (e.places.set 0 (e.at_ ((0:Nat):Int)+x.n))+e.delivered+e.spoilt=e.paper+x.n;omega
 | c207 x =>
  obtain⟨o1,o2,o3,o4⟩:=ho;simp only[zaK] at hw
  cases hS:stO S x.stone with
  | none=>rw[hS] at hw;simp at hw
  | some a =>
   rw[hS] at hw;obtain⟨i,hi,ha⟩:=zkf hS
   cases hof:a.of with
   | none=>simp[hof] at hw
   | some j =>
    obtain⟨e,he,h0,h1⟩:=(h.gS ha).getE hof;have hK:=h.gE he;simp only[hof,he] at hw
    split at hw
    .cases hw
    .split at hw
     .cases hw
     .rename_i hz hlt
      simp only[doM,hS,hof];obtain⟨p,hp⟩:∃ p:Nat,a.place=p:=⟨a.place.toNat,by omega⟩;rw[hp] at h0 h1 hlt ⊢;have g0:=zrK (e:=e) (k:=p) (by omega);have g1:=zrK (e:=e) (k:=p+1) (by omega);have n1:=hK.nn _ (zyU g1);have hs:=zgP (y:=e.at_ p-(x.good+x.spoilt)) g0
      have g2:(e.places.set p (e.at_ p-(x.good+x.spoilt)))[p+1]? = some (e.at_ ((p+1:Nat):Int)):=by rw[List.getElem?_set_ne (by omega)];exact g1
      have hs2:=zgP (y:=e.at_ ((p+1:Nat):Int)+x.good) g2;have hsm:=hK.sm;have hsp:=hK.sp;refine h.modE he _ ⟨by simpa using hK.ne,by simpa using hK.up.le,λ k hk=>?_, ?_,hK.pp,hK.dl,by dsimp only;omega,hK.f0,by simpa using hK.fl,hK.ow,hK.os,hK.ob⟩ rfl (by simp)
      .rcases zki hk with hk|rfl
       .rcases zki hk with hk|rfl
        .exact hK.nn k hk
        .omega
       .show 0<=e.at_ ((p+1:Nat):Int)+x.good
        omega
      .show sumI ((e.places.set p (e.at_ p-(x.good+x.spoilt))).set (p+1) (e.at_ ((p+1:Nat):Int)+x.good))+e.delivered+(e.spoilt+x.spoilt)=e.paper
       omega
 | c209 x =>
  simp only[zaK] at hw
  cases hE:edO E x.edition with
  | none=>rw[hE] at hw;simp at hw
  | some e =>
   obtain⟨j,hj,he⟩:=zeL hE;have hK:=h.gE he;simp only[doM,hj];exact h.modE he _ ⟨hK.ne,hK.up.le,hK.nn,hK.sm,hK.pp,hK.dl,hK.sp,hK.f0,hK.fl,hK.ow,hK.os,hK.ob⟩ rfl (Nat.le_refl _)
 | c211 x =>
  obtain⟨o1,o2⟩:=ho;simp only[zaK] at hw
  cases hE:edO E x.edition with
  | none=>rw[hE] at hw;simp at hw
  | some e =>
   rw[hE] at hw;obtain⟨j,hj,he⟩:=zeL hE;have hK:=h.gE he;have hr:=hK.rest_b e.from_;have hb:=hK.owed_b x.customer;dsimp only at hw
   split at hw
   .cases hw
   .split at hw
    .cases hw
    .rename_i hc hlt
     simp only[doM,hj]
     have hM:=h.modE (C:=C) he (λ e=>{ e with owed:=setK x.customer ((zbB 0 x.customer e.owed).1+x.n) e.owed,open_:=e.open_+x.n }) ⟨hK.ne,hK.up.le,hK.nn,hK.sm,hK.pp,hK.dl,hK.sp,hK.f0,hK.fl,λ p hp=>by
       rcases zkh hp with hp|rfl
       .exact hK.ow p hp
       .dsimp only;omega,by
       have:=hK.os;show e.open_+x.n=sumI ((setK x.customer ((zbB 0 x.customer e.owed).1+x.n) e.owed).map (·.2))
       rw[zkg];omega,by dsimp only;omega⟩ rfl (Nat.le_refl _)
     refine⟨hM.sl,hM.el, ?_,hM.sk,hM.ek,hM.st,hM.ed⟩;rw[zos (z:=false)];have hcl:=h.cl
     split
     .exact hcl
     .rename_i hk
      have:(zbB false x.customer C).1=false:=by
       rcases zl5 (z:=false) (k:=x.customer) (l:=C) with ⟨h1,_⟩|h1
       .exact absurd h1 hk
       .rw [h1]
      have:C.length≠6:=λ h6=>hc ⟨this,h6⟩;omega
 | c213 x =>
  obtain⟨o1,o2⟩:=ho;simp only[zaK] at hw
  cases hE:edO E x.claiming.edition with
  | none=>rw[hE] at hw;simp at hw
  | some e =>
   rw[hE] at hw;obtain⟨j,hj,he⟩:=zeL hE;have hK:=h.gE he;dsimp only at hw
   split at hw
   .cases hw
   .split at hw
    .cases hw
    .split at hw
     .cases hw
     .split at hw
      .cases hw
      .rename_i h1 h2 h3 h4
       simp only[doM,hj];have hne:=hK.ne
       have hg:e.places[e.places.length-1]? = some e.last:=by
        unfold EditionM.last;rw[zyS (by omega)];rfl
       have hs:=zgP (y:=e.last-x.claiming.n) hg;have hsm:=hK.sm;have hdl:=hK.dl;have hos:=hK.os;have hob:=hK.ob;refine h.modE he _ ⟨by simpa using hK.ne,by simpa using hK.up.le,λ k hk=>?_, ?_,hK.pp,by dsimp only;omega,hK.sp,hK.f0,by simpa using hK.fl,λ p hp=>?_, ?_,by dsimp only;omega⟩ rfl (by simp)
       .rcases zki hk with hk|rfl
        .exact hK.nn k hk
        .omega
       .show sumI (e.places.set (e.places.length-1) (e.last-x.claiming.n))+(e.delivered+x.claiming.n)+e.spoilt=e.paper
        omega
       .rcases zkh hp with hp|rfl
        .exact hK.ow p hp
        .dsimp only;omega
       .show e.open_-x.claiming.n=sumI ((setK x.claiming.customer ((zbB 0 x.claiming.customer e.owed).1-x.claiming.n) e.owed).map (·.2))
        rw[zkg];omega
 | c215 x =>
  simp only[zaK] at hw
  cases hS:stO S x.stone with
  | none=>rw[hS] at hw;simp at hw
  | some a =>
   rw[hS] at hw;obtain⟨i,hi,ha⟩:=zkf hS
   cases hof:a.of with
   | none=>simp[hof] at hw
   | some j =>
    obtain⟨e,he,h0,h1⟩:=(h.gS ha).getE hof;have hK:=h.gE he;simp only[hof,he] at hw
    split at hw
    .cases hw
    .split at hw
     .cases hw
     .split at hw
      .cases hw
      .rename_i ht
       have t1:=(h.gS ha).t1;have t9:=(h.gS ha).t9;have f0:=hK.f0;have fl:=hK.fl;simp only[doM,hi,ha,zyQ,hof,Option.map_some,Option.getD_some];have hM:=h.modE (C:=C) he (λ e=>{ e with from_:=max e.from_ (a.place+1) }) ⟨hK.ne,hK.up.le,hK.nn,hK.sm,hK.pp,hK.dl,hK.sp,by dsimp only;omega,by dsimp only;omega,hK.ow,hK.os,hK.ob⟩ rfl (Nat.le_refl _);exact hM.modS ha _ ⟨by dsimp only;omega,by dsimp only;omega,λ j hj=>by cases hj⟩
end
end Go.Vc
namespace Go.Vc
open Go.Proofs
abbrev TL:=List ByteArray
structure Bk where
 L:TL
 S:TS
 E:TE
 C:TC
def Bk.new:Bk:=⟨[],[],[],[]⟩
structure BkOK (b:Bk):Prop where
 ll:b.L.length<=120
 sh:ShOK b.L.length b.S b.E b.C
theorem zot:BkOK Bk.new:=⟨by simp[Bk.new],by simp[Bk.new],by simp[Bk.new],by simp[Bk.new],by simp[Bk.new],by simp[Bk.new],λ p hp=>by simp[Bk.new] at hp,λ p hp=>by simp[Bk.new] at hp⟩
def errM (b:Bk)(r:I97×Int):Int:=if r.2=0 then (if zaK b.S b.E b.C r.1=0 then (if b.L.length=120 then 15 else 0) else zaK b.S b.E b.C r.1) else r.2
def goM (b:Bk)(y:ByteArray)(r:I97×Int):Bk:=if errM b r=0 then ⟨b.L++[y],(doM b.S b.E b.C r.1).1,(doM b.S b.E b.C r.1).2.1,(doM b.S b.E b.C r.1).2.2⟩ else b
theorem zyt {b:Bk}(h:BkOK b){y:ByteArray}{r:I97×Int}(hr:r.2=0->zc3 r.1):BkOK (goM b y r):=by
 unfold goM
 split
 .rename_i he
  unfold errM at he
  split at he
  .rename_i h0
   split at he
   .rename_i hw
    split at he
    .cases he
    .rename_i hl
     have:=h.ll;exact⟨by simp;omega,by simpa using zv6 h.sh (hr h0) hw⟩
   .rename_i hw;exact absurd he hw
  .rename_i h0;exact absurd he h0
 .exact h
section
variable {b:Bk} {y:ByteArray} {M:Nat} {r:I97×Int}
theorem ziu (e:Int):zhL b.L b.S b.E b.C r.1 e=some (r.1,if e=0 then (if b.L.length=120 then 15 else 0) else e):=by
 simp only[zhL,zaR,decide_eq_true_eq];by_cases h:e=0
 .subst h
  by_cases h2:b.L.length=120
  .simp [h2]
  .have:¬ (b.L.length:Int)=120:=by omega
   simp[h2,this]
 .simp [h]
theorem zuU (h:BkOK b)(hM:130<=M)(hr:f79 (M+1) y=some r)(ho:r.2=0->zc3 r.1):f51 (M+2) y b.L b.S b.E b.C=some (r.1,errM b r):=by
 have hl:=h.ll;have hs:=h.sh;simp only[f51,f51b,zau,hr,zyQ,errM,zaR,decide_eq_true_eq];obtain⟨o,e⟩:=r;dsimp only at ho hr ⊢;by_cases he:e=0
 .rw [if_pos he,if_pos he]
  have ho:=ho he
  cases o with
  | nil=>exact ho.elim
  | c199 x=>simp only[I97.on,w198 hs,zyQ];exact ziu (r:=(_,0)) _
  | c201 x=>simp only[I97.on,w200 hs,zyQ];exact ziu (r:=(_,0)) _
  | c203 x=>simp only[I97.on,w202 hs,zyQ];exact ziu (r:=(_,0)) _
  | c205 x=>simp only[I97.on,w204 hs x ho,zyQ];exact ziu (r:=(_,0)) _
  | c207 x=>simp only[I97.on,w206 hs x ho (by omega),zyQ];exact ziu (r:=(_,0)) _
  | c209 x=>simp only[I97.on,w208 hs,zyQ];exact ziu (r:=(_,0)) _
  | c211 x=>simp only[I97.on,w210 (m:=M) hs x ho (by omega) (by omega),zyQ];exact ziu (r:=(_,0)) _
  | c213 x=>simp only[I97.on,w212 hs x (by omega),zyQ];exact ziu (r:=(_,0)) _
  | c215 x=>simp only[I97.on,w215 (m:=M) hs x (by omega) (by omega),zyQ];exact ziu (r:=(_,0)) _
 .rw [if_neg he,if_neg he,ziu (r:=(o,e)),if_neg he]
theorem zyu (h:BkOK b)(hM:130<=M)(hr:f79 (M+1) y=some r)(ho:r.2=0->zc3 r.1):f17 (M+3) y b.L b.S b.E b.C=some (errM b r):=by
 simp only[f17,f17b,zuU h hM hr ho,zyQ]
def outM (e:Int)(b:Bk):Int×TS×TE×TC×TL:=(e,b.S,b.E,b.C,b.L)
theorem zrL (h:BkOK b)(hM:130<=M)(hr:f79 (M+1) y=some r)(ho:r.2=0->zc3 r.1):f18 (M+3) y b.L b.S b.E b.C=some (outM (errM b r) (goM b y r)):=by
 have hl:=h.ll;have hs:=h.sh;simp only[f18,f18b,zuU h hM hr ho,zyQ,goM,zaR,decide_eq_true_eq];by_cases he:errM b r=0
 .rw [if_neg (by omega),if_pos he]
  have h2:r.2=0/\zaK b.S b.E b.C r.1=0:=by
   unfold errM at he
   split at he
   .rename_i h0
    split at he
    .rename_i hw;exact⟨h0,hw⟩
    .rename_i hw;exact absurd he hw
   .rename_i h0;exact absurd he h0
  obtain⟨h0,hw⟩:=h2;have ho:=ho h0;have ha:app 16 b.L [y]=some (b.L++[y]):=zeQ (by simp;omega) (by simp;omega);rw[he];obtain⟨o,e⟩:=r;dsimp only at ho hw ⊢
  cases o with
  | nil=>exact ho.elim
  | c199 x=>simp only[I97.on,d197 hw,ha,zyQ];rfl
  | c201 x=>simp only[I97.on,d199 hw,ha,zyQ];rfl
  | c203 x =>
   simp only[I97.on,d201 hs (by omega) hw,ha,zyQ,outM]
   simp only[doM];split <;> rfl
  | c205 x =>
   simp only[I97.on,d203 hs ho hw,ha,zyQ,outM]
   simp only[doM];split <;> rfl
  | c207 x =>
   simp only[I97.on,d205 hs (by omega) ho hw,ha,zyQ,outM];simp only[doM]
   split
   .split <;> rfl
   .rfl
  | c209 x =>
   simp only[I97.on,d207 hw,ha,zyQ,outM]
   simp only[doM];split <;> rfl
  | c211 x =>
   simp only[I97.on,d209 hs ho hw,ha,zyQ,outM]
   simp only[doM];split <;> rfl
  | c213 x =>
   simp only[I97.on,d211 hs (by omega) ho hw,ha,zyQ,outM]
   simp only[doM];split <;> rfl
  | c215 x =>
   simp only[I97.on,d214 hs (by omega) hw,ha,zyQ,outM];simp only[doM]
   split
   .split <;> rfl
   .rfl
 .rw [if_pos he,if_neg he];rfl
end
end Go.Vc
