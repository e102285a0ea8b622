/-
  A library for proofs about Go functions by symbolic evaluation,and plain Lean functions that the walked Go functions compute (written by a program of this claim).
-/
import Derived.Test.YtijmkjnlgcockaaGreatDoorFRDF1
import Derived.Test.YtijmkjnlgcockaaGreatDoorFRDF2
set_option linter.unusedVariables false
set_option linter.unnecessarySimpa false
set_option linter.unusedSimpArgs false
namespace Go.Vc
open Go.Proofs
set_option maxRecDepth 20000 in
set_option maxHeartbeats 4000000 in
theorem P105:PureOK Tryz.prog 105 G105:=by
 refine zan (c:=zaq zai []) rfl tyOK (zac) [[0],[0]] 1 Tryz.func105 rfl rfl (by decide) (by kernel_rfl) ?_;rintro ds d ⟨N,a0,r,rfl,hF,rfl⟩ hok;clear hok;refine⟨rfl, ?_⟩;show vc _ _ _ _ ⟨[(0, .dat (strN a0))],[]⟩ _;unfold f105 at hF;exact wk4

set_option maxRecDepth 20000 in
set_option maxHeartbeats 4000000 in
theorem P88:PureOK Tryz.prog 88 G88:=by
 refine zan (c:=zaq zai []) rfl tyOK (zac) [[0]] 1 Tryz.func88 rfl rfl (by decide) (by kernel_rfl) ?_;rintro ds d ⟨N,a0,r,rfl,hF,rfl⟩ hok;clear hok;refine⟨rfl, ?_⟩;show vc _ _ _ _ ⟨[(0, .dat (strN a0))],[]⟩ _;unfold f88 at hF;exact wk4

set_option maxRecDepth 20000 in
set_option maxHeartbeats 4000000 in
theorem P108:PureOK Tryz.prog 108 G108:=by
 refine zan (c:=zaq zai []) rfl tyOK (zac) [[0]] 2 Tryz.func108 rfl rfl (by decide) (by kernel_rfl) ?_;rintro ds d ⟨N,a0,a1,r,rfl,hF,rfl⟩ hok;clear hok;refine⟨rfl, ?_⟩;show vc _ _ _ _ ⟨[(0, .dat (zat a0)),(1, .dat (A2iN.d a1))],[]⟩ _;unfold f108 at hF;exact wk8

set_option maxRecDepth 20000 in
set_option maxHeartbeats 4000000 in
theorem Q198 (N:Nat):CallOK Tryz.prog 198 (effPg zlw (H198 N)):=by
 induction N with
 | zero=>exact zaJ λ x y h=>(by cases (show (none:Option (Int))=some y from h))
 | succ N ih =>
  refine zax (c:=zaq zai [(198,true,effPg zlw (H198 N))]) rfl tyOK (zae (za Tryz.func198 rfl rfl) ih (zac)) 1000 zwW zvK Tryz.func198 rfl rfl (by kernel_rfl) rfl rfl rfl rfl rfl rfl rfl rfl (λ _=>rfl) (λ _=>rfl) (λ _ _=>⟨rfl,rfl⟩) ?_;rintro⟨s0,s1,s2,s3⟩ y hF;have hF:zto (f198 N) N s0 s1 s2 s3=some y:=hF;show vc _ _ _ _ ⟨[(0, .dat (.agg [strN s0.name,iN s0.thick])),(1, .ptr 0 0)],[(0, .box [.mp 1, .mp 2, .mp 3]),(1,(sW [2] s1)),(2,(eW s2)),(3,(mW s3))]⟩ _;unfold zto at hF;exact wk5
theorem P198:CallOK Tryz.prog 198 (effPg zlw G198):=zbf Q198

set_option maxRecDepth 20000 in
set_option maxHeartbeats 4000000 in
theorem Q200 (N:Nat):CallOK Tryz.prog 200 (effPg zlx (H200 N)):=by
 induction N with
 | zero=>exact zaJ λ x y h=>(by cases (show (none:Option (Int))=some y from h))
 | succ N ih =>
  refine zax (c:=zaq zai [(200,true,effPg zlx (H200 N))]) rfl tyOK (zae (za Tryz.func200 rfl rfl) ih (zac)) 1000 zwZ zvL Tryz.func200 rfl rfl (by kernel_rfl) rfl rfl rfl rfl rfl rfl rfl rfl (λ _=>rfl) (λ _=>rfl) (λ _ _=>⟨rfl,rfl⟩) ?_;rintro⟨s0,s1,s2,s3⟩ y hF;have hF:ztp (f200 N) N s0 s1 s2 s3=some y:=hF;show vc _ _ _ _ ⟨[(0, .dat (.agg [strN s0.name])),(1, .ptr 0 0)],[(0, .box [.mp 1, .mp 2, .mp 3]),(1,(sW [2] s1)),(2,(eW s2)),(3,(mW s3))]⟩ _;unfold ztp at hF;exact wk2
theorem P200:CallOK Tryz.prog 200 (effPg zlx G200):=zbf Q200

set_option maxRecDepth 20000 in
set_option maxHeartbeats 4000000 in
theorem Q202 (N:Nat):CallOK Tryz.prog 202 (effPg zly (H202 N)):=by
 induction N with
 | zero=>exact zaJ λ x y h=>(by cases (show (none:Option (Int))=some y from h))
 | succ N ih =>
  refine zax (c:=zaq zai [(202,true,effPg zly (H202 N))]) rfl tyOK (zae (za Tryz.func202 rfl rfl) ih (zac)) 1000 zw2 zvM Tryz.func202 rfl rfl (by kernel_rfl) rfl rfl rfl rfl rfl rfl rfl rfl (λ _=>rfl) (λ _=>rfl) (λ _ _=>⟨rfl,rfl⟩) ?_;rintro⟨s0,s1,s2,s3⟩ y hF;have hF:ztq (f202 N) N s0 s1 s2 s3=some y:=hF;show vc _ _ _ _ ⟨[(0, .dat (.agg [strN s0.stone,strN s0.edition])),(1, .ptr 0 0)],[(0, .box [.mp 1, .mp 2, .mp 3]),(1,(sW [2] s1)),(2,(eW s2)),(3,(mW s3))]⟩ _;unfold ztq at hF;exact wk5
theorem P202:CallOK Tryz.prog 202 (effPg zly G202):=zbf Q202

set_option maxRecDepth 20000 in
set_option maxHeartbeats 4000000 in
theorem Q204 (N:Nat):CallOK Tryz.prog 204 (effPg zlz (H204 N)):=by
 induction N with
 | zero=>exact zaJ λ x y h=>(by cases (show (none:Option (Int))=some y from h))
 | succ N ih =>
  refine zax (c:=zaq zai [(204,true,effPg zlz (H204 N))]) rfl tyOK (zae (za Tryz.func204 rfl rfl) ih (zac)) 1000 zw5 zvN Tryz.func204 rfl rfl (by kernel_rfl) rfl rfl rfl rfl rfl rfl rfl rfl (λ _=>rfl) (λ _=>rfl) (λ _ _=>⟨rfl,rfl⟩) ?_;rintro⟨s0,s1,s2,s3⟩ y hF;have hF:ztr (f204 N) N s0 s1 s2 s3=some y:=hF;show vc _ _ _ _ ⟨[(0, .dat (.agg [strN s0.edition,iN s0.n])),(1, .ptr 0 0)],[(0, .box [.mp 1, .mp 2, .mp 3]),(1,(sW [2] s1)),(2,(eW s2)),(3,(mW s3))]⟩ _;unfold ztr at hF;exact wk2
theorem P204:CallOK Tryz.prog 204 (effPg zlz G204):=zbf Q204

set_option maxRecDepth 20000 in
set_option maxHeartbeats 4000000 in
theorem Q206 (N:Nat):CallOK Tryz.prog 206 (effPg zlA (H206 N)):=by
 induction N with
 | zero=>exact zaJ λ x y h=>(by cases (show (none:Option (Int))=some y from h))
 | succ N ih =>
  refine zax (c:=zaq zai [(206,true,effPg zlA (H206 N))]) rfl tyOK (zae (za Tryz.func206 rfl rfl) ih (zac)) 1000 zw8 zvO Tryz.func206 rfl rfl (by kernel_rfl) rfl rfl rfl rfl rfl rfl rfl rfl (λ _=>rfl) (λ _=>rfl) (λ _ _=>⟨rfl,rfl⟩) ?_;rintro⟨s0,s1,s2,s3⟩ y hF;have hF:zts (f206 N) N s0 s1 s2 s3=some y:=hF;show vc _ _ _ _ ⟨[(0, .dat (.agg [strN s0.stone,iN s0.good,iN s0.spoilt])),(1, .ptr 0 0)],[(0, .box [.mp 1, .mp 2, .mp 3]),(1,(sW [2] s1)),(2,(eW s2)),(3,(mW s3))]⟩ _;unfold zts at hF;exact wk5
theorem P206:CallOK Tryz.prog 206 (effPg zlA G206):=zbf Q206

set_option maxRecDepth 20000 in
set_option maxHeartbeats 4000000 in
theorem Q208 (N:Nat):CallOK Tryz.prog 208 (effPg zlB (H208 N)):=by
 induction N with
 | zero=>exact zaJ λ x y h=>(by cases (show (none:Option (Int))=some y from h))
 | succ N ih =>
  refine zax (c:=zaq zai [(208,true,effPg zlB (H208 N))]) rfl tyOK (zae (za Tryz.func208 rfl rfl) ih (zac)) 1000 zxa zvP Tryz.func208 rfl rfl (by kernel_rfl) rfl rfl rfl rfl rfl rfl rfl rfl (λ _=>rfl) (λ _=>rfl) (λ _ _=>⟨rfl,rfl⟩) ?_;rintro⟨s0,s1,s2,s3⟩ y hF;have hF:ztt (f208 N) N s0 s1 s2 s3=some y:=hF;show vc _ _ _ _ ⟨[(0, .dat (.agg [strN s0.edition])),(1, .ptr 0 0)],[(0, .box [.mp 1, .mp 2, .mp 3]),(1,(sW [2] s1)),(2,(eW s2)),(3,(mW s3))]⟩ _;unfold ztt at hF;exact wk5
theorem P208:CallOK Tryz.prog 208 (effPg zlB G208):=zbf Q208

set_option maxRecDepth 20000 in
set_option maxHeartbeats 4000000 in
theorem P64:PureOK Tryz.prog 64 G64:=by
 refine zan (c:=zaq zai []) rfl tyOK (zac) [[0]] 2 Tryz.func64 rfl rfl (by decide) (by kernel_rfl) ?_;rintro ds d ⟨N,a0,a1,r,rfl,hF,rfl⟩ hok;clear hok;refine⟨rfl, ?_⟩;show vc _ _ _ _ ⟨[(0, .ep [strN a0.name,bN a0.closed,zbc a0.places,iN a0.from_,iN a0.paper,iN a0.delivered,iN a0.spoilt]),(1, .dat (iN a1))],[]⟩ _;unfold f64 at hF;exact wk4

set_option maxRecDepth 20000 in
set_option maxHeartbeats 4000000 in
theorem P213:CallOK Tryz.prog 213 (effPg zlD G213):=by
 refine zax (c:=zaq zai []) rfl tyOK (zac) 1000 ⟨[0],[0,1],[],[]⟩ ⟨[0],[0,1],[],[]⟩ Tryz.func213 rfl rfl (by kernel_rfl) rfl rfl rfl rfl rfl rfl rfl rfl (λ _=>rfl) (λ _=>rfl) (λ _ _=>⟨rfl,rfl⟩) ?_;rintro⟨i,es,x⟩ y ⟨hx,h1,h2⟩;replace h1:0<=zm3 x:=h1;replace h2:zm3 x<x.places.length:=h2;unfold zm3 zm2 W at h1 h2;replace hx:getF es i=some x:=hx;show vc _ _ _ _ ⟨[(0, .po 0 i 0)],[(0, .fam [] (encF strN EditionM.m es) [(i,2,1)]),(1, .row 3 1 (List.map iN x.places))]⟩ _
 repeat' (first
 | ((with_reducible first|refine q0 _ _ ?_|refine q1 _ _ _ _ ?_|refine q2 _ _ _ ?_);clear Q q0 q1 q2)
 | ((with_reducible first|refine zdq ?hx (λ Q q0 q1 q2=>?_)|refine zdC ?hx (λ Q q0 q1 q2=>?_));(case hx=>exact rfl);conv=>whnf)
 | ((with_reducible refine zcm ?_);(first|((with_reducible refine hR _ ?_);clear R hR)|((with_reducible refine hL _ ?_);clear L hL)))
 | ((with_reducible refine zcF ?_);(with_reducible refine hR _ _ ?hx ?_);(case hx=>kernel_rfl);clear R hR)
 | ((with_reducible first|refine zbU ?_|refine zbV ?_);conv=>whnf)
 | (with_reducible first|refine zbR ?_|refine zck ?_|refine zdp ?_|refine zcB ?_|refine zbo (λ R hR=>?_)|refine zbm ?_|refine zbe ?_)
 | ((with_reducible refine zco [] ?hx ?_);(case hx=>exact rfl))
 | ((with_reducible refine zdA ?hx (λ R L hL hR=>?_));(case hx=>exact rfl))
 | ((refine zhw rfl hx (by exact rfl) ?_);conv=>whnf)
 | ((refine Or.inl (Or.inl ⟨_,zpx, ?_⟩));conv=>whnf)
 | ((refine⟨?h, ?_⟩;(case h=>exact⟨h1,h2⟩));conv=>whnf)
 | ((with_reducible refine zjG ?hn ?_);(case hn=>first|exact rfl|assumption|omega);conv=>whnf)
 | ((with_reducible refine zeU ?_))
 | ((refine⟨?h, ?_⟩;(case h=>(simp only[List.length_map];done)));conv=>whnf)
 | (show retE _ _ _ _ _ _ _ _;conv=>whnf)
 | ((refine Or.inl ?_);(conv=>whnf);exact⟨rfl,rfl,rfl⟩))

set_option maxRecDepth 20000 in
set_option maxHeartbeats 4000000 in
theorem Q197 (N:Nat):CallOK Tryz.prog 197 (effPg zlE (H197 N)):=by
 induction N with
 | zero=>exact zaJ λ x y h=>(by cases (show (none:Option (LS))=some y from h))
 | succ N ih =>
  refine zax (c:=zaq zai [(197,true,effPg zlE (H197 N))]) rfl tyOK (zae (za Tryz.func197 rfl rfl) ih (zac)) 1000 zxd zvQ Tryz.func197 rfl rfl (by kernel_rfl) rfl rfl rfl rfl rfl rfl rfl rfl (λ _=>rfl) (λ _=>rfl) (λ _ _=>⟨rfl,rfl⟩) ?_;rintro⟨s0,s1,s2,s3⟩ y hF;have hF:ztu (f197 N) N s0 s1 s2 s3=some y:=hF;show vc _ _ _ _ ⟨[(0, .dat (.agg [strN s0.name,iN s0.thick])),(1, .ptr 0 0)],[(0, .box [.mp 1, .mp 2, .mp 3]),(1,(sW [2] s1)),(2,(eW s2)),(3,(mW s3))]⟩ _;unfold ztu at hF;exact wk6
theorem P197:CallOK Tryz.prog 197 (effPg zlE G197):=zbf Q197

set_option maxRecDepth 20000 in
set_option maxHeartbeats 4000000 in
theorem Q199 (N:Nat):CallOK Tryz.prog 199 (effPg zlF (H199 N)):=by
 induction N with
 | zero=>exact zaJ λ x y h=>(by cases (show (none:Option (LE))=some y from h))
 | succ N ih =>
  refine zax (c:=zaq zai [(199,true,effPg zlF (H199 N))]) rfl tyOK (zae (za Tryz.func199 rfl rfl) ih (zac)) 1000 zxg zvR Tryz.func199 rfl rfl (by kernel_rfl) rfl rfl rfl rfl rfl rfl rfl rfl (λ _=>rfl) (λ _=>rfl) (λ _ _=>⟨rfl,rfl⟩) ?_;rintro⟨s0,s1,s2,s3⟩ y hF;have hF:ztv (f199 N) N s0 s1 s2 s3=some y:=hF;show vc _ _ _ _ ⟨[(0, .dat (.agg [strN s0.name])),(1, .ptr 0 0)],[(0, .box [.mp 1, .mp 2, .mp 3]),(1,(sW [2] s1)),(2,(eW s2)),(3,(mW s3))]⟩ _;unfold ztv at hF;exact wk6
theorem P199:CallOK Tryz.prog 199 (effPg zlF G199):=zbf Q199

set_option maxRecDepth 20000 in
set_option maxHeartbeats 4000000 in
theorem Q201 (N:Nat):CallOK Tryz.prog 201 (effPg zlG (H201 N)):=by
 induction N with
 | zero=>exact zaJ λ x y h=>(by cases (show (none:Option (LS×LE))=some y from h))
 | succ N ih =>
  refine zax (c:=zaq zai [(201,true,effPg zlG (H201 N))]) rfl tyOK (zae (za Tryz.func201 rfl rfl) ih (zac)) 1000 zxj zvS Tryz.func201 rfl rfl (by kernel_rfl) rfl rfl rfl rfl rfl rfl rfl rfl (λ _=>rfl) (λ _=>rfl) (λ _ _=>⟨rfl,rfl⟩) ?_;rintro⟨s0,s1,s2,s3⟩ y hF;have hF:ztw (f201 N) N s0 s1 s2 s3=some y:=hF;show vc _ _ _ _ ⟨[(0, .dat (.agg [strN s0.stone,strN s0.edition])),(1, .ptr 0 0)],[(0, .box [.mp 1, .mp 2, .mp 3]),(1,(sW [2] s1)),(2,(eW s2)),(3,(mW s3))]⟩ _;unfold ztw at hF;exact wk5
theorem P201:CallOK Tryz.prog 201 (effPg zlG G201):=zbf Q201

set_option maxRecDepth 20000 in
set_option maxHeartbeats 4000000 in
theorem Q203 (N:Nat):CallOK Tryz.prog 203 (effPg zlH (H203 N)):=by
 induction N with
 | zero=>exact zaJ λ x y h=>(by cases (show (none:Option (LE))=some y from h))
 | succ N ih =>
  refine zax (c:=zaq zai [(203,true,effPg zlH (H203 N))]) rfl tyOK (zae (za Tryz.func203 rfl rfl) ih (zac)) 1000 zxm zvT Tryz.func203 rfl rfl (by kernel_rfl) rfl rfl rfl rfl rfl rfl rfl rfl (λ _=>rfl) (λ _=>rfl) (λ _ _=>⟨rfl,rfl⟩) ?_;rintro⟨s0,s1,s2,s3⟩ y hF;have hF:ztx (f203 N) N s0 s1 s2 s3=some y:=hF;show vc _ _ _ _ ⟨[(0, .dat (.agg [strN s0.edition,iN s0.n])),(1, .ptr 0 0)],[(0, .box [.mp 1, .mp 2, .mp 3]),(1,(sW [2] s1)),(2,(eW s2)),(3,(mW s3))]⟩ _;unfold ztx at hF;exact wk5
theorem P203:CallOK Tryz.prog 203 (effPg zlH G203):=zbf Q203

set_option maxRecDepth 20000 in
set_option maxHeartbeats 4000000 in
theorem Q205 (N:Nat):CallOK Tryz.prog 205 (effPg zlI (H205 N)):=by
 induction N with
 | zero=>exact zaJ λ x y h=>(by cases (show (none:Option (LE))=some y from h))
 | succ N ih =>
  refine zax (c:=zaq zai [(205,true,effPg zlI (H205 N))]) rfl tyOK (zae (za Tryz.func205 rfl rfl) ih (zac)) 1000 zxp zvU Tryz.func205 rfl rfl (by kernel_rfl) rfl rfl rfl rfl rfl rfl rfl rfl (λ _=>rfl) (λ _=>rfl) (λ _ _=>⟨rfl,rfl⟩) ?_;rintro⟨s0,s1,s2,s3⟩ y hF;have hF:zty (f205 N) N s0 s1 s2 s3=some y:=hF;show vc _ _ _ _ ⟨[(0, .dat (.agg [strN s0.stone,iN s0.good,iN s0.spoilt])),(1, .ptr 0 0)],[(0, .box [.mp 1, .mp 2, .mp 3]),(1,(sW [2] s1)),(2,(eW s2)),(3,(mW s3))]⟩ _;unfold zty at hF;exact wk5
theorem P205:CallOK Tryz.prog 205 (effPg zlI G205):=zbf Q205

set_option maxRecDepth 20000 in
set_option maxHeartbeats 4000000 in
theorem Q207 (N:Nat):CallOK Tryz.prog 207 (effPg zlJ (H207 N)):=by
 induction N with
 | zero=>exact zaJ λ x y h=>(by cases (show (none:Option (LE))=some y from h))
 | succ N ih =>
  refine zax (c:=zaq zai [(207,true,effPg zlJ (H207 N))]) rfl tyOK (zae (za Tryz.func207 rfl rfl) ih (zac)) 1000 zxs zvV Tryz.func207 rfl rfl (by kernel_rfl) rfl rfl rfl rfl rfl rfl rfl rfl (λ _=>rfl) (λ _=>rfl) (λ _ _=>⟨rfl,rfl⟩) ?_;rintro⟨s0,s1,s2,s3⟩ y hF;have hF:ztz (f207 N) N s0 s1 s2 s3=some y:=hF;show vc _ _ _ _ ⟨[(0, .dat (.agg [strN s0.edition])),(1, .ptr 0 0)],[(0, .box [.mp 1, .mp 2, .mp 3]),(1,(sW [2] s1)),(2,(eW s2)),(3,(mW s3))]⟩ _;unfold ztz at hF;exact wk2
theorem P207:CallOK Tryz.prog 207 (effPg zlJ G207):=zbf Q207

set_option maxRecDepth 20000 in
set_option maxHeartbeats 4000000 in
theorem Q209 (N:Nat):CallOK Tryz.prog 209 (effPg zlK (H209 N)):=by
 induction N with
 | zero=>exact zaJ λ x y h=>(by cases (show (none:Option (LE×LC))=some y from h))
 | succ N ih =>
  refine zax (c:=zaq zai [(209,true,effPg zlK (H209 N))]) rfl tyOK (zae (za Tryz.func209 rfl rfl) ih (zac)) 1000 zxv zvW Tryz.func209 rfl rfl (by kernel_rfl) rfl rfl rfl rfl rfl rfl rfl rfl (λ _=>rfl) (λ _=>rfl) (λ _ _=>⟨rfl,rfl⟩) ?_;rintro⟨s0,s1,s2,s3⟩ y hF;have hF:ztA (f209 N) N s0 s1 s2 s3=some y:=hF;show vc _ _ _ _ ⟨[(0, .dat (.agg [strN s0.customer,strN s0.edition,iN s0.n])),(1, .ptr 0 0)],[(0, .box [.mp 1, .mp 2, .mp 3]),(1,(sW [2] s1)),(2,(eW s2)),(3,(mW s3))]⟩ _;unfold ztA at hF;exact wk2
theorem P209:CallOK Tryz.prog 209 (effPg zlK G209):=zbf Q209

set_option maxRecDepth 20000 in
set_option maxHeartbeats 4000000 in
theorem Q214 (N:Nat):CallOK Tryz.prog 214 (effPg zlL (H214 N)):=by
 induction N with
 | zero=>exact zaJ λ x y h=>(by cases (show (none:Option (LS×LE))=some y from h))
 | succ N ih =>
  refine zax (c:=zaq zai [(214,true,effPg zlL (H214 N))]) rfl tyOK (zae (za Tryz.func214 rfl rfl) ih (zac)) 1000 zxy zvX Tryz.func214 rfl rfl (by kernel_rfl) rfl rfl rfl rfl rfl rfl rfl rfl (λ _=>rfl) (λ _=>rfl) (λ _ _=>⟨rfl,rfl⟩) ?_;rintro⟨s0,s1,s2,s3⟩ y hF;have hF:ztB (f214 N) N s0 s1 s2 s3=some y:=hF;show vc _ _ _ _ ⟨[(0, .dat (.agg [strN s0.stone])),(1, .ptr 0 0)],[(0, .box [.mp 1, .mp 2, .mp 3]),(1,(sW [2] s1)),(2,(eW s2)),(3,(mW s3))]⟩ _;unfold ztB at hF;exact wk5
theorem P214:CallOK Tryz.prog 214 (effPg zlL G214):=zbf Q214

set_option maxRecDepth 20000 in
set_option maxHeartbeats 4000000 in
theorem P117:PureOK Tryz.prog 117 G117:=by
 refine zan (c:=zaq zai []) rfl tyOK (zac) [[0]] 3 Tryz.func117 rfl rfl (by decide) (by kernel_rfl) ?_;rintro ds d ⟨N,a0,a1,a2,r,rfl,hF,rfl⟩ hok;clear hok;refine⟨rfl, ?_⟩;show vc _ _ _ _ ⟨[(0, .dat (iN a0)),(1, .dat (iN a1)),(2, .dat (iN a2))],[]⟩ _;unfold f117 at hF;exact wk8

set_option maxRecDepth 20000 in
set_option maxHeartbeats 4000000 in
theorem P143:PureOK Tryz.prog 143 G143:=by
 refine zan (c:=zaq zai [(166,false,zby (zaq zai []) Tryz.f166)]) rfl tyOK (zaF (za Tryz.func166 rfl rfl) (CallOK.inl rfl tyOK (zac) Tryz.func166 (by kernel_rfl)) (zac)) [[1]] 1 Tryz.func143 rfl rfl (by decide) (by kernel_rfl) ?_;rintro ds d ⟨N,a0,r,rfl,hF,rfl⟩ hok;clear hok;refine⟨rfl, ?_⟩;show vc _ _ _ _ ⟨[(0, .dat (zao a0))],[]⟩ _;unfold f143 at hF;exact wk3

set_option maxRecDepth 20000 in
set_option maxHeartbeats 4000000 in
theorem P145:PureOK Tryz.prog 145 G145:=by
 refine zan (c:=zaq zai []) rfl tyOK (zac) [[0]] 1 Tryz.func145 rfl rfl (by decide) (by kernel_rfl) ?_;rintro ds d ⟨N,a0,r,rfl,hF,rfl⟩ hok;clear hok;refine⟨rfl, ?_⟩;show vc _ _ _ _ ⟨[(0, .dat (zao a0))],[]⟩ _;unfold f145 at hF;exact wk3

set_option maxRecDepth 20000 in
set_option maxHeartbeats 4000000 in
theorem P132:PureOK Tryz.prog 132 G132:=by
 refine zan (c:=zaq zai [(159,false,zby (zaq zai [(160,false,zby (zaq zai []) Tryz.f160)]) Tryz.f159)]) rfl tyOK (zaF (za Tryz.func159 rfl rfl) (CallOK.inl rfl tyOK (zaF (za Tryz.func160 rfl rfl) (CallOK.inl rfl tyOK (zac) Tryz.func160 (by kernel_rfl)) (zac)) Tryz.func159 (by kernel_rfl)) (zac)) [[0]] 3 Tryz.func132 rfl rfl (by decide) (by kernel_rfl) ?_;rintro ds d ⟨N,a0,a1,a2,r,rfl,hF,rfl⟩ hok;clear hok;refine⟨rfl, ?_⟩;show vc _ _ _ _ ⟨[(0, .dat (zao a0)),(1, .dat (iN a1)),(2, .dat (zbc a2))],[]⟩ _;unfold f132 at hF;exact wk4

set_option maxRecDepth 20000 in
set_option maxHeartbeats 4000000 in
theorem P147:PureOK Tryz.prog 147 G147:=by
 refine zan (c:=zaq zai []) rfl tyOK (zac) [[0]] 2 Tryz.func147 rfl rfl (by decide) (by kernel_rfl) ?_;rintro ds d ⟨N,a0,a1,r,rfl,hF,rfl⟩ hok;clear hok;refine⟨rfl, ?_⟩;show vc _ _ _ _ ⟨[(0, .dat (zbc a0)),(1, .dat (iN a1))],[]⟩ _;unfold f147 at hF;exact wk4

set_option maxRecDepth 20000 in
set_option maxHeartbeats 4000000 in
theorem P148:PureOK Tryz.prog 148 G148:=by
 refine zan (c:=zaq zai []) rfl tyOK (zac) [[0]] 2 Tryz.func148 rfl rfl (by decide) (by kernel_rfl) ?_;rintro ds d ⟨N,a0,a1,r,rfl,hF,rfl⟩ hok;clear hok;refine⟨rfl, ?_⟩;show vc _ _ _ _ ⟨[(0, .dat (iN a0)),(1, .dat (iN a1))],[]⟩ _;unfold f148 at hF;exact wk3

set_option maxRecDepth 20000 in
set_option maxHeartbeats 4000000 in
theorem P35:PureOK Tryz.prog 35 G35:=by
 refine zan (c:=zaq zai []) rfl tyOK (zac) [[0]] 2 Tryz.func35 rfl rfl (by decide) (by kernel_rfl) ?_;rintro ds d ⟨N,a0,a1,r,rfl,hF,rfl⟩ hok;clear hok;refine⟨rfl, ?_⟩;show vc _ _ _ _ ⟨[(0, .dat (zbc a0)),(1, .dat (zbc a1))],[]⟩ _;unfold f35 at hF;exact wk4

set_option maxRecDepth 20000 in
set_option maxHeartbeats 4000000 in
theorem P44:PureOK Tryz.prog 44 G44:=by
 refine zan (c:=zaq zai []) rfl tyOK (zac) [[1]] 0 Tryz.func44 rfl rfl (by decide) (by kernel_rfl) ?_;rintro ds d ⟨N,r,rfl,hF,rfl⟩ hok;clear hok;refine⟨rfl, ?_⟩;show vc _ _ _ _ ⟨[],[]⟩ _;unfold f44 at hF;exact wk7

set_option maxRecDepth 20000 in
set_option maxHeartbeats 4000000 in
theorem Q21 (N:Nat):CallOK Tryz.prog 21 (effPg zpB (H21 N)):=by
 induction N with
 | zero=>exact zaJ λ x y h=>(by cases (show (none:Option (LB))=some y from h))
 | succ N ih =>
  refine zax (c:=zaq zai [(21,true,effPg zpB (H21 N)),(54,false,zby (zaq zai []) Tryz.f54),(53,false,zby (zaq zai []) Tryz.f53)]) rfl tyOK (zae (za Tryz.func21 rfl rfl) ih (zaF (za Tryz.func54 rfl rfl) (CallOK.inl rfl tyOK (zac) Tryz.func54 (by kernel_rfl)) (zaF (za Tryz.func53 rfl rfl) (CallOK.inl rfl tyOK (zac) Tryz.func53 (by kernel_rfl)) (zac)))) 1000 Srf21 zxH Tryz.func21 rfl rfl (by kernel_rfl) rfl rfl rfl rfl rfl rfl rfl rfl (λ _=>rfl) (λ _=>rfl) (λ _ _=>⟨rfl,rfl⟩) ?_;rintro⟨s0,s1,s2,s3⟩ y hF;have hF:f21b (f21 N) N s0 s1 s2 s3=some y:=hF;show vc _ _ _ _ ⟨[(0, .ptr 0 0)],[(0, .box [.ptr 1 0, .rs 2 (List.length s0)]),(1, .box [.mp 3, .mp 4, .mp 5]),(2,(rW s0)),(3,(sW [4] s1)),(4,(eW s2)),(5,(mW s3))]⟩ _;unfold f21b at hF;exact wk5
theorem P21:CallOK Tryz.prog 21 (effPg zpB G21):=zbf Q21

set_option maxRecDepth 20000 in
set_option maxHeartbeats 4000000 in
theorem P27:PureOK Tryz.prog 27 G27:=by
 refine zan (c:=zaq zai []) rfl tyOK (zac) [[1]] 0 Tryz.func27 rfl rfl (by decide) (by kernel_rfl) ?_;rintro ds d ⟨N,r,rfl,hF,rfl⟩ hok;clear hok;refine⟨rfl, ?_⟩;show vc _ _ _ _ ⟨[],[]⟩ _;unfold f27 at hF;exact wk7

set_option maxRecDepth 20000 in
set_option maxHeartbeats 4000000 in
theorem P28:PureOK Tryz.prog 28 G28:=by
 refine zan (c:=zaq zai []) rfl tyOK (zac) [[1]] 0 Tryz.func28 rfl rfl (by decide) (by kernel_rfl) ?_;rintro ds d ⟨N,r,rfl,hF,rfl⟩ hok;clear hok;refine⟨rfl, ?_⟩;show vc _ _ _ _ ⟨[],[]⟩ _;unfold f28 at hF;exact wk7

set_option maxRecDepth 20000 in
set_option maxHeartbeats 4000000 in
theorem P29:PureOK Tryz.prog 29 G29:=by
 refine zan (c:=zaq zai []) rfl tyOK (zac) [[1]] 0 Tryz.func29 rfl rfl (by decide) (by kernel_rfl) ?_;rintro ds d ⟨N,r,rfl,hF,rfl⟩ hok;clear hok;refine⟨rfl, ?_⟩;show vc _ _ _ _ ⟨[],[]⟩ _;unfold f29 at hF;exact wk7

set_option maxRecDepth 20000 in
set_option maxHeartbeats 4000000 in
theorem P50:PureOK Tryz.prog 50 G50:=by
 refine zan (c:=zaq zai []) rfl tyOK (zac) [[0]] 2 Tryz.func50 rfl rfl (by decide) (by kernel_rfl) ?_;rintro ds d ⟨N,a0,a1,r,rfl,hF,rfl⟩ hok;clear hok;refine⟨rfl, ?_⟩;show vc _ _ _ _ ⟨[(0, .dat (zat a0)),(1, .dat (u8N a1))],[]⟩ _;unfold f50 at hF;exact wk7

set_option maxRecDepth 20000 in
set_option maxHeartbeats 4000000 in
theorem P20:PureOK Tryz.prog 20 G20:=by
 refine zan (c:=zaq zai []) rfl tyOK (zac) [[0]] 2 Tryz.func20 rfl rfl (by decide) (by kernel_rfl) ?_;rintro ds d ⟨N,a0,a1,r,rfl,hF,rfl⟩ hok;clear hok;refine⟨rfl, ?_⟩;show vc _ _ _ _ ⟨[(0, .dat (zat a0)),(1, .dat (zat a1))],[]⟩ _;unfold f20 at hF;exact wk4

set_option maxRecDepth 20000 in
set_option maxHeartbeats 4000000 in
theorem P104:PureOK Tryz.prog 104 G104:=by
 refine zan (c:=zaq zai [(73,true,zbM [[0],[0]] G73)]) rfl tyOK (zba (za Tryz.func73 rfl rfl) P73 (zac)) [[1],[0]] 1 Tryz.func104 rfl rfl (by decide) (by kernel_rfl) ?_;rintro ds d ⟨N,a0,r,rfl,hF,rfl⟩ hok;clear hok;refine⟨rfl, ?_⟩;show vc _ _ _ _ ⟨[(0, .dat (strN a0))],[]⟩ _;unfold f104 at hF;exact wk4

set_option maxRecDepth 20000 in
set_option maxHeartbeats 4000000 in
theorem P61:PureOK Tryz.prog 61 G61:=by
 refine zan (c:=zaq zai [(88,true,lendPg [[0]] G88)]) rfl tyOK (zap (za Tryz.func88 rfl rfl) P88 (zac)) [[0]] 1 Tryz.func61 rfl rfl (by decide) (by kernel_rfl) ?_;rintro ds d ⟨N,a0,r,rfl,hF,rfl⟩ hok;clear hok;refine⟨rfl, ?_⟩;show vc _ _ _ _ ⟨[(0, .dat (strN a0))],[]⟩ _;unfold f61 at hF;exact wk7

set_option maxRecDepth 20000 in
set_option maxHeartbeats 4000000 in
theorem Q210 (N:Nat):CallOK Tryz.prog 210 (effPg zlT (H210 N)):=by
 induction N with
 | zero=>exact zaJ λ x y h=>(by cases (show (none:Option (Int))=some y from h))
 | succ N ih =>
  refine zax (c:=zaq zai [(210,true,effPg zlT (H210 N)),(64,true,lendPg [[0],[0]] G64)]) rfl tyOK (zae (za Tryz.func210 rfl rfl) ih (zap (za Tryz.func64 rfl rfl) P64 (zac))) 1000 zxK zvY Tryz.func210 rfl rfl (by kernel_rfl) rfl rfl rfl rfl rfl rfl rfl rfl (λ _=>rfl) (λ _=>rfl) (λ _ _=>⟨rfl,rfl⟩) ?_;rintro⟨s0,s1,s2,s3⟩ y hF;have hF:ztE (f210 N) N s0 s1 s2 s3=some y:=hF;show vc _ _ _ _ ⟨[(0, .dat (.agg [strN s0.customer,strN s0.edition,iN s0.n])),(1, .ptr 0 0)],[(0, .box [.mp 1, .mp 2, .mp 3]),(1,(sW [2] s1)),(2,(eW s2)),(3,(mW s3))]⟩ _;unfold ztE at hF;exact wk5
theorem P210:CallOK Tryz.prog 210 (effPg zlT G210):=zbf Q210

set_option maxRecDepth 20000 in
set_option maxHeartbeats 4000000 in
theorem Q212 (N:Nat):CallOK Tryz.prog 212 (effPg zlU (H212 N)):=by
 induction N with
 | zero=>exact zaJ λ x y h=>(by cases (show (none:Option (Int))=some y from h))
 | succ N ih =>
  refine zax (c:=zaq zai [(212,true,effPg zlU (H212 N)),(213,true,preTake 2 (effPg zlD G213))]) rfl tyOK (zae (za Tryz.func212 rfl rfl) ih (zn0 (za Tryz.func213 rfl rfl) P213 (λ xs id=>Local.effPg xs id) (zac))) 1000 zxN zvZ Tryz.func212 rfl rfl (by kernel_rfl) rfl rfl rfl rfl rfl rfl rfl rfl (λ _=>rfl) (λ _=>rfl) (λ _ _=>⟨rfl,rfl⟩) ?_;rintro⟨s0,s1,s2,s3⟩ y hF;have hF:ztF (f212 N) N s0 s1 s2 s3=some y:=hF;show vc _ _ _ _ ⟨[(0, .dat (.agg [strN s0.claiming.customer,strN s0.claiming.edition,iN s0.claiming.n])),(1, .ptr 0 0)],[(0, .box [.mp 1, .mp 2, .mp 3]),(1,(sW [2] s1)),(2,(eW s2)),(3,(mW s3))]⟩ _;unfold ztF at hF;exact wk2
theorem P212:CallOK Tryz.prog 212 (effPg zlU G212):=zbf Q212

set_option maxRecDepth 20000 in
set_option maxHeartbeats 4000000 in
theorem Q215 (N:Nat):CallOK Tryz.prog 215 (effPg zlV (H215 N)):=by
 induction N with
 | zero=>exact zaJ λ x y h=>(by cases (show (none:Option (Int))=some y from h))
 | succ N ih =>
  refine zax (c:=zaq zai [(215,true,effPg zlV (H215 N)),(64,true,lendPg [[0],[0]] G64)]) rfl tyOK (zae (za Tryz.func215 rfl rfl) ih (zap (za Tryz.func64 rfl rfl) P64 (zac))) 1000 zxQ zv0 Tryz.func215 rfl rfl (by kernel_rfl) rfl rfl rfl rfl rfl rfl rfl rfl (λ _=>rfl) (λ _=>rfl) (λ _ _=>⟨rfl,rfl⟩) ?_;rintro⟨s0,s1,s2,s3⟩ y hF;have hF:ztG (f215 N) N s0 s1 s2 s3=some y:=hF;show vc _ _ _ _ ⟨[(0, .dat (.agg [strN s0.stone])),(1, .ptr 0 0)],[(0, .box [.mp 1, .mp 2, .mp 3]),(1,(sW [2] s1)),(2,(eW s2)),(3,(mW s3))]⟩ _;unfold ztG at hF;exact wk5
theorem P215:CallOK Tryz.prog 215 (effPg zlV G215):=zbf Q215

set_option maxRecDepth 20000 in
set_option maxHeartbeats 4000000 in
theorem Q211 (N:Nat):CallOK Tryz.prog 211 (effPg zlW (H211 N)):=by
 induction N with
 | zero=>exact zaJ λ x y h=>(by cases (show (none:Option (LE))=some y from h))
 | succ N ih =>
  refine zax (c:=zaq zai [(211,true,effPg zlW (H211 N)),(213,true,preTake 2 (effPg zlD G213))]) rfl tyOK (zae (za Tryz.func211 rfl rfl) ih (zn0 (za Tryz.func213 rfl rfl) P213 (λ xs id=>Local.effPg xs id) (zac))) 1000 zxT zv1 Tryz.func211 rfl rfl (by kernel_rfl) rfl rfl rfl rfl rfl rfl rfl rfl (λ _=>rfl) (λ _=>rfl) (λ _ _=>⟨rfl,rfl⟩) ?_;rintro⟨s0,s1,s2,s3⟩ y hF;have hF:ztH (f211 N) N s0 s1 s2 s3=some y:=hF;show vc _ _ _ _ ⟨[(0, .dat (.agg [strN s0.claiming.customer,strN s0.claiming.edition,iN s0.claiming.n])),(1, .ptr 0 0)],[(0, .box [.mp 1, .mp 2, .mp 3]),(1,(sW [2] s1)),(2,(eW s2)),(3,(mW s3))]⟩ _;unfold ztH at hF;exact wk2
theorem P211:CallOK Tryz.prog 211 (effPg zlW G211):=zbf Q211

set_option maxRecDepth 20000 in
set_option maxHeartbeats 4000000 in
theorem P116:PureOK Tryz.prog 116 G116:=by
 refine zan (c:=zaq zai [(142,false,zby (zaq zai [(165,false,zby (zaq zai [(144,false,zby (zaq zai [(117,true,lendPg [[0],[0],[0]] G117)]) Tryz.f144)]) Tryz.f165)]) Tryz.f142),(140,false,zby (zaq zai [(164,false,zby (zaq zai [(141,false,zby (zaq zai []) Tryz.f141)]) Tryz.f164)]) Tryz.f140),(145,true,lendPg [[1]] G145),(143,true,zbM [[1]] G143),(117,true,lendPg [[0],[0],[0]] G117)]) rfl tyOK (zaF (za Tryz.func142 rfl rfl) (CallOK.inl rfl tyOK (zaF (za Tryz.func165 rfl rfl) (CallOK.inl rfl tyOK (zaF (za Tryz.func144 rfl rfl) (CallOK.inl rfl tyOK (zap (za Tryz.func117 rfl rfl) P117 (zac)) Tryz.func144 (by kernel_rfl)) (zac)) Tryz.func165 (by kernel_rfl)) (zac)) Tryz.func142 (by kernel_rfl)) (zaF (za Tryz.func140 rfl rfl) (CallOK.inl rfl tyOK (zaF (za Tryz.func164 rfl rfl) (CallOK.inl rfl tyOK (zaF (za Tryz.func141 rfl rfl) (CallOK.inl rfl tyOK (zac) Tryz.func141 (by kernel_rfl)) (zac)) Tryz.func164 (by kernel_rfl)) (zac)) Tryz.func140 (by kernel_rfl)) (zap (za Tryz.func145 rfl rfl) P145 (zba (za Tryz.func143 rfl rfl) P143 (zap (za Tryz.func117 rfl rfl) P117 (zac)))))) [[0]] 1 Tryz.func116 rfl rfl (by decide) (by kernel_rfl) ?_;rintro ds d ⟨N,a0,r,rfl,hF,rfl⟩ hok;clear hok;refine⟨rfl, ?_⟩;show vc _ _ _ _ ⟨[(0, .dat (zao a0))],[]⟩ _;unfold f116 at hF;exact wk4

set_option maxRecDepth 20000 in
set_option maxHeartbeats 4000000 in
theorem P119:PureOK Tryz.prog 119 G119:=by
 refine zan (c:=zaq zai [(148,true,lendPg [[0],[0]] G148),(117,true,lendPg [[0],[0],[0]] G117)]) rfl tyOK (zap (za Tryz.func148 rfl rfl) P148 (zap (za Tryz.func117 rfl rfl) P117 (zac))) [[1],[0]] 2 Tryz.func119 rfl rfl (by decide) (by kernel_rfl) ?_;rintro ds d ⟨N,a0,a1,r,rfl,hF,rfl⟩ hok;clear hok;refine⟨rfl, ?_⟩;show vc _ _ _ _ ⟨[(0, .dat (iN a0)),(1, .dat (iN a1))],[]⟩ _;unfold f119 at hF;exact wk3

set_option maxRecDepth 20000 in
set_option maxHeartbeats 4000000 in
theorem P26:PureOK Tryz.prog 26 G26:=by
 refine zan (c:=zaq zai [(50,true,lendPg [[1],[0]] G50),(30,true,lendPg [[0]] G30),(29,true,zbM [] G29),(28,true,zbM [] G28),(27,true,zbM [] G27)]) rfl tyOK (zap (za Tryz.func50 rfl rfl) P50 (zap (za Tryz.func30 rfl rfl) P30 (zba (za Tryz.func29 rfl rfl) P29 (zba (za Tryz.func28 rfl rfl) P28 (zba (za Tryz.func27 rfl rfl) P27 (zac)))))) [[1]] 1 Tryz.func26 rfl rfl (by decide) (by kernel_rfl) ?_;rintro ds d ⟨N,a0,r,rfl,hF,rfl⟩ hok;clear hok;refine⟨rfl, ?_⟩;show vc _ _ _ _ ⟨[(0, .dat (zdM a0))],[]⟩ _;unfold f26 at hF
 repeat' (first
 | ((with_reducible first|refine q0 _ _ ?_|refine q1 _ _ _ _ ?_|refine q2 _ _ _ ?_);clear Q q0 q1 q2)
 | ((with_reducible first|refine zdq ?hx (λ Q q0 q1 q2=>?_)|refine zdC ?hx (λ Q q0 q1 q2=>?_)|refine zdj ?hx (λ Q q0 q1 q2=>?_)|refine zex ?hx (λ Q q0 q1 q2=>?_));(case hx=>exact rfl);conv=>whnf)
 | ((with_reducible refine zcW ?_);(first|((refine zee rfl ?hy ?_);(case hy=>first|assumption|exact notT (by assumption)|exact rfl))|((refine zef rfl ?hy ?_);(case hy=>first|assumption|exact notF (by assumption)|exact rfl))|(revert hF;(with_reducible refine zht ?hx ?_ ?_);(case hx=>exact rfl);all_goals (intro hc hF))))
 | ((with_reducible refine zcm ?_);(first|((with_reducible refine hR _ ?_);clear R hR)|((with_reducible refine hL _ ?_);clear L hL)))
 | ((with_reducible refine zcF ?_);(with_reducible refine hR _ _ ?hx ?_);(case hx=>kernel_rfl);clear R hR)
 | ((with_reducible first|refine zbU ?_|refine zbV ?_|refine idx2 (by assumption) ?_|refine idx3 (by assumption) ?_);conv=>whnf)
 | (with_reducible first|refine zbR ?_|refine zck ?_|refine zdp ?_|refine zcB ?_|refine zbo (λ R hR=>?_)|refine zbm ?_|refine zbe ?_|refine zg1 ?_|refine zbC ?_|refine zbn ?_|refine zcl ?_|refine zbX ?_)
 | ((with_reducible refine zco [32] ?hx ?_);(case hx=>exact rfl))
 | ((with_reducible refine zdA ?hx (λ R L hL hR=>?_));(case hx=>exact rfl))
 | ((with_reducible replace hF:=isE hF);(dsimp only[zjT,zuH,zhK] at hF);first|rewrite[zen] at hF|rewrite[zlY] at hF)
 | ((with_reducible refine zb0 ?_);(with_reducible replace hF:=zeg 1 hF);((refine Lp.cutI hF rfl rfl ?_ ?_) <;> clear hF);(intro hF);rotate_left;(rintro _ hF);rotate_right)
 | ((with_reducible refine zbb ?_);(with_reducible replace hF:=toLp 1 1 hF);exact Lp.headI hF (_,()) ⟨_,rfl,rfl,rfl,rfl⟩ (pr2 (by first|exact rfl|assumption|omega|(simp only[List.length_set];done)) rfl))
 | ((with_reducible refine zcp ?_);(with_reducible replace hF:=toLp 1 2 hF);((refine Lp.loopI hF (_,()) rfl ⟨_,rfl,rfl,rfl,rfl⟩ (pr2 (by first|exact rfl|assumption|omega|(simp only[List.length_set];done)) rfl) (λ _=>rfl) ?_);clear hF);(rintro n ⟨_,_⟩ hF))
 | ((with_reducible refine zcq ?_);(with_reducible replace hF:=toLp 1 2 hF);exact Lp.backI hF (_,()) ⟨_,rfl,rfl,rfl,rfl⟩ (pr2 (by first|exact rfl|assumption|omega|(simp only[List.length_set];done)) rfl))
 | (revert hF;(with_reducible refine G27.step ?hx ?_);(case hx=>exact rfl);intro v hF;conv=>whnf)
 | (revert hF;(with_reducible refine G28.step ?hx ?_);(case hx=>exact rfl);intro v hF;conv=>whnf)
 | (revert hF;(with_reducible refine G29.step ?hx ?_);(case hx=>exact rfl);intro v hF;conv=>whnf)
 | (revert hF;(with_reducible refine G30.lend ?hx ?_);(case hx=>exact rfl);intro v hF;conv=>whnf)
 | (revert hF;(with_reducible refine G50.lend ?hx ?_);(case hx=>exact rfl);intro v hF;conv=>whnf)
 | ((with_reducible have hI:=zmV hF);clear hI;revert hF;(refine zhq ?_);intro x hF;conv=>whnf)
 | ((with_reducible refine ztg rfl ?_);conv=>whnf)
 | ((with_reducible first|refine zcw ?hx ?_|refine zc4 ?hx ?_);(case hx=>exact rfl))
 | (revert hF;(with_reducible refine idx1 ?hn ?_);(case hn=>first|exact rfl|exact(List.length_map _)|assumption|omega|simp);intro x hx hF;conv=>whnf)
 | ((with_reducible have hG:=zeF hF);clear hF;(first|((refine ze7 hG ?hn ?hs (λ q hF=>?_));(case hn=>first|exact rfl|assumption|omega);(case hs=>exact rfl))|((refine zf5 (d:=strN) hG ?hs (λ q hF=>?_));(case hs=>exact rfl))|((refine zf6 (d:=strN) hG ?ho ?hn ?hs (λ q hF=>?_));(case ho=>exact rfl);(case hn=>exact rfl);(case hs=>exact rfl)));clear hG;conv=>whnf)
 | ((refine zed ?hn ?_);(case hn=>first|exact rfl|(simp;done)|(simp;omega));conv=>whnf)
 | ((with_reducible refine ze6 ?_);conv=>whnf)
 | ((refine⟨?hx,trivial⟩);(case hx=>(cases hF;exact rfl)))
 | ((refine⟨?hx, ?_⟩);(case hx=>decide);conv=>whnf)
 | with_reducible refine zeU ?_)

set_option maxRecDepth 20000 in
set_option maxHeartbeats 4000000 in
theorem P107:PureOK Tryz.prog 107 G107:=by
 refine zan (c:=zaq zai [(61,true,lendPg [[0]] G61)]) rfl tyOK (zap (za Tryz.func61 rfl rfl) P61 (zac)) [[0]] 1 Tryz.func107 rfl rfl (by decide) (by kernel_rfl) ?_;rintro ds d ⟨N,a0,r,rfl,hF,rfl⟩ hok;clear hok;refine⟨rfl, ?_⟩;show vc _ _ _ _ ⟨[(0, .dat (strN a0))],[]⟩ _;unfold f107 at hF;exact wk7

set_option maxRecDepth 20000 in
set_option maxHeartbeats 4000000 in
theorem P158:PureOK Tryz.prog 158 G158:=by
 refine zan (c:=zaq zai [(142,false,zby (zaq zai [(165,false,zby (zaq zai [(174,false,zby (zaq zai [(117,true,lendPg [[0],[0],[0]] G117)]) Tryz.f174)]) Tryz.f165)]) Tryz.f142),(116,true,lendPg [[1]] G116)]) rfl tyOK (zaF (za Tryz.func142 rfl rfl) (CallOK.inl rfl tyOK (zaF (za Tryz.func165 rfl rfl) (CallOK.inl rfl tyOK (zaF (za Tryz.func174 rfl rfl) (CallOK.inl rfl tyOK (zap (za Tryz.func117 rfl rfl) P117 (zac)) Tryz.func174 (by kernel_rfl)) (zac)) Tryz.func165 (by kernel_rfl)) (zac)) Tryz.func142 (by kernel_rfl)) (zap (za Tryz.func116 rfl rfl) P116 (zac))) [[0]] 2 Tryz.func158 rfl rfl (by decide) (by kernel_rfl) ?_;rintro ds d ⟨N,a0,a1,r,rfl,hF,rfl⟩ hok;clear hok;refine⟨rfl, ?_⟩;show vc _ _ _ _ ⟨[(0, .dat (zao a0)),(1, .dat (zbc a1))],[]⟩ _;unfold f158 at hF;exact wk4

set_option maxRecDepth 20000 in
set_option maxHeartbeats 4000000 in
theorem P84:PureOK Tryz.prog 84 G84:=by
 refine zan (c:=zaq zai [(119,true,zbM [[0],[0]] G119)]) rfl tyOK (zba (za Tryz.func119 rfl rfl) P119 (zac)) [[1]] 0 Tryz.func84 rfl rfl (by decide) (by kernel_rfl) ?_;rintro ds d ⟨N,r,rfl,hF,rfl⟩ hok;clear hok;refine⟨rfl, ?_⟩;show vc _ _ _ _ ⟨[],[]⟩ _;unfold f84 at hF;exact wk7

set_option maxRecDepth 20000 in
set_option maxHeartbeats 4000000 in
theorem Q32 (N:Nat):CallOK Tryz.prog 32 (effPg zpC (H32 N)):=by
 induction N with
 | zero=>exact zaJ λ x y h=>(by cases (show (none:Option (Int×ByteArray×Int))=some y from h))
 | succ N ih =>
  refine zax (c:=zaq zai [(32,true,effPg zpC (H32 N)),(53,false,zby (zaq zai []) Tryz.f53),(61,true,lendPg [[0]] G61)]) rfl tyOK (zae (za Tryz.func32 rfl rfl) ih (zaF (za Tryz.func53 rfl rfl) (CallOK.inl rfl tyOK (zac) Tryz.func53 (by kernel_rfl)) (zap (za Tryz.func61 rfl rfl) P61 (zac)))) 1000 Srf32 zxY Tryz.func32 rfl rfl (by kernel_rfl) rfl rfl rfl rfl rfl rfl rfl rfl (λ _=>rfl) (λ _=>rfl) (λ _ _=>⟨rfl,rfl⟩) ?_;rintro⟨s0,s1,s2,s3,s4⟩ y hF;have hF:f32b (f32 N) N s0 s1 s2 s3 s4=some y:=hF;show vc _ _ _ _ ⟨[(0, .ptr 0 0),(1, .dat (strN s0))],[(0, .box [.ptr 1 0, .rs 2 (List.length s1)]),(1, .box [.mp 3, .mp 4, .mp 5]),(2,(rW s1)),(3,(sW [4] s2)),(4,(eW s3)),(5,(mW s4))]⟩ _;unfold f32b at hF;exact wk5
theorem P32:CallOK Tryz.prog 32 (effPg zpC G32):=zbf Q32

set_option maxRecDepth 20000 in
set_option maxHeartbeats 4000000 in
theorem Q33 (N:Nat):CallOK Tryz.prog 33 (effPg zpD (H33 N)):=by
 induction N with
 | zero=>exact zaJ λ x y h=>(by cases (show (none:Option ((List Int)×Int))=some y from h))
 | succ N ih =>
  refine zax (c:=zaq zai [(33,true,effPg zpD (H33 N)),(63,false,zby (zaq zai []) Tryz.f63),(62,false,zby (zaq zai [(53,false,zby (zaq zai []) Tryz.f53),(61,true,lendPg [[0]] G61)]) Tryz.f62)]) rfl tyOK (zae (za Tryz.func33 rfl rfl) ih (zaF (za Tryz.func63 rfl rfl) (CallOK.inl rfl tyOK (zac) Tryz.func63 (by kernel_rfl)) (zaF (za Tryz.func62 rfl rfl) (CallOK.inl rfl tyOK (zaF (za Tryz.func53 rfl rfl) (CallOK.inl rfl tyOK (zac) Tryz.func53 (by kernel_rfl)) (zap (za Tryz.func61 rfl rfl) P61 (zac))) Tryz.func62 (by kernel_rfl)) (zac)))) 1000 Srf33 zxZ Tryz.func33 rfl rfl (by kernel_rfl) rfl rfl rfl rfl rfl rfl rfl rfl (λ _=>rfl) (λ _=>rfl) (λ _ _=>⟨rfl,rfl⟩) ?_;rintro⟨s0,s1,s2,s3,s4⟩ y hF;have hF:f33b (f33 N) N s0 s1 s2 s3 s4=some y:=hF;show vc _ _ _ _ ⟨[(0, .ptr 0 0),(1, .dat (strN s0))],[(0, .box [.ptr 1 0, .rs 2 (List.length s1)]),(1, .box [.mp 3, .mp 4, .mp 5]),(2,(rW s1)),(3,(sW [4] s2)),(4,(eW s3)),(5,(mW s4))]⟩ _;unfold f33b at hF;exact wk5
theorem P33:CallOK Tryz.prog 33 (effPg zpD G33):=zbf Q33

set_option maxRecDepth 20000 in
set_option maxHeartbeats 4000000 in
theorem Q34 (N:Nat):CallOK Tryz.prog 34 (effPg zpE (H34 N)):=by
 induction N with
 | zero=>exact zaJ λ x y h=>(by cases (show (none:Option (Tally×Int))=some y from h))
 | succ N ih =>
  refine zax (c:=zaq zai [(34,true,effPg zpE (H34 N)),(62,false,zby (zaq zai [(53,false,zby (zaq zai []) Tryz.f53),(61,true,lendPg [[0]] G61)]) Tryz.f62),(64,true,lendPg [[0],[0]] G64)]) rfl tyOK (zae (za Tryz.func34 rfl rfl) ih (zaF (za Tryz.func62 rfl rfl) (CallOK.inl rfl tyOK (zaF (za Tryz.func53 rfl rfl) (CallOK.inl rfl tyOK (zac) Tryz.func53 (by kernel_rfl)) (zap (za Tryz.func61 rfl rfl) P61 (zac))) Tryz.func62 (by kernel_rfl)) (zap (za Tryz.func64 rfl rfl) P64 (zac)))) 1000 Srf34 zx0 Tryz.func34 rfl rfl (by kernel_rfl) rfl rfl rfl rfl rfl rfl rfl rfl (λ _=>rfl) (λ _=>rfl) (λ _ _=>⟨rfl,rfl⟩) ?_;rintro⟨s0,s1,s2,s3,s4⟩ y hF;have hF:f34b (f34 N) N s0 s1 s2 s3 s4=some y:=hF;show vc _ _ _ _ ⟨[(0, .ptr 0 0),(1, .dat (strN s0))],[(0, .box [.ptr 1 0, .rs 2 (List.length s1)]),(1, .box [.mp 3, .mp 4, .mp 5]),(2,(rW s1)),(3,(sW [4] s2)),(4,(eW s3)),(5,(mW s4))]⟩ _;unfold f34b at hF;exact wk5
theorem P34:CallOK Tryz.prog 34 (effPg zpE G34):=zbf Q34

set_option maxRecDepth 20000 in
set_option maxHeartbeats 4000000 in
theorem Q36 (N:Nat):CallOK Tryz.prog 36 (effPg zpF (H36 N)):=by
 induction N with
 | zero=>exact zaJ λ x y h=>(by cases (show (none:Option (Int×Int))=some y from h))
 | succ N ih =>
  refine zax (c:=zaq zai [(36,true,effPg zpF (H36 N)),(62,false,zby (zaq zai [(53,false,zby (zaq zai []) Tryz.f53),(61,true,lendPg [[0]] G61)]) Tryz.f62),(53,false,zby (zaq zai []) Tryz.f53),(61,true,lendPg [[0]] G61)]) rfl tyOK (zae (za Tryz.func36 rfl rfl) ih (zaF (za Tryz.func62 rfl rfl) (CallOK.inl rfl tyOK (zaF (za Tryz.func53 rfl rfl) (CallOK.inl rfl tyOK (zac) Tryz.func53 (by kernel_rfl)) (zap (za Tryz.func61 rfl rfl) P61 (zac))) Tryz.func62 (by kernel_rfl)) (zaF (za Tryz.func53 rfl rfl) (CallOK.inl rfl tyOK (zac) Tryz.func53 (by kernel_rfl)) (zap (za Tryz.func61 rfl rfl) P61 (zac))))) 1000 Srf36 zx1 Tryz.func36 rfl rfl (by kernel_rfl) rfl rfl rfl rfl rfl rfl rfl rfl (λ _=>rfl) (λ _=>rfl) (λ _ _=>⟨rfl,rfl⟩) ?_;rintro⟨s0,s1,s2,s3,s4,s5⟩ y hF;have hF:f36b (f36 N) N s0 s1 s2 s3 s4 s5=some y:=hF;show vc _ _ _ _ ⟨[(0, .ptr 0 0),(1, .dat (strN s0)),(2, .dat (strN s1))],[(0, .box [.ptr 1 0, .rs 2 (List.length s2)]),(1, .box [.mp 3, .mp 4, .mp 5]),(2,(rW s2)),(3,(sW [4] s3)),(4,(eW s4)),(5,(mW s5))]⟩ _;unfold f36b at hF;exact wk5
theorem P36:CallOK Tryz.prog 36 (effPg zpF G36):=zbf Q36

set_option maxRecDepth 20000 in
set_option maxHeartbeats 4000000 in
theorem Q40 (N:Nat):CallOK Tryz.prog 40 (effPg zpG (H40 N)):=by
 induction N with
 | zero=>exact zaJ λ x y h=>(by cases (show (none:Option (Int×Int))=some y from h))
 | succ N ih =>
  refine zax (c:=zaq zai [(40,true,effPg zpG (H40 N)),(62,false,zby (zaq zai [(53,false,zby (zaq zai []) Tryz.f53),(61,true,lendPg [[0]] G61)]) Tryz.f62),(64,true,lendPg [[0],[0]] G64)]) rfl tyOK (zae (za Tryz.func40 rfl rfl) ih (zaF (za Tryz.func62 rfl rfl) (CallOK.inl rfl tyOK (zaF (za Tryz.func53 rfl rfl) (CallOK.inl rfl tyOK (zac) Tryz.func53 (by kernel_rfl)) (zap (za Tryz.func61 rfl rfl) P61 (zac))) Tryz.func62 (by kernel_rfl)) (zap (za Tryz.func64 rfl rfl) P64 (zac)))) 1000 Srf40 zx2 Tryz.func40 rfl rfl (by kernel_rfl) rfl rfl rfl rfl rfl rfl rfl rfl (λ _=>rfl) (λ _=>rfl) (λ _ _=>⟨rfl,rfl⟩) ?_;rintro⟨s0,s1,s2,s3,s4⟩ y hF;have hF:f40b (f40 N) N s0 s1 s2 s3 s4=some y:=hF;show vc _ _ _ _ ⟨[(0, .ptr 0 0),(1, .dat (strN s0))],[(0, .box [.ptr 1 0, .rs 2 (List.length s1)]),(1, .box [.mp 3, .mp 4, .mp 5]),(2,(rW s1)),(3,(sW [4] s2)),(4,(eW s3)),(5,(mW s4))]⟩ _;unfold f40b at hF;exact wk5
theorem P40:CallOK Tryz.prog 40 (effPg zpG G40):=zbf Q40


end Go.Vc
