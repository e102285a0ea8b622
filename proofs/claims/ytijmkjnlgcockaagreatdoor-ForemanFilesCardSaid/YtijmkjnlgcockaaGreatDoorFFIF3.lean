/-
  A library for proofs about Go functions by symbolic evaluation,and plain Lean functions that the walked Go functions compute (written by a program of this claim).
-/
import Derived.Test.YtijmkjnlgcockaaGreatDoorFFIF1
import Derived.Test.YtijmkjnlgcockaaGreatDoorFFIF2
set_option linter.unusedVariables false
set_option linter.unnecessarySimpa false
set_option linter.unusedSimpArgs false
namespace Go.Vc
open Go.Proofs
set_option maxRecDepth 20000 in
set_option maxHeartbeats 4000000 in
theorem P105:PureOK Tryz.prog 105 G105:=by
 refine zae (c:=zam zaf []) rfl tyOK (zac) [[0],[0]] 1 Tryz.func105 rfl rfl (by decide) (by kernel_rfl) ?_;rintro ds d ⟨N,a0,r,rfl,hF,rfl⟩ hok;clear hok;refine⟨rfl, ?_⟩;show vc _ _ _ _ ⟨[(0, .dat (strN a0))],[]⟩ _;unfold f105 at hF;exact wk6

set_option maxRecDepth 20000 in
set_option maxHeartbeats 4000000 in
theorem P88:PureOK Tryz.prog 88 G88:=by
 refine zae (c:=zam zaf []) rfl tyOK (zac) [[0]] 1 Tryz.func88 rfl rfl (by decide) (by kernel_rfl) ?_;rintro ds d ⟨N,a0,r,rfl,hF,rfl⟩ hok;clear hok;refine⟨rfl, ?_⟩;show vc _ _ _ _ ⟨[(0, .dat (strN a0))],[]⟩ _;unfold f88 at hF;exact wk6

set_option maxRecDepth 20000 in
set_option maxHeartbeats 4000000 in
theorem P108:PureOK Tryz.prog 108 G108:=by
 refine zae (c:=zam zaf []) rfl tyOK (zac) [[0]] 2 Tryz.func108 rfl rfl (by decide) (by kernel_rfl) ?_;rintro ds d ⟨N,a0,a1,r,rfl,hF,rfl⟩ hok;clear hok;refine⟨rfl, ?_⟩;show vc _ _ _ _ ⟨[(0, .dat (zau a0)),(1, .dat (A2iN.d a1))],[]⟩ _;unfold f108 at hF;exact wk10

set_option maxRecDepth 20000 in
set_option maxHeartbeats 4000000 in
theorem Q198 (N:Nat):CallOK Tryz.prog 198 (effPg zmt (H198 N)):=by
 induction N with
 | zero=>exact zaR λ x y h=>(by cases (show (none:Option (Int))=some y from h))
 | succ N ih =>
  refine zaB (c:=zam zaf [(198,true,effPg zmt (H198 N))]) rfl tyOK (zak (za Tryz.func198 rfl rfl) ih (zac)) 1000 zye zwP Tryz.func198 rfl rfl (by kernel_rfl) rfl rfl rfl rfl rfl rfl rfl rfl (λ _=>rfl) (λ _=>rfl) (λ _ _=>⟨rfl,rfl⟩) ?_;rintro⟨s0,s1,s2,s3⟩ y hF;have hF:zup (f198 N) N s0 s1 s2 s3=some y:=hF;show vc _ _ _ _ ⟨[(0, .dat (.agg [strN s0.name,iN s0.thick])),(1, .ptr 0 0)],[(0, .box [.mp 1, .mp 2, .mp 3]),(1,(sW [2] s1)),(2,(eW s2)),(3,(mW s3))]⟩ _;unfold zup at hF;exact wk10
theorem P198:CallOK Tryz.prog 198 (effPg zmt G198):=zbu Q198

set_option maxRecDepth 20000 in
set_option maxHeartbeats 4000000 in
theorem Q200 (N:Nat):CallOK Tryz.prog 200 (effPg zmu (H200 N)):=by
 induction N with
 | zero=>exact zaR λ x y h=>(by cases (show (none:Option (Int))=some y from h))
 | succ N ih =>
  refine zaB (c:=zam zaf [(200,true,effPg zmu (H200 N))]) rfl tyOK (zak (za Tryz.func200 rfl rfl) ih (zac)) 1000 zyh zwQ Tryz.func200 rfl rfl (by kernel_rfl) rfl rfl rfl rfl rfl rfl rfl rfl (λ _=>rfl) (λ _=>rfl) (λ _ _=>⟨rfl,rfl⟩) ?_;rintro⟨s0,s1,s2,s3⟩ y hF;have hF:zuq (f200 N) N s0 s1 s2 s3=some y:=hF;show vc _ _ _ _ ⟨[(0, .dat (.agg [strN s0.name])),(1, .ptr 0 0)],[(0, .box [.mp 1, .mp 2, .mp 3]),(1,(sW [2] s1)),(2,(eW s2)),(3,(mW s3))]⟩ _;unfold zuq at hF;exact wk10
theorem P200:CallOK Tryz.prog 200 (effPg zmu G200):=zbu Q200

set_option maxRecDepth 20000 in
set_option maxHeartbeats 4000000 in
theorem Q202 (N:Nat):CallOK Tryz.prog 202 (effPg zmv (H202 N)):=by
 induction N with
 | zero=>exact zaR λ x y h=>(by cases (show (none:Option (Int))=some y from h))
 | succ N ih =>
  refine zaB (c:=zam zaf [(202,true,effPg zmv (H202 N))]) rfl tyOK (zak (za Tryz.func202 rfl rfl) ih (zac)) 1000 zyk zwR Tryz.func202 rfl rfl (by kernel_rfl) rfl rfl rfl rfl rfl rfl rfl rfl (λ _=>rfl) (λ _=>rfl) (λ _ _=>⟨rfl,rfl⟩) ?_;rintro⟨s0,s1,s2,s3⟩ y hF;have hF:zur (f202 N) N s0 s1 s2 s3=some y:=hF;show vc _ _ _ _ ⟨[(0, .dat (.agg [strN s0.stone,strN s0.edition])),(1, .ptr 0 0)],[(0, .box [.mp 1, .mp 2, .mp 3]),(1,(sW [2] s1)),(2,(eW s2)),(3,(mW s3))]⟩ _;unfold zur at hF;exact wk10
theorem P202:CallOK Tryz.prog 202 (effPg zmv G202):=zbu Q202

set_option maxRecDepth 20000 in
set_option maxHeartbeats 4000000 in
theorem Q204 (N:Nat):CallOK Tryz.prog 204 (effPg zmw (H204 N)):=by
 induction N with
 | zero=>exact zaR λ x y h=>(by cases (show (none:Option (Int))=some y from h))
 | succ N ih =>
  refine zaB (c:=zam zaf [(204,true,effPg zmw (H204 N))]) rfl tyOK (zak (za Tryz.func204 rfl rfl) ih (zac)) 1000 zyn zwS Tryz.func204 rfl rfl (by kernel_rfl) rfl rfl rfl rfl rfl rfl rfl rfl (λ _=>rfl) (λ _=>rfl) (λ _ _=>⟨rfl,rfl⟩) ?_;rintro⟨s0,s1,s2,s3⟩ y hF;have hF:zus (f204 N) N s0 s1 s2 s3=some y:=hF;show vc _ _ _ _ ⟨[(0, .dat (.agg [strN s0.edition,iN s0.n])),(1, .ptr 0 0)],[(0, .box [.mp 1, .mp 2, .mp 3]),(1,(sW [2] s1)),(2,(eW s2)),(3,(mW s3))]⟩ _;unfold zus at hF;exact wk10
theorem P204:CallOK Tryz.prog 204 (effPg zmw G204):=zbu Q204

set_option maxRecDepth 20000 in
set_option maxHeartbeats 4000000 in
theorem Q206 (N:Nat):CallOK Tryz.prog 206 (effPg zmx (H206 N)):=by
 induction N with
 | zero=>exact zaR λ x y h=>(by cases (show (none:Option (Int))=some y from h))
 | succ N ih =>
  refine zaB (c:=zam zaf [(206,true,effPg zmx (H206 N))]) rfl tyOK (zak (za Tryz.func206 rfl rfl) ih (zac)) 1000 zyq zwT Tryz.func206 rfl rfl (by kernel_rfl) rfl rfl rfl rfl rfl rfl rfl rfl (λ _=>rfl) (λ _=>rfl) (λ _ _=>⟨rfl,rfl⟩) ?_;rintro⟨s0,s1,s2,s3⟩ y hF;have hF:zut (f206 N) N s0 s1 s2 s3=some y:=hF;show vc _ _ _ _ ⟨[(0, .dat (.agg [strN s0.stone,iN s0.good,iN s0.spoilt])),(1, .ptr 0 0)],[(0, .box [.mp 1, .mp 2, .mp 3]),(1,(sW [2] s1)),(2,(eW s2)),(3,(mW s3))]⟩ _;unfold zut at hF;exact wk10
theorem P206:CallOK Tryz.prog 206 (effPg zmx G206):=zbu Q206

set_option maxRecDepth 20000 in
set_option maxHeartbeats 4000000 in
theorem Q208 (N:Nat):CallOK Tryz.prog 208 (effPg zmy (H208 N)):=by
 induction N with
 | zero=>exact zaR λ x y h=>(by cases (show (none:Option (Int))=some y from h))
 | succ N ih =>
  refine zaB (c:=zam zaf [(208,true,effPg zmy (H208 N))]) rfl tyOK (zak (za Tryz.func208 rfl rfl) ih (zac)) 1000 zyt zwU Tryz.func208 rfl rfl (by kernel_rfl) rfl rfl rfl rfl rfl rfl rfl rfl (λ _=>rfl) (λ _=>rfl) (λ _ _=>⟨rfl,rfl⟩) ?_;rintro⟨s0,s1,s2,s3⟩ y hF;have hF:zuu (f208 N) N s0 s1 s2 s3=some y:=hF;show vc _ _ _ _ ⟨[(0, .dat (.agg [strN s0.edition])),(1, .ptr 0 0)],[(0, .box [.mp 1, .mp 2, .mp 3]),(1,(sW [2] s1)),(2,(eW s2)),(3,(mW s3))]⟩ _;unfold zuu at hF;exact wk10
theorem P208:CallOK Tryz.prog 208 (effPg zmy G208):=zbu Q208

set_option maxRecDepth 20000 in
set_option maxHeartbeats 4000000 in
theorem P64:PureOK Tryz.prog 64 G64:=by
 refine zae (c:=zam zaf []) rfl tyOK (zac) [[0]] 2 Tryz.func64 rfl rfl (by decide) (by kernel_rfl) ?_;rintro ds d ⟨N,a0,a1,r,rfl,hF,rfl⟩ hok;clear hok;refine⟨rfl, ?_⟩;show vc _ _ _ _ ⟨[(0, .ep [strN a0.name,bN a0.closed,za3 a0.places,iN a0.from_,iN a0.paper,iN a0.delivered,iN a0.spoilt]),(1, .dat (iN a1))],[]⟩ _;unfold f64 at hF;exact wk5

set_option maxRecDepth 20000 in
set_option maxHeartbeats 4000000 in
theorem P213:CallOK Tryz.prog 213 (effPg zmA G213):=by
 refine zaB (c:=zam zaf []) rfl tyOK (zac) 1000 ⟨[0],[0,1],[],[]⟩ ⟨[0],[0,1],[],[]⟩ Tryz.func213 rfl rfl (by kernel_rfl) rfl rfl rfl rfl rfl rfl rfl rfl (λ _=>rfl) (λ _=>rfl) (λ _ _=>⟨rfl,rfl⟩) ?_;rintro⟨i,es,x⟩ y ⟨hx,h1,h2⟩;replace h1:0<=zn3 x:=h1;replace h2:zn3 x<x.places.length:=h2;unfold zn3 zn2 W at h1 h2;replace hx:getF es i=some x:=hx;show vc _ _ _ _ ⟨[(0, .po 0 i 0)],[(0, .fam [] (encF strN EditionM.m es) [(i,2,1)]),(1, .row 3 1 (List.map iN x.places))]⟩ _
 repeat' (first
 | ((with_reducible first|refine q0 _ _ ?_|refine q1 _ _ _ _ ?_|refine q2 _ _ _ ?_);clear Q q0 q1 q2)
 | ((with_reducible first|refine zd2 ?hx (λ Q q0 q1 q2=>?_)|refine zed ?hx (λ Q q0 q1 q2=>?_));(case hx=>exact rfl);conv=>whnf)
 | ((with_reducible refine zcJ ?_);(first|((with_reducible refine hR _ ?_);clear R hR)|((with_reducible refine hL _ ?_);clear L hL)))
 | ((with_reducible refine zc5 ?_);(with_reducible refine hR _ _ ?hx ?_);(case hx=>kernel_rfl);clear R hR)
 | ((with_reducible first|refine zce ?_|refine zcx ?_);conv=>whnf)
 | (with_reducible first|refine zct ?_|refine zcH ?_|refine zd1 ?_|refine zde ?_|refine zby (λ R hR=>?_)|refine zbw ?_|refine zbx ?_)
 | ((with_reducible refine zcM [] ?hx ?_);(case hx=>exact rfl))
 | ((with_reducible refine zeb ?hx (λ R L hL hR=>?_));(case hx=>exact rfl))
 | ((refine zf0 rfl hx (by exact rfl) ?_);conv=>whnf)
 | ((refine Or.inl ⟨_,zqd, ?_⟩);conv=>whnf)
 | ((refine⟨?h, ?_⟩;(case h=>exact⟨h1,h2⟩));conv=>whnf)
 | ((with_reducible refine zim ?hn ?_);(case hn=>first|exact rfl|assumption|omega);conv=>whnf)
 | ((with_reducible refine zfI ?_))
 | ((refine⟨?h, ?_⟩;(case h=>(simp only[List.length_map];done)));conv=>whnf)
 | (show retE _ _ _ _ _ _ _ _;conv=>whnf)
 | ((refine Or.inl ?_);(conv=>whnf);exact⟨rfl,rfl,rfl⟩))

set_option maxRecDepth 20000 in
set_option maxHeartbeats 4000000 in
theorem Q197 (N:Nat):CallOK Tryz.prog 197 (effPg zmB (H197 N)):=by
 induction N with
 | zero=>exact zaR λ x y h=>(by cases (show (none:Option (LS))=some y from h))
 | succ N ih =>
  refine zaB (c:=zam zaf [(197,true,effPg zmB (H197 N))]) rfl tyOK (zak (za Tryz.func197 rfl rfl) ih (zac)) 1000 zyw zwV Tryz.func197 rfl rfl (by kernel_rfl) rfl rfl rfl rfl rfl rfl rfl rfl (λ _=>rfl) (λ _=>rfl) (λ _ _=>⟨rfl,rfl⟩) ?_;rintro⟨s0,s1,s2,s3⟩ y hF;have hF:zuv (f197 N) N s0 s1 s2 s3=some y:=hF;show vc _ _ _ _ ⟨[(0, .dat (.agg [strN s0.name,iN s0.thick])),(1, .ptr 0 0)],[(0, .box [.mp 1, .mp 2, .mp 3]),(1,(sW [2] s1)),(2,(eW s2)),(3,(mW s3))]⟩ _;unfold zuv at hF;exact wk7
theorem P197:CallOK Tryz.prog 197 (effPg zmB G197):=zbu Q197

set_option maxRecDepth 20000 in
set_option maxHeartbeats 4000000 in
theorem Q199 (N:Nat):CallOK Tryz.prog 199 (effPg zmC (H199 N)):=by
 induction N with
 | zero=>exact zaR λ x y h=>(by cases (show (none:Option (LE))=some y from h))
 | succ N ih =>
  refine zaB (c:=zam zaf [(199,true,effPg zmC (H199 N))]) rfl tyOK (zak (za Tryz.func199 rfl rfl) ih (zac)) 1000 zyz zwW Tryz.func199 rfl rfl (by kernel_rfl) rfl rfl rfl rfl rfl rfl rfl rfl (λ _=>rfl) (λ _=>rfl) (λ _ _=>⟨rfl,rfl⟩) ?_;rintro⟨s0,s1,s2,s3⟩ y hF;have hF:zuw (f199 N) N s0 s1 s2 s3=some y:=hF;show vc _ _ _ _ ⟨[(0, .dat (.agg [strN s0.name])),(1, .ptr 0 0)],[(0, .box [.mp 1, .mp 2, .mp 3]),(1,(sW [2] s1)),(2,(eW s2)),(3,(mW s3))]⟩ _;unfold zuw at hF;exact wk7
theorem P199:CallOK Tryz.prog 199 (effPg zmC G199):=zbu Q199

set_option maxRecDepth 20000 in
set_option maxHeartbeats 4000000 in
theorem Q201 (N:Nat):CallOK Tryz.prog 201 (effPg zmD (H201 N)):=by
 induction N with
 | zero=>exact zaR λ x y h=>(by cases (show (none:Option (LS×LE))=some y from h))
 | succ N ih =>
  refine zaB (c:=zam zaf [(201,true,effPg zmD (H201 N))]) rfl tyOK (zak (za Tryz.func201 rfl rfl) ih (zac)) 1000 zyC zwX Tryz.func201 rfl rfl (by kernel_rfl) rfl rfl rfl rfl rfl rfl rfl rfl (λ _=>rfl) (λ _=>rfl) (λ _ _=>⟨rfl,rfl⟩) ?_;rintro⟨s0,s1,s2,s3⟩ y hF;have hF:zux (f201 N) N s0 s1 s2 s3=some y:=hF;show vc _ _ _ _ ⟨[(0, .dat (.agg [strN s0.stone,strN s0.edition])),(1, .ptr 0 0)],[(0, .box [.mp 1, .mp 2, .mp 3]),(1,(sW [2] s1)),(2,(eW s2)),(3,(mW s3))]⟩ _;unfold zux at hF;exact wk4
theorem P201:CallOK Tryz.prog 201 (effPg zmD G201):=zbu Q201

set_option maxRecDepth 20000 in
set_option maxHeartbeats 4000000 in
theorem Q203 (N:Nat):CallOK Tryz.prog 203 (effPg zmE (H203 N)):=by
 induction N with
 | zero=>exact zaR λ x y h=>(by cases (show (none:Option (LE))=some y from h))
 | succ N ih =>
  refine zaB (c:=zam zaf [(203,true,effPg zmE (H203 N))]) rfl tyOK (zak (za Tryz.func203 rfl rfl) ih (zac)) 1000 zyF zwY Tryz.func203 rfl rfl (by kernel_rfl) rfl rfl rfl rfl rfl rfl rfl rfl (λ _=>rfl) (λ _=>rfl) (λ _ _=>⟨rfl,rfl⟩) ?_;rintro⟨s0,s1,s2,s3⟩ y hF;have hF:zuy (f203 N) N s0 s1 s2 s3=some y:=hF;show vc _ _ _ _ ⟨[(0, .dat (.agg [strN s0.edition,iN s0.n])),(1, .ptr 0 0)],[(0, .box [.mp 1, .mp 2, .mp 3]),(1,(sW [2] s1)),(2,(eW s2)),(3,(mW s3))]⟩ _;unfold zuy at hF;exact wk4
theorem P203:CallOK Tryz.prog 203 (effPg zmE G203):=zbu Q203

set_option maxRecDepth 20000 in
set_option maxHeartbeats 4000000 in
theorem Q205 (N:Nat):CallOK Tryz.prog 205 (effPg zmF (H205 N)):=by
 induction N with
 | zero=>exact zaR λ x y h=>(by cases (show (none:Option (LE))=some y from h))
 | succ N ih =>
  refine zaB (c:=zam zaf [(205,true,effPg zmF (H205 N))]) rfl tyOK (zak (za Tryz.func205 rfl rfl) ih (zac)) 1000 zyI zwZ Tryz.func205 rfl rfl (by kernel_rfl) rfl rfl rfl rfl rfl rfl rfl rfl (λ _=>rfl) (λ _=>rfl) (λ _ _=>⟨rfl,rfl⟩) ?_;rintro⟨s0,s1,s2,s3⟩ y hF;have hF:zuz (f205 N) N s0 s1 s2 s3=some y:=hF;show vc _ _ _ _ ⟨[(0, .dat (.agg [strN s0.stone,iN s0.good,iN s0.spoilt])),(1, .ptr 0 0)],[(0, .box [.mp 1, .mp 2, .mp 3]),(1,(sW [2] s1)),(2,(eW s2)),(3,(mW s3))]⟩ _;unfold zuz at hF;exact wk4
theorem P205:CallOK Tryz.prog 205 (effPg zmF G205):=zbu Q205

set_option maxRecDepth 20000 in
set_option maxHeartbeats 4000000 in
theorem Q207 (N:Nat):CallOK Tryz.prog 207 (effPg zmG (H207 N)):=by
 induction N with
 | zero=>exact zaR λ x y h=>(by cases (show (none:Option (LE))=some y from h))
 | succ N ih =>
  refine zaB (c:=zam zaf [(207,true,effPg zmG (H207 N))]) rfl tyOK (zak (za Tryz.func207 rfl rfl) ih (zac)) 1000 zyL zw0 Tryz.func207 rfl rfl (by kernel_rfl) rfl rfl rfl rfl rfl rfl rfl rfl (λ _=>rfl) (λ _=>rfl) (λ _ _=>⟨rfl,rfl⟩) ?_;rintro⟨s0,s1,s2,s3⟩ y hF;have hF:zuA (f207 N) N s0 s1 s2 s3=some y:=hF;show vc _ _ _ _ ⟨[(0, .dat (.agg [strN s0.edition])),(1, .ptr 0 0)],[(0, .box [.mp 1, .mp 2, .mp 3]),(1,(sW [2] s1)),(2,(eW s2)),(3,(mW s3))]⟩ _;unfold zuA at hF;exact wk4
theorem P207:CallOK Tryz.prog 207 (effPg zmG G207):=zbu Q207

set_option maxRecDepth 20000 in
set_option maxHeartbeats 4000000 in
theorem Q209 (N:Nat):CallOK Tryz.prog 209 (effPg zmH (H209 N)):=by
 induction N with
 | zero=>exact zaR λ x y h=>(by cases (show (none:Option (LE×LC))=some y from h))
 | succ N ih =>
  refine zaB (c:=zam zaf [(209,true,effPg zmH (H209 N))]) rfl tyOK (zak (za Tryz.func209 rfl rfl) ih (zac)) 1000 zyO zw1 Tryz.func209 rfl rfl (by kernel_rfl) rfl rfl rfl rfl rfl rfl rfl rfl (λ _=>rfl) (λ _=>rfl) (λ _ _=>⟨rfl,rfl⟩) ?_;rintro⟨s0,s1,s2,s3⟩ y hF;have hF:zuB (f209 N) N s0 s1 s2 s3=some y:=hF;show vc _ _ _ _ ⟨[(0, .dat (.agg [strN s0.customer,strN s0.edition,iN s0.n])),(1, .ptr 0 0)],[(0, .box [.mp 1, .mp 2, .mp 3]),(1,(sW [2] s1)),(2,(eW s2)),(3,(mW s3))]⟩ _;unfold zuB at hF;exact wk4
theorem P209:CallOK Tryz.prog 209 (effPg zmH G209):=zbu Q209

set_option maxRecDepth 20000 in
set_option maxHeartbeats 4000000 in
theorem Q214 (N:Nat):CallOK Tryz.prog 214 (effPg zmI (H214 N)):=by
 induction N with
 | zero=>exact zaR λ x y h=>(by cases (show (none:Option (LS×LE))=some y from h))
 | succ N ih =>
  refine zaB (c:=zam zaf [(214,true,effPg zmI (H214 N))]) rfl tyOK (zak (za Tryz.func214 rfl rfl) ih (zac)) 1000 zyR zw2 Tryz.func214 rfl rfl (by kernel_rfl) rfl rfl rfl rfl rfl rfl rfl rfl (λ _=>rfl) (λ _=>rfl) (λ _ _=>⟨rfl,rfl⟩) ?_;rintro⟨s0,s1,s2,s3⟩ y hF;have hF:zuC (f214 N) N s0 s1 s2 s3=some y:=hF;show vc _ _ _ _ ⟨[(0, .dat (.agg [strN s0.stone])),(1, .ptr 0 0)],[(0, .box [.mp 1, .mp 2, .mp 3]),(1,(sW [2] s1)),(2,(eW s2)),(3,(mW s3))]⟩ _;unfold zuC at hF;exact wk4
theorem P214:CallOK Tryz.prog 214 (effPg zmI G214):=zbu Q214

set_option maxRecDepth 20000 in
set_option maxHeartbeats 4000000 in
theorem P117:PureOK Tryz.prog 117 G117:=by
 refine zae (c:=zam zaf []) rfl tyOK (zac) [[0]] 3 Tryz.func117 rfl rfl (by decide) (by kernel_rfl) ?_;rintro ds d ⟨N,a0,a1,a2,r,rfl,hF,rfl⟩ hok;clear hok;refine⟨rfl, ?_⟩;show vc _ _ _ _ ⟨[(0, .dat (iN a0)),(1, .dat (iN a1)),(2, .dat (iN a2))],[]⟩ _;unfold f117 at hF;exact wk9

set_option maxRecDepth 20000 in
set_option maxHeartbeats 4000000 in
theorem P143:PureOK Tryz.prog 143 G143:=by
 refine zae (c:=zam zaf [(166,false,zbv (zam zaf []) Tryz.f166)]) rfl tyOK (zaH (za Tryz.func166 rfl rfl) (CallOK.inl rfl tyOK (zac) Tryz.func166 (by kernel_rfl)) (zac)) [[1]] 1 Tryz.func143 rfl rfl (by decide) (by kernel_rfl) ?_;rintro ds d ⟨N,a0,r,rfl,hF,rfl⟩ hok;clear hok;refine⟨rfl, ?_⟩;show vc _ _ _ _ ⟨[(0, .dat (zar a0))],[]⟩ _;unfold f143 at hF;exact wk1

set_option maxRecDepth 20000 in
set_option maxHeartbeats 4000000 in
theorem P145:PureOK Tryz.prog 145 G145:=by
 refine zae (c:=zam zaf []) rfl tyOK (zac) [[0]] 1 Tryz.func145 rfl rfl (by decide) (by kernel_rfl) ?_;rintro ds d ⟨N,a0,r,rfl,hF,rfl⟩ hok;clear hok;refine⟨rfl, ?_⟩;show vc _ _ _ _ ⟨[(0, .dat (zar a0))],[]⟩ _;unfold f145 at hF;exact wk2

set_option maxRecDepth 20000 in
set_option maxHeartbeats 4000000 in
theorem P132:PureOK Tryz.prog 132 G132:=by
 refine zae (c:=zam zaf [(159,false,zbv (zam zaf [(160,false,zbv (zam zaf []) Tryz.f160)]) Tryz.f159)]) rfl tyOK (zaH (za Tryz.func159 rfl rfl) (CallOK.inl rfl tyOK (zaH (za Tryz.func160 rfl rfl) (CallOK.inl rfl tyOK (zac) Tryz.func160 (by kernel_rfl)) (zac)) Tryz.func159 (by kernel_rfl)) (zac)) [[0]] 3 Tryz.func132 rfl rfl (by decide) (by kernel_rfl) ?_;rintro ds d ⟨N,a0,a1,a2,r,rfl,hF,rfl⟩ hok;clear hok;refine⟨rfl, ?_⟩;show vc _ _ _ _ ⟨[(0, .dat (zar a0)),(1, .dat (iN a1)),(2, .dat (za3 a2))],[]⟩ _;unfold f132 at hF;exact wk5

set_option maxRecDepth 20000 in
set_option maxHeartbeats 4000000 in
theorem P147:PureOK Tryz.prog 147 G147:=by
 refine zae (c:=zam zaf []) rfl tyOK (zac) [[0]] 2 Tryz.func147 rfl rfl (by decide) (by kernel_rfl) ?_;rintro ds d ⟨N,a0,a1,r,rfl,hF,rfl⟩ hok;clear hok;refine⟨rfl, ?_⟩;show vc _ _ _ _ ⟨[(0, .dat (za3 a0)),(1, .dat (iN a1))],[]⟩ _;unfold f147 at hF;exact wk5

set_option maxRecDepth 20000 in
set_option maxHeartbeats 4000000 in
theorem P148:PureOK Tryz.prog 148 G148:=by
 refine zae (c:=zam zaf []) rfl tyOK (zac) [[0]] 2 Tryz.func148 rfl rfl (by decide) (by kernel_rfl) ?_;rintro ds d ⟨N,a0,a1,r,rfl,hF,rfl⟩ hok;clear hok;refine⟨rfl, ?_⟩;show vc _ _ _ _ ⟨[(0, .dat (iN a0)),(1, .dat (iN a1))],[]⟩ _;unfold f148 at hF;exact wk2

set_option maxRecDepth 20000 in
set_option maxHeartbeats 4000000 in
theorem P35:PureOK Tryz.prog 35 G35:=by
 refine zae (c:=zam zaf []) rfl tyOK (zac) [[0]] 2 Tryz.func35 rfl rfl (by decide) (by kernel_rfl) ?_;rintro ds d ⟨N,a0,a1,r,rfl,hF,rfl⟩ hok;clear hok;refine⟨rfl, ?_⟩;show vc _ _ _ _ ⟨[(0, .dat (za3 a0)),(1, .dat (za3 a1))],[]⟩ _;unfold f35 at hF;exact wk5

set_option maxRecDepth 20000 in
set_option maxHeartbeats 4000000 in
theorem P44:PureOK Tryz.prog 44 G44:=by
 refine zae (c:=zam zaf []) rfl tyOK (zac) [[1]] 0 Tryz.func44 rfl rfl (by decide) (by kernel_rfl) ?_;rintro ds d ⟨N,r,rfl,hF,rfl⟩ hok;clear hok;refine⟨rfl, ?_⟩;show vc _ _ _ _ ⟨[],[]⟩ _;unfold f44 at hF;exact wk8

set_option maxRecDepth 20000 in
set_option maxHeartbeats 4000000 in
theorem P20:PureOK Tryz.prog 20 G20:=by
 refine zae (c:=zam zaf []) rfl tyOK (zac) [[0]] 2 Tryz.func20 rfl rfl (by decide) (by kernel_rfl) ?_;rintro ds d ⟨N,a0,a1,r,rfl,hF,rfl⟩ hok;clear hok;refine⟨rfl, ?_⟩;show vc _ _ _ _ ⟨[(0, .dat (zau a0)),(1, .dat (zau a1))],[]⟩ _;unfold f20 at hF;exact wk5

set_option maxRecDepth 20000 in
set_option maxHeartbeats 4000000 in
theorem Q21 (N:Nat):CallOK Tryz.prog 21 (effPg zsa (H21 N)):=by
 induction N with
 | zero=>exact zaR λ x y h=>(by cases (show (none:Option (LB))=some y from h))
 | succ N ih =>
  refine zaB (c:=zam zaf [(21,true,effPg zsa (H21 N)),(54,false,zbv (zam zaf []) Tryz.f54),(53,false,zbv (zam zaf []) Tryz.f53)]) rfl tyOK (zak (za Tryz.func21 rfl rfl) ih (zaH (za Tryz.func54 rfl rfl) (CallOK.inl rfl tyOK (zac) Tryz.func54 (by kernel_rfl)) (zaH (za Tryz.func53 rfl rfl) (CallOK.inl rfl tyOK (zac) Tryz.func53 (by kernel_rfl)) (zac)))) 1000 Srf21 zy0 Tryz.func21 rfl rfl (by kernel_rfl) rfl rfl rfl rfl rfl rfl rfl rfl (λ _=>rfl) (λ _=>rfl) (λ _ _=>⟨rfl,rfl⟩) ?_;rintro⟨s0,s1,s2,s3⟩ y hF;have hF:f21b (f21 N) N s0 s1 s2 s3=some y:=hF;show vc _ _ _ _ ⟨[(0, .ptr 0 0)],[(0, .box [.ptr 1 0, .rs 2 (List.length s0)]),(1, .box [.mp 3, .mp 4, .mp 5]),(2,(rW s0)),(3,(sW [4] s1)),(4,(eW s2)),(5,(mW s3))]⟩ _;unfold f21b at hF;exact wk3
theorem P21:CallOK Tryz.prog 21 (effPg zsa G21):=zbu Q21

set_option maxRecDepth 20000 in
set_option maxHeartbeats 4000000 in
theorem P55:PureOK Tryz.prog 55 G55:=by
 refine zae (c:=zam zaf []) rfl tyOK (zac) [[0]] 1 Tryz.func55 rfl rfl (by decide) (by kernel_rfl) ?_;rintro ds d ⟨N,a0,r,rfl,hF,rfl⟩ hok;clear hok;refine⟨rfl, ?_⟩;show vc _ _ _ _ ⟨[(0, .ep [bN a0.made,zau a0.lines])],[]⟩ _;unfold f55 at hF;exact wk9

set_option maxRecDepth 20000 in
set_option maxHeartbeats 4000000 in
theorem P86:PureOK Tryz.prog 86 G86:=by
 refine zae (c:=zam zaf []) rfl tyOK (zac) [[0]] 1 Tryz.func86 rfl rfl (by decide) (by kernel_rfl) ?_;rintro ds d ⟨N,a0,r,rfl,hF,rfl⟩ hok;clear hok;refine⟨rfl, ?_⟩;show vc _ _ _ _ ⟨[(0, .dat (strN a0))],[]⟩ _;unfold f86 at hF;exact wk6

set_option maxRecDepth 20000 in
set_option maxHeartbeats 4000000 in
theorem P96:PureOK Tryz.prog 96 G96:=by
 refine zae (c:=zam zaf []) rfl tyOK (zac) [[0]] 3 Tryz.func96 rfl rfl (by decide) (by kernel_rfl) ?_;rintro ds d ⟨N,a0,a1,a2,r,rfl,hF,rfl⟩ hok;clear hok;refine⟨rfl, ?_⟩;show vc _ _ _ _ ⟨[(0, .dat (iN a0)),(1, .dat (iN a1)),(2, .dat (iN a2))],[]⟩ _;unfold f96 at hF;exact wk9

set_option maxRecDepth 20000 in
set_option maxHeartbeats 4000000 in
theorem P124:PureOK Tryz.prog 124 G124:=by
 refine zae (c:=zam zaf []) rfl tyOK (zac) [[0]] 3 Tryz.func124 rfl rfl (by decide) (by kernel_rfl) ?_;rintro ds d ⟨N,a0,a1,a2,r,rfl,hF,rfl⟩ hok;clear hok;refine⟨rfl, ?_⟩;show vc _ _ _ _ ⟨[(0, .dat (iN a0)),(1, .dat (iN a1)),(2, .dat (iN a2))],[]⟩ _;unfold f124 at hF;exact wk9

set_option maxRecDepth 20000 in
set_option maxHeartbeats 4000000 in
theorem P109:PureOK Tryz.prog 109 G109:=by
 refine zae (c:=zam zaf []) rfl tyOK (zac) [[1],[0]] 1 Tryz.func109 rfl rfl (by decide) (by kernel_rfl) ?_;rintro ds d ⟨N,a0,r,rfl,hF,rfl⟩ hok;clear hok;refine⟨rfl, ?_⟩;show vc _ _ _ _ ⟨[(0, .dat (strN a0))],[]⟩ _;unfold f109 at hF;exact wk1

set_option maxRecDepth 20000 in
set_option maxHeartbeats 4000000 in
theorem P110:PureOK Tryz.prog 110 G110:=by
 refine zae (c:=zam zaf []) rfl tyOK (zac) [[0],[0],[0]] 1 Tryz.func110 rfl rfl (by decide) (by kernel_rfl) ?_;rintro ds d ⟨N,a0,r,rfl,hF,rfl⟩ hok;clear hok;refine⟨rfl, ?_⟩;show vc _ _ _ _ ⟨[(0, .dat (strN a0))],[]⟩ _;unfold f110 at hF;exact wk9

set_option maxRecDepth 20000 in
set_option maxHeartbeats 4000000 in
theorem P91:PureOK Tryz.prog 91 G91:=by
 refine zae (c:=zam zaf []) rfl tyOK (zac) [[0]] 2 Tryz.func91 rfl rfl (by decide) (by kernel_rfl) ?_;rintro ds d ⟨N,a0,a1,r,rfl,hF,rfl⟩ hok;clear hok;refine⟨rfl, ?_⟩;show vc _ _ _ _ ⟨[(0, .dat (StateS.d a0)),(1, .dat (strN a1))],[]⟩ _;unfold f91 at hF;exact wk5

set_option maxRecDepth 20000 in
set_option maxHeartbeats 4000000 in
theorem P95:PureOK Tryz.prog 95 G95:=by
 refine zae (c:=zam zaf []) rfl tyOK (zac) [[0]] 3 Tryz.func95 rfl rfl (by decide) (by kernel_rfl) ?_;rintro ds d ⟨N,a0,a1,a2,r,rfl,hF,rfl⟩ hok;clear hok;refine⟨rfl, ?_⟩;show vc _ _ _ _ ⟨[(0, .dat (StateS.d a0)),(1, .dat (strN a1)),(2, .dat (strN a2))],[]⟩ _;unfold f95 at hF;exact wk6

set_option maxRecDepth 20000 in
set_option maxHeartbeats 4000000 in
theorem P112:PureOK Tryz.prog 112 G112:=by
 refine zae (c:=zam zaf []) rfl tyOK (zac) [[0]] 2 Tryz.func112 rfl rfl (by decide) (by kernel_rfl) ?_;rintro ds d ⟨N,a0,a1,r,rfl,hF,rfl⟩ hok;clear hok;refine⟨rfl, ?_⟩;show vc _ _ _ _ ⟨[(0, .dat (StateS.d a0)),(1, .dat (strN a1))],[]⟩ _;unfold f112 at hF;exact wk5

set_option maxRecDepth 20000 in
set_option maxHeartbeats 4000000 in
theorem P93:PureOK Tryz.prog 93 G93:=by
 refine zae (c:=zam zaf []) rfl tyOK (zac) [[0]] 1 Tryz.func93 rfl rfl (by decide) (by kernel_rfl) ?_;rintro ds d ⟨N,a0,r,rfl,hF,rfl⟩ hok;clear hok;refine⟨rfl, ?_⟩;show vc _ _ _ _ ⟨[(0, .dat (za3 a0))],[]⟩ _;unfold f93 at hF;exact wk5

set_option maxRecDepth 20000 in
set_option maxHeartbeats 4000000 in
theorem P126:PureOK Tryz.prog 126 G126:=by
 refine zae (c:=zam zaf []) rfl tyOK (zac) [[0]] 2 Tryz.func126 rfl rfl (by decide) (by kernel_rfl) ?_;rintro ds d ⟨N,a0,a1,r,rfl,hF,rfl⟩ hok;clear hok;refine⟨rfl, ?_⟩;show vc _ _ _ _ ⟨[(0, .dat (StateS.d a0)),(1, .dat (strN a1))],[]⟩ _;unfold f126 at hF;exact wk2

set_option maxRecDepth 20000 in
set_option maxHeartbeats 4000000 in
theorem P139:PureOK Tryz.prog 139 G139:=by
 refine zae (c:=zam zaf []) rfl tyOK (zac) [[0],[0]] 2 Tryz.func139 rfl rfl (by decide) (by kernel_rfl) ?_;rintro ds d ⟨N,a0,a1,r,rfl,hF,rfl⟩ hok;clear hok;refine⟨rfl, ?_⟩;show vc _ _ _ _ ⟨[(0, .dat (StateS.d a0)),(1, .dat (strN a1))],[]⟩ _;unfold f139 at hF;exact wk2

set_option maxRecDepth 20000 in
set_option maxHeartbeats 4000000 in
theorem P104:PureOK Tryz.prog 104 G104:=by
 refine zae (c:=zam zaf [(73,true,zcF [[0],[0]] G73)]) rfl tyOK (zbI (za Tryz.func73 rfl rfl) P73 (zac)) [[1],[0]] 1 Tryz.func104 rfl rfl (by decide) (by kernel_rfl) ?_;rintro ds d ⟨N,a0,r,rfl,hF,rfl⟩ hok;clear hok;refine⟨rfl, ?_⟩;show vc _ _ _ _ ⟨[(0, .dat (strN a0))],[]⟩ _;unfold f104 at hF;exact wk6

set_option maxRecDepth 20000 in
set_option maxHeartbeats 4000000 in
theorem P61:PureOK Tryz.prog 61 G61:=by
 refine zae (c:=zam zaf [(88,true,lendPg [[0]] G88)]) rfl tyOK (zad (za Tryz.func88 rfl rfl) P88 (zac)) [[0]] 1 Tryz.func61 rfl rfl (by decide) (by kernel_rfl) ?_;rintro ds d ⟨N,a0,r,rfl,hF,rfl⟩ hok;clear hok;refine⟨rfl, ?_⟩;show vc _ _ _ _ ⟨[(0, .dat (strN a0))],[]⟩ _;unfold f61 at hF;exact wk8

set_option maxRecDepth 20000 in
set_option maxHeartbeats 4000000 in
theorem Q210 (N:Nat):CallOK Tryz.prog 210 (effPg zmS (H210 N)):=by
 induction N with
 | zero=>exact zaR λ x y h=>(by cases (show (none:Option (Int))=some y from h))
 | succ N ih =>
  refine zaB (c:=zam zaf [(210,true,effPg zmS (H210 N)),(64,true,lendPg [[0,0,1,0,0,0,0,0,0],[0]] G64)]) rfl tyOK (zak (za Tryz.func210 rfl rfl) ih (zad (za Tryz.func64 rfl rfl) P64 (zac))) 1000 zy9 zw3 Tryz.func210 rfl rfl (by kernel_rfl) rfl rfl rfl rfl rfl rfl rfl rfl (λ _=>rfl) (λ _=>rfl) (λ _ _=>⟨rfl,rfl⟩) ?_;rintro⟨s0,s1,s2,s3⟩ y hF;have hF:zuF (f210 N) N s0 s1 s2 s3=some y:=hF;show vc _ _ _ _ ⟨[(0, .dat (.agg [strN s0.customer,strN s0.edition,iN s0.n])),(1, .ptr 0 0)],[(0, .box [.mp 1, .mp 2, .mp 3]),(1,(sW [2] s1)),(2,(eW s2)),(3,(mW s3))]⟩ _;unfold zuF at hF;exact wk10
theorem P210:CallOK Tryz.prog 210 (effPg zmS G210):=zbu Q210

set_option maxRecDepth 20000 in
set_option maxHeartbeats 4000000 in
theorem Q212 (N:Nat):CallOK Tryz.prog 212 (effPg zmT (H212 N)):=by
 induction N with
 | zero=>exact zaR λ x y h=>(by cases (show (none:Option (Int))=some y from h))
 | succ N ih =>
  refine zaB (c:=zam zaf [(212,true,effPg zmT (H212 N)),(213,true,preTake 2 (effPg zmA G213))]) rfl tyOK (zak (za Tryz.func212 rfl rfl) ih (zoZ (za Tryz.func213 rfl rfl) P213 (λ xs id=>Local.effPg xs id) (zac))) 1000 zzc zw4 Tryz.func212 rfl rfl (by kernel_rfl) rfl rfl rfl rfl rfl rfl rfl rfl (λ _=>rfl) (λ _=>rfl) (λ _ _=>⟨rfl,rfl⟩) ?_;rintro⟨s0,s1,s2,s3⟩ y hF;have hF:zuG (f212 N) N s0 s1 s2 s3=some y:=hF;show vc _ _ _ _ ⟨[(0, .dat (.agg [strN s0.claiming.customer,strN s0.claiming.edition,iN s0.claiming.n])),(1, .ptr 0 0)],[(0, .box [.mp 1, .mp 2, .mp 3]),(1,(sW [2] s1)),(2,(eW s2)),(3,(mW s3))]⟩ _;unfold zuG at hF;exact wk3
theorem P212:CallOK Tryz.prog 212 (effPg zmT G212):=zbu Q212

set_option maxRecDepth 20000 in
set_option maxHeartbeats 4000000 in
theorem Q215 (N:Nat):CallOK Tryz.prog 215 (effPg zmU (H215 N)):=by
 induction N with
 | zero=>exact zaR λ x y h=>(by cases (show (none:Option (Int))=some y from h))
 | succ N ih =>
  refine zaB (c:=zam zaf [(215,true,effPg zmU (H215 N)),(64,true,lendPg [[0,0,1,0,0,0,0,0,0],[0]] G64)]) rfl tyOK (zak (za Tryz.func215 rfl rfl) ih (zad (za Tryz.func64 rfl rfl) P64 (zac))) 1000 zzf zw5 Tryz.func215 rfl rfl (by kernel_rfl) rfl rfl rfl rfl rfl rfl rfl rfl (λ _=>rfl) (λ _=>rfl) (λ _ _=>⟨rfl,rfl⟩) ?_;rintro⟨s0,s1,s2,s3⟩ y hF;have hF:zuH (f215 N) N s0 s1 s2 s3=some y:=hF;show vc _ _ _ _ ⟨[(0, .dat (.agg [strN s0.stone])),(1, .ptr 0 0)],[(0, .box [.mp 1, .mp 2, .mp 3]),(1,(sW [2] s1)),(2,(eW s2)),(3,(mW s3))]⟩ _;unfold zuH at hF;exact wk10
theorem P215:CallOK Tryz.prog 215 (effPg zmU G215):=zbu Q215

set_option maxRecDepth 20000 in
set_option maxHeartbeats 4000000 in
theorem Q211 (N:Nat):CallOK Tryz.prog 211 (effPg zmV (H211 N)):=by
 induction N with
 | zero=>exact zaR λ x y h=>(by cases (show (none:Option (LE))=some y from h))
 | succ N ih =>
  refine zaB (c:=zam zaf [(211,true,effPg zmV (H211 N)),(213,true,preTake 2 (effPg zmA G213))]) rfl tyOK (zak (za Tryz.func211 rfl rfl) ih (zoZ (za Tryz.func213 rfl rfl) P213 (λ xs id=>Local.effPg xs id) (zac))) 1000 zzi zw6 Tryz.func211 rfl rfl (by kernel_rfl) rfl rfl rfl rfl rfl rfl rfl rfl (λ _=>rfl) (λ _=>rfl) (λ _ _=>⟨rfl,rfl⟩) ?_;rintro⟨s0,s1,s2,s3⟩ y hF;have hF:zuI (f211 N) N s0 s1 s2 s3=some y:=hF;show vc _ _ _ _ ⟨[(0, .dat (.agg [strN s0.claiming.customer,strN s0.claiming.edition,iN s0.claiming.n])),(1, .ptr 0 0)],[(0, .box [.mp 1, .mp 2, .mp 3]),(1,(sW [2] s1)),(2,(eW s2)),(3,(mW s3))]⟩ _;unfold zuI at hF;exact wk4
theorem P211:CallOK Tryz.prog 211 (effPg zmV G211):=zbu Q211

set_option maxRecDepth 20000 in
set_option maxHeartbeats 4000000 in
theorem P116:PureOK Tryz.prog 116 G116:=by
 refine zae (c:=zam zaf [(142,false,zbv (zam zaf [(165,false,zbv (zam zaf [(144,false,zbv (zam zaf [(117,true,lendPg [[0],[0],[0]] G117)]) Tryz.f144)]) Tryz.f165)]) Tryz.f142),(140,false,zbv (zam zaf [(164,false,zbv (zam zaf [(141,false,zbv (zam zaf []) Tryz.f141)]) Tryz.f164)]) Tryz.f140),(145,true,lendPg [[1]] G145),(143,true,zcF [[1]] G143),(117,true,lendPg [[0],[0],[0]] G117)]) rfl tyOK (zaH (za Tryz.func142 rfl rfl) (CallOK.inl rfl tyOK (zaH (za Tryz.func165 rfl rfl) (CallOK.inl rfl tyOK (zaH (za Tryz.func144 rfl rfl) (CallOK.inl rfl tyOK (zad (za Tryz.func117 rfl rfl) P117 (zac)) Tryz.func144 (by kernel_rfl)) (zac)) Tryz.func165 (by kernel_rfl)) (zac)) Tryz.func142 (by kernel_rfl)) (zaH (za Tryz.func140 rfl rfl) (CallOK.inl rfl tyOK (zaH (za Tryz.func164 rfl rfl) (CallOK.inl rfl tyOK (zaH (za Tryz.func141 rfl rfl) (CallOK.inl rfl tyOK (zac) Tryz.func141 (by kernel_rfl)) (zac)) Tryz.func164 (by kernel_rfl)) (zac)) Tryz.func140 (by kernel_rfl)) (zad (za Tryz.func145 rfl rfl) P145 (zbI (za Tryz.func143 rfl rfl) P143 (zad (za Tryz.func117 rfl rfl) P117 (zac)))))) [[0]] 1 Tryz.func116 rfl rfl (by decide) (by kernel_rfl) ?_;rintro ds d ⟨N,a0,r,rfl,hF,rfl⟩ hok;clear hok;refine⟨rfl, ?_⟩;show vc _ _ _ _ ⟨[(0, .dat (zar a0))],[]⟩ _;unfold f116 at hF;exact wk6

set_option maxRecDepth 20000 in
set_option maxHeartbeats 4000000 in
theorem P119:PureOK Tryz.prog 119 G119:=by
 refine zae (c:=zam zaf [(148,true,lendPg [[0],[0]] G148),(117,true,lendPg [[0],[0],[0]] G117)]) rfl tyOK (zad (za Tryz.func148 rfl rfl) P148 (zad (za Tryz.func117 rfl rfl) P117 (zac))) [[1],[0]] 2 Tryz.func119 rfl rfl (by decide) (by kernel_rfl) ?_;rintro ds d ⟨N,a0,a1,r,rfl,hF,rfl⟩ hok;clear hok;refine⟨rfl, ?_⟩;show vc _ _ _ _ ⟨[(0, .dat (iN a0)),(1, .dat (iN a1))],[]⟩ _;unfold f119 at hF;exact wk1

set_option maxRecDepth 20000 in
set_option maxHeartbeats 4000000 in
theorem P59:PureOK Tryz.prog 59 G59:=by
 refine zae (c:=zam zaf [(86,true,lendPg [[0]] G86),(30,true,lendPg [[0]] G30)]) rfl tyOK (zad (za Tryz.func86 rfl rfl) P86 (zad (za Tryz.func30 rfl rfl) P30 (zac))) [[0]] 1 Tryz.func59 rfl rfl (by decide) (by kernel_rfl) ?_;rintro ds d ⟨N,a0,r,rfl,hF,rfl⟩ hok;clear hok;refine⟨rfl, ?_⟩;show vc _ _ _ _ ⟨[(0, .dat (strN a0))],[]⟩ _;unfold f59 at hF;exact wk6

set_option maxRecDepth 20000 in
set_option maxHeartbeats 4000000 in
theorem P71:PureOK Tryz.prog 71 G71:=by
 refine zae (c:=zam zaf [(96,true,lendPg [[0],[0],[0]] G96)]) rfl tyOK (zad (za Tryz.func96 rfl rfl) P96 (zac)) [[0]] 3 Tryz.func71 rfl rfl (by decide) (by kernel_rfl) ?_;rintro ds d ⟨N,a0,a1,a2,r,rfl,hF,rfl⟩ hok;clear hok;refine⟨rfl, ?_⟩;show vc _ _ _ _ ⟨[(0, .dat (iN a0)),(1, .dat (iN a1)),(2, .dat (iN a2))],[]⟩ _;unfold f71 at hF;exact wk8

set_option maxRecDepth 20000 in
set_option maxHeartbeats 4000000 in
theorem P89:PureOK Tryz.prog 89 G89:=by
 refine zae (c:=zam zaf [(124,true,lendPg [[0],[0],[0]] G124)]) rfl tyOK (zad (za Tryz.func124 rfl rfl) P124 (zac)) [[0]] 1 Tryz.func89 rfl rfl (by decide) (by kernel_rfl) ?_;rintro ds d ⟨N,a0,r,rfl,hF,rfl⟩ hok;clear hok;refine⟨rfl, ?_⟩;show vc _ _ _ _ ⟨[(0, .dat (strN a0))],[]⟩ _;unfold f89 at hF;exact wk6

set_option maxRecDepth 20000 in
set_option maxHeartbeats 4000000 in
theorem P111:PureOK Tryz.prog 111 G111:=by
 refine zae (c:=zam zaf [(124,true,lendPg [[0],[0],[0]] G124)]) rfl tyOK (zad (za Tryz.func124 rfl rfl) P124 (zac)) [[0],[0]] 1 Tryz.func111 rfl rfl (by decide) (by kernel_rfl) ?_;rintro ds d ⟨N,a0,r,rfl,hF,rfl⟩ hok;clear hok;refine⟨rfl, ?_⟩;show vc _ _ _ _ ⟨[(0, .dat (strN a0))],[]⟩ _;unfold f111 at hF;exact wk6

set_option maxRecDepth 20000 in
set_option maxHeartbeats 4000000 in
theorem P94:PureOK Tryz.prog 94 G94:=by
 refine zae (c:=zam zaf [(93,true,lendPg [[1]] G93)]) rfl tyOK (zad (za Tryz.func93 rfl rfl) P93 (zac)) [[0]] 2 Tryz.func94 rfl rfl (by decide) (by kernel_rfl) ?_;rintro ds d ⟨N,a0,a1,r,rfl,hF,rfl⟩ hok;clear hok;refine⟨rfl, ?_⟩;show vc _ _ _ _ ⟨[(0, .dat (Edition.d a0)),(1, .dat (iN a1))],[]⟩ _;unfold f94 at hF;exact wk8

set_option maxRecDepth 20000 in
set_option maxHeartbeats 4000000 in
theorem P107:PureOK Tryz.prog 107 G107:=by
 refine zae (c:=zam zaf [(61,true,lendPg [[0]] G61)]) rfl tyOK (zad (za Tryz.func61 rfl rfl) P61 (zac)) [[0]] 1 Tryz.func107 rfl rfl (by decide) (by kernel_rfl) ?_;rintro ds d ⟨N,a0,r,rfl,hF,rfl⟩ hok;clear hok;refine⟨rfl, ?_⟩;show vc _ _ _ _ ⟨[(0, .dat (strN a0))],[]⟩ _;unfold f107 at hF;exact wk8

set_option maxRecDepth 20000 in
set_option maxHeartbeats 4000000 in
theorem P158:PureOK Tryz.prog 158 G158:=by
 refine zae (c:=zam zaf [(142,false,zbv (zam zaf [(165,false,zbv (zam zaf [(174,false,zbv (zam zaf [(117,true,lendPg [[0],[0],[0]] G117)]) Tryz.f174)]) Tryz.f165)]) Tryz.f142),(116,true,lendPg [[1]] G116)]) rfl tyOK (zaH (za Tryz.func142 rfl rfl) (CallOK.inl rfl tyOK (zaH (za Tryz.func165 rfl rfl) (CallOK.inl rfl tyOK (zaH (za Tryz.func174 rfl rfl) (CallOK.inl rfl tyOK (zad (za Tryz.func117 rfl rfl) P117 (zac)) Tryz.func174 (by kernel_rfl)) (zac)) Tryz.func165 (by kernel_rfl)) (zac)) Tryz.func142 (by kernel_rfl)) (zad (za Tryz.func116 rfl rfl) P116 (zac))) [[0]] 2 Tryz.func158 rfl rfl (by decide) (by kernel_rfl) ?_;rintro ds d ⟨N,a0,a1,r,rfl,hF,rfl⟩ hok;clear hok;refine⟨rfl, ?_⟩;show vc _ _ _ _ ⟨[(0, .dat (zar a0)),(1, .dat (za3 a1))],[]⟩ _;unfold f158 at hF;exact wk6

set_option maxRecDepth 20000 in
set_option maxHeartbeats 4000000 in
theorem P84:PureOK Tryz.prog 84 G84:=by
 refine zae (c:=zam zaf [(119,true,zcF [[0],[0]] G119)]) rfl tyOK (zbI (za Tryz.func119 rfl rfl) P119 (zac)) [[1]] 0 Tryz.func84 rfl rfl (by decide) (by kernel_rfl) ?_;rintro ds d ⟨N,r,rfl,hF,rfl⟩ hok;clear hok;refine⟨rfl, ?_⟩;show vc _ _ _ _ ⟨[],[]⟩ _;unfold f84 at hF;exact wk8

set_option maxRecDepth 20000 in
set_option maxHeartbeats 4000000 in
theorem Q32 (N:Nat):CallOK Tryz.prog 32 (effPg zsm (H32 N)):=by
 induction N with
 | zero=>exact zaR λ x y h=>(by cases (show (none:Option (Int×ByteArray×Int))=some y from h))
 | succ N ih =>
  refine zaB (c:=zam zaf [(32,true,effPg zsm (H32 N)),(53,false,zbv (zam zaf []) Tryz.f53),(61,true,lendPg [[0]] G61)]) rfl tyOK (zak (za Tryz.func32 rfl rfl) ih (zaH (za Tryz.func53 rfl rfl) (CallOK.inl rfl tyOK (zac) Tryz.func53 (by kernel_rfl)) (zad (za Tryz.func61 rfl rfl) P61 (zac)))) 1000 Srf32 zzp Tryz.func32 rfl rfl (by kernel_rfl) rfl rfl rfl rfl rfl rfl rfl rfl (λ _=>rfl) (λ _=>rfl) (λ _ _=>⟨rfl,rfl⟩) ?_;rintro⟨s0,s1,s2,s3,s4⟩ y hF;have hF:f32b (f32 N) N s0 s1 s2 s3 s4=some y:=hF;show vc _ _ _ _ ⟨[(0, .ptr 0 0),(1, .dat (strN s0))],[(0, .box [.ptr 1 0, .rs 2 (List.length s1)]),(1, .box [.mp 3, .mp 4, .mp 5]),(2,(rW s1)),(3,(sW [4] s2)),(4,(eW s3)),(5,(mW s4))]⟩ _;unfold f32b at hF;exact wk3
theorem P32:CallOK Tryz.prog 32 (effPg zsm G32):=zbu Q32


end Go.Vc
