/-
  A library for proofs about Go functions by symbolic evaluation,and plain Lean functions that the walked Go functions compute (written by a program of this claim).
-/
import Derived.Test.YtijmkjnlgcockaaGreatDoorFCLF1
import Derived.Test.YtijmkjnlgcockaaGreatDoorFCLF2
set_option linter.unusedVariables false
set_option linter.unnecessarySimpa false
set_option linter.unusedSimpArgs false
namespace Go.Vc
open Go.Proofs
set_option maxRecDepth 20000 in
set_option maxHeartbeats 4000000 in
theorem P105:PureOK Tryz.prog 105 G105:=by
 refine zar (c:=zat zal []) rfl tyOK (zae) [[0],[0]] 1 Tryz.func105 rfl rfl (by decide) (by kernel_rfl) ?_;rintro ds d ⟨N,a0,r,rfl,hF,rfl⟩ hok;clear hok;refine⟨rfl, ?_⟩;show vc _ _ _ _ ⟨[(0, .dat (strN a0))],[]⟩ _;unfold f105 at hF;exact wk6

set_option maxRecDepth 20000 in
set_option maxHeartbeats 4000000 in
theorem P88:PureOK Tryz.prog 88 G88:=by
 refine zar (c:=zat zal []) rfl tyOK (zae) [[0]] 1 Tryz.func88 rfl rfl (by decide) (by kernel_rfl) ?_;rintro ds d ⟨N,a0,r,rfl,hF,rfl⟩ hok;clear hok;refine⟨rfl, ?_⟩;show vc _ _ _ _ ⟨[(0, .dat (strN a0))],[]⟩ _;unfold f88 at hF;exact wk6

set_option maxRecDepth 20000 in
set_option maxHeartbeats 4000000 in
theorem P108:PureOK Tryz.prog 108 G108:=by
 refine zar (c:=zat zal []) rfl tyOK (zae) [[0]] 2 Tryz.func108 rfl rfl (by decide) (by kernel_rfl) ?_;rintro ds d ⟨N,a0,a1,r,rfl,hF,rfl⟩ hok;clear hok;refine⟨rfl, ?_⟩;show vc _ _ _ _ ⟨[(0, .dat (zaC a0)),(1, .dat (A2iN.d a1))],[]⟩ _;unfold f108 at hF;exact wk5

set_option maxRecDepth 20000 in
set_option maxHeartbeats 4000000 in
theorem Q198 (N:Nat):CallOK Tryz.prog 198 (effPg zla (H198 N)):=by
 induction N with
 | zero=>exact zaM λ x y h=>(by cases (show (none:Option (Int))=some y from h))
 | succ N ih =>
  refine zaD (c:=zat zal [(198,true,effPg zla (H198 N))]) rfl tyOK (zaj (zaa Tryz.func198 rfl rfl) ih (zae)) 1000 zwa zva Tryz.func198 rfl rfl (by kernel_rfl) rfl rfl rfl rfl rfl rfl rfl rfl (λ _=>rfl) (λ _=>rfl) (λ _ _=>⟨rfl,rfl⟩) ?_;rintro⟨s0,s1,s2,s3⟩ y hF;have hF:zs6 (f198 N) N s0 s1 s2 s3=some y:=hF;show vc _ _ _ _ ⟨[(0, .dat (.agg [strN s0.name,iN s0.thick])),(1, .ptr 0 0)],[(0, .box [.mp 1, .mp 2, .mp 3]),(1,(sW [2] s1)),(2,(eW s2)),(3,(mW s3))]⟩ _;unfold zs6 at hF;exact wk5
theorem P198:CallOK Tryz.prog 198 (effPg zla G198):=zbq Q198

set_option maxRecDepth 20000 in
set_option maxHeartbeats 4000000 in
theorem Q200 (N:Nat):CallOK Tryz.prog 200 (effPg zlb (H200 N)):=by
 induction N with
 | zero=>exact zaM λ x y h=>(by cases (show (none:Option (Int))=some y from h))
 | succ N ih =>
  refine zaD (c:=zat zal [(200,true,effPg zlb (H200 N))]) rfl tyOK (zaj (zaa Tryz.func200 rfl rfl) ih (zae)) 1000 zwd zvb Tryz.func200 rfl rfl (by kernel_rfl) rfl rfl rfl rfl rfl rfl rfl rfl (λ _=>rfl) (λ _=>rfl) (λ _ _=>⟨rfl,rfl⟩) ?_;rintro⟨s0,s1,s2,s3⟩ y hF;have hF:zs7 (f200 N) N s0 s1 s2 s3=some y:=hF;show vc _ _ _ _ ⟨[(0, .dat (.agg [strN s0.name])),(1, .ptr 0 0)],[(0, .box [.mp 1, .mp 2, .mp 3]),(1,(sW [2] s1)),(2,(eW s2)),(3,(mW s3))]⟩ _;unfold zs7 at hF;exact wk5
theorem P200:CallOK Tryz.prog 200 (effPg zlb G200):=zbq Q200

set_option maxRecDepth 20000 in
set_option maxHeartbeats 4000000 in
theorem Q202 (N:Nat):CallOK Tryz.prog 202 (effPg zlc (H202 N)):=by
 induction N with
 | zero=>exact zaM λ x y h=>(by cases (show (none:Option (Int))=some y from h))
 | succ N ih =>
  refine zaD (c:=zat zal [(202,true,effPg zlc (H202 N))]) rfl tyOK (zaj (zaa Tryz.func202 rfl rfl) ih (zae)) 1000 zwg zvc Tryz.func202 rfl rfl (by kernel_rfl) rfl rfl rfl rfl rfl rfl rfl rfl (λ _=>rfl) (λ _=>rfl) (λ _ _=>⟨rfl,rfl⟩) ?_;rintro⟨s0,s1,s2,s3⟩ y hF;have hF:zs8 (f202 N) N s0 s1 s2 s3=some y:=hF;show vc _ _ _ _ ⟨[(0, .dat (.agg [strN s0.stone,strN s0.edition])),(1, .ptr 0 0)],[(0, .box [.mp 1, .mp 2, .mp 3]),(1,(sW [2] s1)),(2,(eW s2)),(3,(mW s3))]⟩ _;unfold zs8 at hF;exact wk5
theorem P202:CallOK Tryz.prog 202 (effPg zlc G202):=zbq Q202

set_option maxRecDepth 20000 in
set_option maxHeartbeats 4000000 in
theorem Q204 (N:Nat):CallOK Tryz.prog 204 (effPg zld (H204 N)):=by
 induction N with
 | zero=>exact zaM λ x y h=>(by cases (show (none:Option (Int))=some y from h))
 | succ N ih =>
  refine zaD (c:=zat zal [(204,true,effPg zld (H204 N))]) rfl tyOK (zaj (zaa Tryz.func204 rfl rfl) ih (zae)) 1000 zwj zvd Tryz.func204 rfl rfl (by kernel_rfl) rfl rfl rfl rfl rfl rfl rfl rfl (λ _=>rfl) (λ _=>rfl) (λ _ _=>⟨rfl,rfl⟩) ?_;rintro⟨s0,s1,s2,s3⟩ y hF;have hF:zs9 (f204 N) N s0 s1 s2 s3=some y:=hF;show vc _ _ _ _ ⟨[(0, .dat (.agg [strN s0.edition,iN s0.n])),(1, .ptr 0 0)],[(0, .box [.mp 1, .mp 2, .mp 3]),(1,(sW [2] s1)),(2,(eW s2)),(3,(mW s3))]⟩ _;unfold zs9 at hF;exact wk5
theorem P204:CallOK Tryz.prog 204 (effPg zld G204):=zbq Q204

set_option maxRecDepth 20000 in
set_option maxHeartbeats 4000000 in
theorem Q206 (N:Nat):CallOK Tryz.prog 206 (effPg zle (H206 N)):=by
 induction N with
 | zero=>exact zaM λ x y h=>(by cases (show (none:Option (Int))=some y from h))
 | succ N ih =>
  refine zaD (c:=zat zal [(206,true,effPg zle (H206 N))]) rfl tyOK (zaj (zaa Tryz.func206 rfl rfl) ih (zae)) 1000 zwm zve Tryz.func206 rfl rfl (by kernel_rfl) rfl rfl rfl rfl rfl rfl rfl rfl (λ _=>rfl) (λ _=>rfl) (λ _ _=>⟨rfl,rfl⟩) ?_;rintro⟨s0,s1,s2,s3⟩ y hF;have hF:zt (f206 N) N s0 s1 s2 s3=some y:=hF;show vc _ _ _ _ ⟨[(0, .dat (.agg [strN s0.stone,iN s0.good,iN s0.spoilt])),(1, .ptr 0 0)],[(0, .box [.mp 1, .mp 2, .mp 3]),(1,(sW [2] s1)),(2,(eW s2)),(3,(mW s3))]⟩ _;unfold zt at hF;exact wk5
theorem P206:CallOK Tryz.prog 206 (effPg zle G206):=zbq Q206

set_option maxRecDepth 20000 in
set_option maxHeartbeats 4000000 in
theorem Q208 (N:Nat):CallOK Tryz.prog 208 (effPg zlf (H208 N)):=by
 induction N with
 | zero=>exact zaM λ x y h=>(by cases (show (none:Option (Int))=some y from h))
 | succ N ih =>
  refine zaD (c:=zat zal [(208,true,effPg zlf (H208 N))]) rfl tyOK (zaj (zaa Tryz.func208 rfl rfl) ih (zae)) 1000 zwp zvf Tryz.func208 rfl rfl (by kernel_rfl) rfl rfl rfl rfl rfl rfl rfl rfl (λ _=>rfl) (λ _=>rfl) (λ _ _=>⟨rfl,rfl⟩) ?_;rintro⟨s0,s1,s2,s3⟩ y hF;have hF:zta (f208 N) N s0 s1 s2 s3=some y:=hF;show vc _ _ _ _ ⟨[(0, .dat (.agg [strN s0.edition])),(1, .ptr 0 0)],[(0, .box [.mp 1, .mp 2, .mp 3]),(1,(sW [2] s1)),(2,(eW s2)),(3,(mW s3))]⟩ _;unfold zta at hF;exact wk5
theorem P208:CallOK Tryz.prog 208 (effPg zlf G208):=zbq Q208

set_option maxRecDepth 20000 in
set_option maxHeartbeats 4000000 in
theorem P64:PureOK Tryz.prog 64 G64:=by
 refine zar (c:=zat zal []) rfl tyOK (zae) [[0]] 2 Tryz.func64 rfl rfl (by decide) (by kernel_rfl) ?_;rintro ds d ⟨N,a0,a1,r,rfl,hF,rfl⟩ hok;clear hok;refine⟨rfl, ?_⟩;show vc _ _ _ _ ⟨[(0, .ep [strN a0.name,bN a0.closed,zbn a0.places,iN a0.from_,iN a0.paper,iN a0.delivered,iN a0.spoilt, .mp (encM strN iN a0.owed),iN a0.open_]),(1, .dat (iN a1))],[]⟩ _;unfold f64 at hF;exact wk6

set_option maxRecDepth 20000 in
set_option maxHeartbeats 4000000 in
theorem P213:CallOK Tryz.prog 213 (effPg zlh G213):=by
 refine zaD (c:=zat zal []) rfl tyOK (zae) 1000 ⟨[0],[0,1],[],[]⟩ ⟨[0],[0,1],[],[]⟩ Tryz.func213 rfl rfl (by kernel_rfl) rfl rfl rfl rfl rfl rfl rfl rfl (λ _=>rfl) (λ _=>rfl) (λ _ _=>⟨rfl,rfl⟩) ?_;rintro⟨i,es,x⟩ y ⟨hx,h1,h2⟩;replace h1:0<=zmR x:=h1;replace h2:zmR x<x.places.length:=h2;unfold zmR zmQ W at h1 h2;replace hx:getF es i=some x:=hx;show vc _ _ _ _ ⟨[(0, .po 0 i 0)],[(0, .fam [] (encF strN EditionM.m es) [(i,2,1)]),(1, .row 3 1 (List.map iN x.places))]⟩ _
 repeat' (first
 | ((with_reducible first|refine q0 _ _ ?_|refine q1 _ _ _ _ ?_|refine q2 _ _ _ ?_);clear Q q0 q1 q2)
 | ((with_reducible first|refine zd6 ?hx (λ Q q0 q1 q2=>?_)|refine zdK ?hx (λ Q q0 q1 q2=>?_));(case hx=>exact rfl);conv=>whnf)
 | ((with_reducible refine zcJ ?_);(first|((with_reducible refine hR _ ?_);clear R hR)|((with_reducible refine hL _ ?_);clear L hL)))
 | ((with_reducible refine zcO ?_);(with_reducible refine hR _ _ ?hx ?_);(case hx=>kernel_rfl);clear R hR)
 | ((with_reducible first|refine zcR ?_|refine zdn ?_);conv=>whnf)
 | (with_reducible first|refine zcf ?_|refine zcI ?_|refine zd5 ?_|refine zcZ ?_|refine zbK (λ R hR=>?_)|refine zbJ ?_|refine zby ?_)
 | ((with_reducible refine zcK [] ?hx ?_);(case hx=>exact rfl))
 | ((with_reducible refine zdI ?hx (λ R L hL hR=>?_));(case hx=>exact rfl))
 | ((refine ze1 rfl hx (by exact rfl) ?_);conv=>whnf)
 | ((refine Or.inl (Or.inl ⟨_,ziA, ?_⟩));conv=>whnf)
 | ((refine⟨?h, ?_⟩;(case h=>exact⟨h1,h2⟩));conv=>whnf)
 | ((with_reducible refine zhi ?hn ?_);(case hn=>first|exact rfl|assumption|omega);conv=>whnf)
 | ((with_reducible refine zfK ?_))
 | ((refine⟨?h, ?_⟩;(case h=>(simp only[List.length_map];done)));conv=>whnf)
 | (show retE _ _ _ _ _ _ _ _;conv=>whnf)
 | ((refine Or.inl ?_);(conv=>whnf);exact⟨rfl,rfl,rfl⟩))

set_option maxRecDepth 20000 in
set_option maxHeartbeats 4000000 in
theorem Q197 (N:Nat):CallOK Tryz.prog 197 (effPg zli (H197 N)):=by
 induction N with
 | zero=>exact zaM λ x y h=>(by cases (show (none:Option (LS))=some y from h))
 | succ N ih =>
  refine zaD (c:=zat zal [(197,true,effPg zli (H197 N))]) rfl tyOK (zaj (zaa Tryz.func197 rfl rfl) ih (zae)) 1000 zws zvg Tryz.func197 rfl rfl (by kernel_rfl) rfl rfl rfl rfl rfl rfl rfl rfl (λ _=>rfl) (λ _=>rfl) (λ _ _=>⟨rfl,rfl⟩) ?_;rintro⟨s0,s1,s2,s3⟩ y hF;have hF:ztb (f197 N) N s0 s1 s2 s3=some y:=hF;show vc _ _ _ _ ⟨[(0, .dat (.agg [strN s0.name,iN s0.thick])),(1, .ptr 0 0)],[(0, .box [.mp 1, .mp 2, .mp 3]),(1,(sW [2] s1)),(2,(eW s2)),(3,(mW s3))]⟩ _;unfold ztb at hF;exact wk4
theorem P197:CallOK Tryz.prog 197 (effPg zli G197):=zbq Q197

set_option maxRecDepth 20000 in
set_option maxHeartbeats 4000000 in
theorem Q199 (N:Nat):CallOK Tryz.prog 199 (effPg zlj (H199 N)):=by
 induction N with
 | zero=>exact zaM λ x y h=>(by cases (show (none:Option (LE))=some y from h))
 | succ N ih =>
  refine zaD (c:=zat zal [(199,true,effPg zlj (H199 N))]) rfl tyOK (zaj (zaa Tryz.func199 rfl rfl) ih (zae)) 1000 zwv zvh Tryz.func199 rfl rfl (by kernel_rfl) rfl rfl rfl rfl rfl rfl rfl rfl (λ _=>rfl) (λ _=>rfl) (λ _ _=>⟨rfl,rfl⟩) ?_;rintro⟨s0,s1,s2,s3⟩ y hF;have hF:ztc (f199 N) N s0 s1 s2 s3=some y:=hF;show vc _ _ _ _ ⟨[(0, .dat (.agg [strN s0.name])),(1, .ptr 0 0)],[(0, .box [.mp 1, .mp 2, .mp 3]),(1,(sW [2] s1)),(2,(eW s2)),(3,(mW s3))]⟩ _;unfold ztc at hF;exact wk4
theorem P199:CallOK Tryz.prog 199 (effPg zlj G199):=zbq Q199

set_option maxRecDepth 20000 in
set_option maxHeartbeats 4000000 in
theorem Q201 (N:Nat):CallOK Tryz.prog 201 (effPg zlk (H201 N)):=by
 induction N with
 | zero=>exact zaM λ x y h=>(by cases (show (none:Option (LS×LE))=some y from h))
 | succ N ih =>
  refine zaD (c:=zat zal [(201,true,effPg zlk (H201 N))]) rfl tyOK (zaj (zaa Tryz.func201 rfl rfl) ih (zae)) 1000 zwy zvi Tryz.func201 rfl rfl (by kernel_rfl) rfl rfl rfl rfl rfl rfl rfl rfl (λ _=>rfl) (λ _=>rfl) (λ _ _=>⟨rfl,rfl⟩) ?_;rintro⟨s0,s1,s2,s3⟩ y hF;have hF:ztd (f201 N) N s0 s1 s2 s3=some y:=hF;show vc _ _ _ _ ⟨[(0, .dat (.agg [strN s0.stone,strN s0.edition])),(1, .ptr 0 0)],[(0, .box [.mp 1, .mp 2, .mp 3]),(1,(sW [2] s1)),(2,(eW s2)),(3,(mW s3))]⟩ _;unfold ztd at hF;exact wk7
theorem P201:CallOK Tryz.prog 201 (effPg zlk G201):=zbq Q201

set_option maxRecDepth 20000 in
set_option maxHeartbeats 4000000 in
theorem Q203 (N:Nat):CallOK Tryz.prog 203 (effPg zll (H203 N)):=by
 induction N with
 | zero=>exact zaM λ x y h=>(by cases (show (none:Option (LE))=some y from h))
 | succ N ih =>
  refine zaD (c:=zat zal [(203,true,effPg zll (H203 N))]) rfl tyOK (zaj (zaa Tryz.func203 rfl rfl) ih (zae)) 1000 zwB zvj Tryz.func203 rfl rfl (by kernel_rfl) rfl rfl rfl rfl rfl rfl rfl rfl (λ _=>rfl) (λ _=>rfl) (λ _ _=>⟨rfl,rfl⟩) ?_;rintro⟨s0,s1,s2,s3⟩ y hF;have hF:zte (f203 N) N s0 s1 s2 s3=some y:=hF;show vc _ _ _ _ ⟨[(0, .dat (.agg [strN s0.edition,iN s0.n])),(1, .ptr 0 0)],[(0, .box [.mp 1, .mp 2, .mp 3]),(1,(sW [2] s1)),(2,(eW s2)),(3,(mW s3))]⟩ _;unfold zte at hF;exact wk7
theorem P203:CallOK Tryz.prog 203 (effPg zll G203):=zbq Q203

set_option maxRecDepth 20000 in
set_option maxHeartbeats 4000000 in
theorem Q205 (N:Nat):CallOK Tryz.prog 205 (effPg zlm (H205 N)):=by
 induction N with
 | zero=>exact zaM λ x y h=>(by cases (show (none:Option (LE))=some y from h))
 | succ N ih =>
  refine zaD (c:=zat zal [(205,true,effPg zlm (H205 N))]) rfl tyOK (zaj (zaa Tryz.func205 rfl rfl) ih (zae)) 1000 zwE zvk Tryz.func205 rfl rfl (by kernel_rfl) rfl rfl rfl rfl rfl rfl rfl rfl (λ _=>rfl) (λ _=>rfl) (λ _ _=>⟨rfl,rfl⟩) ?_;rintro⟨s0,s1,s2,s3⟩ y hF;have hF:ztf (f205 N) N s0 s1 s2 s3=some y:=hF;show vc _ _ _ _ ⟨[(0, .dat (.agg [strN s0.stone,iN s0.good,iN s0.spoilt])),(1, .ptr 0 0)],[(0, .box [.mp 1, .mp 2, .mp 3]),(1,(sW [2] s1)),(2,(eW s2)),(3,(mW s3))]⟩ _;unfold ztf at hF;exact wk7
theorem P205:CallOK Tryz.prog 205 (effPg zlm G205):=zbq Q205

set_option maxRecDepth 20000 in
set_option maxHeartbeats 4000000 in
theorem Q207 (N:Nat):CallOK Tryz.prog 207 (effPg zln (H207 N)):=by
 induction N with
 | zero=>exact zaM λ x y h=>(by cases (show (none:Option (LE))=some y from h))
 | succ N ih =>
  refine zaD (c:=zat zal [(207,true,effPg zln (H207 N))]) rfl tyOK (zaj (zaa Tryz.func207 rfl rfl) ih (zae)) 1000 zwH zvl Tryz.func207 rfl rfl (by kernel_rfl) rfl rfl rfl rfl rfl rfl rfl rfl (λ _=>rfl) (λ _=>rfl) (λ _ _=>⟨rfl,rfl⟩) ?_;rintro⟨s0,s1,s2,s3⟩ y hF;have hF:ztg (f207 N) N s0 s1 s2 s3=some y:=hF;show vc _ _ _ _ ⟨[(0, .dat (.agg [strN s0.edition])),(1, .ptr 0 0)],[(0, .box [.mp 1, .mp 2, .mp 3]),(1,(sW [2] s1)),(2,(eW s2)),(3,(mW s3))]⟩ _;unfold ztg at hF;exact wk7
theorem P207:CallOK Tryz.prog 207 (effPg zln G207):=zbq Q207

set_option maxRecDepth 20000 in
set_option maxHeartbeats 4000000 in
theorem Q209 (N:Nat):CallOK Tryz.prog 209 (effPg zlo (H209 N)):=by
 induction N with
 | zero=>exact zaM λ x y h=>(by cases (show (none:Option (LE×LC))=some y from h))
 | succ N ih =>
  refine zaD (c:=zat zal [(209,true,effPg zlo (H209 N))]) rfl tyOK (zaj (zaa Tryz.func209 rfl rfl) ih (zae)) 1000 zwK zvm Tryz.func209 rfl rfl (by kernel_rfl) rfl rfl rfl rfl rfl rfl rfl rfl (λ _=>rfl) (λ _=>rfl) (λ _ _=>⟨rfl,rfl⟩) ?_;rintro⟨s0,s1,s2,s3⟩ y hF;have hF:zth (f209 N) N s0 s1 s2 s3=some y:=hF;show vc _ _ _ _ ⟨[(0, .dat (.agg [strN s0.customer,strN s0.edition,iN s0.n])),(1, .ptr 0 0)],[(0, .box [.mp 1, .mp 2, .mp 3]),(1,(sW [2] s1)),(2,(eW s2)),(3,(mW s3))]⟩ _;unfold zth at hF;exact wk7
theorem P209:CallOK Tryz.prog 209 (effPg zlo G209):=zbq Q209

set_option maxRecDepth 20000 in
set_option maxHeartbeats 4000000 in
theorem Q214 (N:Nat):CallOK Tryz.prog 214 (effPg zlp (H214 N)):=by
 induction N with
 | zero=>exact zaM λ x y h=>(by cases (show (none:Option (LS×LE))=some y from h))
 | succ N ih =>
  refine zaD (c:=zat zal [(214,true,effPg zlp (H214 N))]) rfl tyOK (zaj (zaa Tryz.func214 rfl rfl) ih (zae)) 1000 zwN zvn Tryz.func214 rfl rfl (by kernel_rfl) rfl rfl rfl rfl rfl rfl rfl rfl (λ _=>rfl) (λ _=>rfl) (λ _ _=>⟨rfl,rfl⟩) ?_;rintro⟨s0,s1,s2,s3⟩ y hF;have hF:zti (f214 N) N s0 s1 s2 s3=some y:=hF;show vc _ _ _ _ ⟨[(0, .dat (.agg [strN s0.stone])),(1, .ptr 0 0)],[(0, .box [.mp 1, .mp 2, .mp 3]),(1,(sW [2] s1)),(2,(eW s2)),(3,(mW s3))]⟩ _;unfold zti at hF;exact wk7
theorem P214:CallOK Tryz.prog 214 (effPg zlp G214):=zbq Q214

set_option maxRecDepth 20000 in
set_option maxHeartbeats 4000000 in
theorem P117:PureOK Tryz.prog 117 G117:=by
 refine zar (c:=zat zal []) rfl tyOK (zae) [[0]] 3 Tryz.func117 rfl rfl (by decide) (by kernel_rfl) ?_;rintro ds d ⟨N,a0,a1,a2,r,rfl,hF,rfl⟩ hok;clear hok;refine⟨rfl, ?_⟩;show vc _ _ _ _ ⟨[(0, .dat (iN a0)),(1, .dat (iN a1)),(2, .dat (iN a2))],[]⟩ _;unfold f117 at hF;exact wk6

set_option maxRecDepth 20000 in
set_option maxHeartbeats 4000000 in
theorem P143:PureOK Tryz.prog 143 G143:=by
 refine zar (c:=zat zal [(166,false,zbL (zat zal []) Tryz.f166)]) rfl tyOK (zaL (zaa Tryz.func166 rfl rfl) (CallOK.inl rfl tyOK (zae) Tryz.func166 (by kernel_rfl)) (zae)) [[1]] 1 Tryz.func143 rfl rfl (by decide) (by kernel_rfl) ?_;rintro ds d ⟨N,a0,r,rfl,hF,rfl⟩ hok;clear hok;refine⟨rfl, ?_⟩;show vc _ _ _ _ ⟨[(0, .dat (zav a0))],[]⟩ _;unfold f143 at hF;exact wk2

set_option maxRecDepth 20000 in
set_option maxHeartbeats 4000000 in
theorem P145:PureOK Tryz.prog 145 G145:=by
 refine zar (c:=zat zal []) rfl tyOK (zae) [[0]] 1 Tryz.func145 rfl rfl (by decide) (by kernel_rfl) ?_;rintro ds d ⟨N,a0,r,rfl,hF,rfl⟩ hok;clear hok;refine⟨rfl, ?_⟩;show vc _ _ _ _ ⟨[(0, .dat (zav a0))],[]⟩ _;unfold f145 at hF;exact wk2

set_option maxRecDepth 20000 in
set_option maxHeartbeats 4000000 in
theorem P132:PureOK Tryz.prog 132 G132:=by
 refine zar (c:=zat zal [(159,false,zbL (zat zal [(160,false,zbL (zat zal []) Tryz.f160)]) Tryz.f159)]) rfl tyOK (zaL (zaa Tryz.func159 rfl rfl) (CallOK.inl rfl tyOK (zaL (zaa Tryz.func160 rfl rfl) (CallOK.inl rfl tyOK (zae) Tryz.func160 (by kernel_rfl)) (zae)) Tryz.func159 (by kernel_rfl)) (zae)) [[0]] 3 Tryz.func132 rfl rfl (by decide) (by kernel_rfl) ?_;rintro ds d ⟨N,a0,a1,a2,r,rfl,hF,rfl⟩ hok;clear hok;refine⟨rfl, ?_⟩;show vc _ _ _ _ ⟨[(0, .dat (zav a0)),(1, .dat (iN a1)),(2, .dat (zbn a2))],[]⟩ _;unfold f132 at hF;exact wk6

set_option maxRecDepth 20000 in
set_option maxHeartbeats 4000000 in
theorem P147:PureOK Tryz.prog 147 G147:=by
 refine zar (c:=zat zal []) rfl tyOK (zae) [[0]] 2 Tryz.func147 rfl rfl (by decide) (by kernel_rfl) ?_;rintro ds d ⟨N,a0,a1,r,rfl,hF,rfl⟩ hok;clear hok;refine⟨rfl, ?_⟩;show vc _ _ _ _ ⟨[(0, .dat (zbn a0)),(1, .dat (iN a1))],[]⟩ _;unfold f147 at hF;exact wk6

set_option maxRecDepth 20000 in
set_option maxHeartbeats 4000000 in
theorem P148:PureOK Tryz.prog 148 G148:=by
 refine zar (c:=zat zal []) rfl tyOK (zae) [[0]] 2 Tryz.func148 rfl rfl (by decide) (by kernel_rfl) ?_;rintro ds d ⟨N,a0,a1,r,rfl,hF,rfl⟩ hok;clear hok;refine⟨rfl, ?_⟩;show vc _ _ _ _ ⟨[(0, .dat (iN a0)),(1, .dat (iN a1))],[]⟩ _;unfold f148 at hF;exact wk6

set_option maxRecDepth 20000 in
set_option maxHeartbeats 4000000 in
theorem P35:PureOK Tryz.prog 35 G35:=by
 refine zar (c:=zat zal []) rfl tyOK (zae) [[0]] 2 Tryz.func35 rfl rfl (by decide) (by kernel_rfl) ?_;rintro ds d ⟨N,a0,a1,r,rfl,hF,rfl⟩ hok;clear hok;refine⟨rfl, ?_⟩;show vc _ _ _ _ ⟨[(0, .dat (zbn a0)),(1, .dat (zbn a1))],[]⟩ _;unfold f35 at hF;exact wk6

set_option maxRecDepth 20000 in
set_option maxHeartbeats 4000000 in
theorem P44:PureOK Tryz.prog 44 G44:=by
 refine zar (c:=zat zal []) rfl tyOK (zae) [[1]] 0 Tryz.func44 rfl rfl (by decide) (by kernel_rfl) ?_;rintro ds d ⟨N,r,rfl,hF,rfl⟩ hok;clear hok;refine⟨rfl, ?_⟩;show vc _ _ _ _ ⟨[],[]⟩ _;unfold f44 at hF;exact wk3

set_option maxRecDepth 20000 in
set_option maxHeartbeats 4000000 in
theorem Q21 (N:Nat):CallOK Tryz.prog 21 (effPg zqU (H21 N)):=by
 induction N with
 | zero=>exact zaM λ x y h=>(by cases (show (none:Option (LB))=some y from h))
 | succ N ih =>
  refine zaD (c:=zat zal [(21,true,effPg zqU (H21 N)),(54,false,zbL (zat zal []) Tryz.f54),(53,false,zbL (zat zal []) Tryz.f53)]) rfl tyOK (zaj (zaa Tryz.func21 rfl rfl) ih (zaL (zaa Tryz.func54 rfl rfl) (CallOK.inl rfl tyOK (zae) Tryz.func54 (by kernel_rfl)) (zaL (zaa Tryz.func53 rfl rfl) (CallOK.inl rfl tyOK (zae) Tryz.func53 (by kernel_rfl)) (zae)))) 1000 Srf21 zwW Tryz.func21 rfl rfl (by kernel_rfl) rfl rfl rfl rfl rfl rfl rfl rfl (λ _=>rfl) (λ _=>rfl) (λ _ _=>⟨rfl,rfl⟩) ?_;rintro⟨s0,s1,s2,s3⟩ y hF;have hF:f21b (f21 N) N s0 s1 s2 s3=some y:=hF;show vc _ _ _ _ ⟨[(0, .ptr 0 0)],[(0, .box [.ptr 1 0, .rs 2 (List.length s0)]),(1, .box [.mp 3, .mp 4, .mp 5]),(2,(rW s0)),(3,(sW [4] s1)),(4,(eW s2)),(5,(mW s3))]⟩ _;unfold f21b at hF;exact wk7
theorem P21:CallOK Tryz.prog 21 (effPg zqU G21):=zbq Q21

set_option maxRecDepth 20000 in
set_option maxHeartbeats 4000000 in
theorem P27:PureOK Tryz.prog 27 G27:=by
 refine zar (c:=zat zal []) rfl tyOK (zae) [[1]] 0 Tryz.func27 rfl rfl (by decide) (by kernel_rfl) ?_;rintro ds d ⟨N,r,rfl,hF,rfl⟩ hok;clear hok;refine⟨rfl, ?_⟩;show vc _ _ _ _ ⟨[],[]⟩ _;unfold f27 at hF;exact wk3

set_option maxRecDepth 20000 in
set_option maxHeartbeats 4000000 in
theorem P28:PureOK Tryz.prog 28 G28:=by
 refine zar (c:=zat zal []) rfl tyOK (zae) [[1]] 0 Tryz.func28 rfl rfl (by decide) (by kernel_rfl) ?_;rintro ds d ⟨N,r,rfl,hF,rfl⟩ hok;clear hok;refine⟨rfl, ?_⟩;show vc _ _ _ _ ⟨[],[]⟩ _;unfold f28 at hF;exact wk3

set_option maxRecDepth 20000 in
set_option maxHeartbeats 4000000 in
theorem P29:PureOK Tryz.prog 29 G29:=by
 refine zar (c:=zat zal []) rfl tyOK (zae) [[1]] 0 Tryz.func29 rfl rfl (by decide) (by kernel_rfl) ?_;rintro ds d ⟨N,r,rfl,hF,rfl⟩ hok;clear hok;refine⟨rfl, ?_⟩;show vc _ _ _ _ ⟨[],[]⟩ _;unfold f29 at hF;exact wk3

set_option maxRecDepth 20000 in
set_option maxHeartbeats 4000000 in
theorem P50:PureOK Tryz.prog 50 G50:=by
 refine zar (c:=zat zal []) rfl tyOK (zae) [[0]] 2 Tryz.func50 rfl rfl (by decide) (by kernel_rfl) ?_;rintro ds d ⟨N,a0,a1,r,rfl,hF,rfl⟩ hok;clear hok;refine⟨rfl, ?_⟩;show vc _ _ _ _ ⟨[(0, .dat (zaC a0)),(1, .dat (u8N a1))],[]⟩ _;unfold f50 at hF;exact wk6

set_option maxRecDepth 20000 in
set_option maxHeartbeats 4000000 in
theorem Q31 (N:Nat):CallOK Tryz.prog 31 (effPg zo3 (H31 N)):=by
 induction N with
 | zero=>exact zaM λ x y h=>(by cases (show (none:Option (LB))=some y from h))
 | succ N ih =>
  refine zaD (c:=zat zal [(31,true,effPg zo3 (H31 N))]) rfl tyOK (zaj (zaa Tryz.func31 rfl rfl) ih (zae)) 1000 Srf31 zwX Tryz.func31 rfl rfl (by kernel_rfl) rfl rfl rfl rfl rfl rfl rfl rfl (λ _=>rfl) (λ _=>rfl) (λ _ _=>⟨rfl,rfl⟩) ?_;rintro s0 y hF;have hF:f31b (f31 N) N s0=some y:=hF;show vc _ _ _ _ ⟨[(0, .dat (strN s0))],[]⟩ _;unfold f31b at hF;exact wk2
theorem P31:CallOK Tryz.prog 31 (effPg zo3 G31):=zbq Q31

set_option maxRecDepth 20000 in
set_option maxHeartbeats 4000000 in
theorem P46:PureOK Tryz.prog 46 G46:=by
 refine zar (c:=zat zal []) rfl tyOK (zae) [[0]] 1 Tryz.func46 rfl rfl (by decide) (by kernel_rfl) ?_;rintro ds d ⟨N,a0,r,rfl,hF,rfl⟩ hok;clear hok;refine⟨rfl, ?_⟩;show vc _ _ _ _ ⟨[(0, .ep [zbn a0.sheets,zaC a0.stones,iN a0.ground,bN a0.closed, .mp (encM strN iN a0.claims)])],[]⟩ _;unfold f46 at hF;exact wk6

set_option maxRecDepth 20000 in
set_option maxHeartbeats 4000000 in
theorem P47:PureOK Tryz.prog 47 G47:=by
 refine zar (c:=zat zal []) rfl tyOK (zae) [[0]] 1 Tryz.func47 rfl rfl (by decide) (by kernel_rfl) ?_;rintro ds d ⟨N,a0,r,rfl,hF,rfl⟩ hok;clear hok;refine⟨rfl, ?_⟩;show vc _ _ _ _ ⟨[(0, .ep [zbn a0.sheets,zaC a0.stones,iN a0.ground,bN a0.closed, .mp (encM strN iN a0.claims)])],[]⟩ _;unfold f47 at hF;exact wk6

set_option maxRecDepth 20000 in
set_option maxHeartbeats 4000000 in
theorem P48:PureOK Tryz.prog 48 G48:=by
 refine zar (c:=zat zal []) rfl tyOK (zae) [[0]] 2 Tryz.func48 rfl rfl (by decide) (by kernel_rfl) ?_;rintro ds d ⟨N,a0,a1,r,rfl,hF,rfl⟩ hok;clear hok;refine⟨rfl, ?_⟩;show vc _ _ _ _ ⟨[(0, .ep [zbn a0.sheets,zaC a0.stones,iN a0.ground,bN a0.closed, .mp (encM strN iN a0.claims)]),(1, .dat (iN a1))],[]⟩ _;unfold f48 at hF;exact wk6

set_option maxRecDepth 20000 in
set_option maxHeartbeats 4000000 in
theorem P104:PureOK Tryz.prog 104 G104:=by
 refine zar (c:=zat zal [(73,true,zcr [[0],[0]] G73)]) rfl tyOK (zbI (zaa Tryz.func73 rfl rfl) P73 (zae)) [[1],[0]] 1 Tryz.func104 rfl rfl (by decide) (by kernel_rfl) ?_;rintro ds d ⟨N,a0,r,rfl,hF,rfl⟩ hok;clear hok;refine⟨rfl, ?_⟩;show vc _ _ _ _ ⟨[(0, .dat (strN a0))],[]⟩ _;unfold f104 at hF;exact wk6

set_option maxRecDepth 20000 in
set_option maxHeartbeats 4000000 in
theorem P61:PureOK Tryz.prog 61 G61:=by
 refine zar (c:=zat zal [(88,true,lendPg [[0]] G88)]) rfl tyOK (zay (zaa Tryz.func88 rfl rfl) P88 (zae)) [[0]] 1 Tryz.func61 rfl rfl (by decide) (by kernel_rfl) ?_;rintro ds d ⟨N,a0,r,rfl,hF,rfl⟩ hok;clear hok;refine⟨rfl, ?_⟩;show vc _ _ _ _ ⟨[(0, .dat (strN a0))],[]⟩ _;unfold f61 at hF;exact wk3

set_option maxRecDepth 20000 in
set_option maxHeartbeats 4000000 in
theorem Q210 (N:Nat):CallOK Tryz.prog 210 (effPg zlz (H210 N)):=by
 induction N with
 | zero=>exact zaM λ x y h=>(by cases (show (none:Option (Int))=some y from h))
 | succ N ih =>
  refine zaD (c:=zat zal [(210,true,effPg zlz (H210 N)),(64,true,lendPg [[0],[0]] G64)]) rfl tyOK (zaj (zaa Tryz.func210 rfl rfl) ih (zay (zaa Tryz.func64 rfl rfl) P64 (zae))) 1000 zw0 zvo Tryz.func210 rfl rfl (by kernel_rfl) rfl rfl rfl rfl rfl rfl rfl rfl (λ _=>rfl) (λ _=>rfl) (λ _ _=>⟨rfl,rfl⟩) ?_;rintro⟨s0,s1,s2,s3⟩ y hF;have hF:ztl (f210 N) N s0 s1 s2 s3=some y:=hF;show vc _ _ _ _ ⟨[(0, .dat (.agg [strN s0.customer,strN s0.edition,iN s0.n])),(1, .ptr 0 0)],[(0, .box [.mp 1, .mp 2, .mp 3]),(1,(sW [2] s1)),(2,(eW s2)),(3,(mW s3))]⟩ _;unfold ztl at hF;exact wk5
theorem P210:CallOK Tryz.prog 210 (effPg zlz G210):=zbq Q210

set_option maxRecDepth 20000 in
set_option maxHeartbeats 4000000 in
theorem Q212 (N:Nat):CallOK Tryz.prog 212 (effPg zlA (H212 N)):=by
 induction N with
 | zero=>exact zaM λ x y h=>(by cases (show (none:Option (Int))=some y from h))
 | succ N ih =>
  refine zaD (c:=zat zal [(212,true,effPg zlA (H212 N)),(213,true,preTake 2 (effPg zlh G213))]) rfl tyOK (zaj (zaa Tryz.func212 rfl rfl) ih (znI (zaa Tryz.func213 rfl rfl) P213 (λ xs id=>Local.effPg xs id) (zae))) 1000 zw3 zvp Tryz.func212 rfl rfl (by kernel_rfl) rfl rfl rfl rfl rfl rfl rfl rfl (λ _=>rfl) (λ _=>rfl) (λ _ _=>⟨rfl,rfl⟩) ?_;rintro⟨s0,s1,s2,s3⟩ y hF;have hF:ztm (f212 N) N s0 s1 s2 s3=some y:=hF;show vc _ _ _ _ ⟨[(0, .dat (.agg [strN s0.claiming.customer,strN s0.claiming.edition,iN s0.claiming.n])),(1, .ptr 0 0)],[(0, .box [.mp 1, .mp 2, .mp 3]),(1,(sW [2] s1)),(2,(eW s2)),(3,(mW s3))]⟩ _;unfold ztm at hF;exact wk7
theorem P212:CallOK Tryz.prog 212 (effPg zlA G212):=zbq Q212

set_option maxRecDepth 20000 in
set_option maxHeartbeats 4000000 in
theorem Q215 (N:Nat):CallOK Tryz.prog 215 (effPg zlB (H215 N)):=by
 induction N with
 | zero=>exact zaM λ x y h=>(by cases (show (none:Option (Int))=some y from h))
 | succ N ih =>
  refine zaD (c:=zat zal [(215,true,effPg zlB (H215 N)),(64,true,lendPg [[0],[0]] G64)]) rfl tyOK (zaj (zaa Tryz.func215 rfl rfl) ih (zay (zaa Tryz.func64 rfl rfl) P64 (zae))) 1000 zw6 zvq Tryz.func215 rfl rfl (by kernel_rfl) rfl rfl rfl rfl rfl rfl rfl rfl (λ _=>rfl) (λ _=>rfl) (λ _ _=>⟨rfl,rfl⟩) ?_;rintro⟨s0,s1,s2,s3⟩ y hF;have hF:ztn (f215 N) N s0 s1 s2 s3=some y:=hF;show vc _ _ _ _ ⟨[(0, .dat (.agg [strN s0.stone])),(1, .ptr 0 0)],[(0, .box [.mp 1, .mp 2, .mp 3]),(1,(sW [2] s1)),(2,(eW s2)),(3,(mW s3))]⟩ _;unfold ztn at hF;exact wk5
theorem P215:CallOK Tryz.prog 215 (effPg zlB G215):=zbq Q215

set_option maxRecDepth 20000 in
set_option maxHeartbeats 4000000 in
theorem Q211 (N:Nat):CallOK Tryz.prog 211 (effPg zlC (H211 N)):=by
 induction N with
 | zero=>exact zaM λ x y h=>(by cases (show (none:Option (LE))=some y from h))
 | succ N ih =>
  refine zaD (c:=zat zal [(211,true,effPg zlC (H211 N)),(213,true,preTake 2 (effPg zlh G213))]) rfl tyOK (zaj (zaa Tryz.func211 rfl rfl) ih (znI (zaa Tryz.func213 rfl rfl) P213 (λ xs id=>Local.effPg xs id) (zae))) 1000 zw9 zvr Tryz.func211 rfl rfl (by kernel_rfl) rfl rfl rfl rfl rfl rfl rfl rfl (λ _=>rfl) (λ _=>rfl) (λ _ _=>⟨rfl,rfl⟩) ?_;rintro⟨s0,s1,s2,s3⟩ y hF;have hF:zto (f211 N) N s0 s1 s2 s3=some y:=hF;show vc _ _ _ _ ⟨[(0, .dat (.agg [strN s0.claiming.customer,strN s0.claiming.edition,iN s0.claiming.n])),(1, .ptr 0 0)],[(0, .box [.mp 1, .mp 2, .mp 3]),(1,(sW [2] s1)),(2,(eW s2)),(3,(mW s3))]⟩ _;unfold zto at hF;exact wk7
theorem P211:CallOK Tryz.prog 211 (effPg zlC G211):=zbq Q211

set_option maxRecDepth 20000 in
set_option maxHeartbeats 4000000 in
theorem P116:PureOK Tryz.prog 116 G116:=by
 refine zar (c:=zat zal [(142,false,zbL (zat zal [(165,false,zbL (zat zal [(144,false,zbL (zat zal [(117,true,lendPg [[0],[0],[0]] G117)]) Tryz.f144)]) Tryz.f165)]) Tryz.f142),(140,false,zbL (zat zal [(164,false,zbL (zat zal [(141,false,zbL (zat zal []) Tryz.f141)]) Tryz.f164)]) Tryz.f140),(145,true,lendPg [[1]] G145),(143,true,zcr [[1]] G143),(117,true,lendPg [[0],[0],[0]] G117)]) rfl tyOK (zaL (zaa Tryz.func142 rfl rfl) (CallOK.inl rfl tyOK (zaL (zaa Tryz.func165 rfl rfl) (CallOK.inl rfl tyOK (zaL (zaa Tryz.func144 rfl rfl) (CallOK.inl rfl tyOK (zay (zaa Tryz.func117 rfl rfl) P117 (zae)) Tryz.func144 (by kernel_rfl)) (zae)) Tryz.func165 (by kernel_rfl)) (zae)) Tryz.func142 (by kernel_rfl)) (zaL (zaa Tryz.func140 rfl rfl) (CallOK.inl rfl tyOK (zaL (zaa Tryz.func164 rfl rfl) (CallOK.inl rfl tyOK (zaL (zaa Tryz.func141 rfl rfl) (CallOK.inl rfl tyOK (zae) Tryz.func141 (by kernel_rfl)) (zae)) Tryz.func164 (by kernel_rfl)) (zae)) Tryz.func140 (by kernel_rfl)) (zay (zaa Tryz.func145 rfl rfl) P145 (zbI (zaa Tryz.func143 rfl rfl) P143 (zay (zaa Tryz.func117 rfl rfl) P117 (zae)))))) [[0]] 1 Tryz.func116 rfl rfl (by decide) (by kernel_rfl) ?_;rintro ds d ⟨N,a0,r,rfl,hF,rfl⟩ hok;clear hok;refine⟨rfl, ?_⟩;show vc _ _ _ _ ⟨[(0, .dat (zav a0))],[]⟩ _;unfold f116 at hF;exact wk6

set_option maxRecDepth 20000 in
set_option maxHeartbeats 4000000 in
theorem P119:PureOK Tryz.prog 119 G119:=by
 refine zar (c:=zat zal [(148,true,lendPg [[0],[0]] G148),(117,true,lendPg [[0],[0],[0]] G117)]) rfl tyOK (zay (zaa Tryz.func148 rfl rfl) P148 (zay (zaa Tryz.func117 rfl rfl) P117 (zae))) [[1],[0]] 2 Tryz.func119 rfl rfl (by decide) (by kernel_rfl) ?_;rintro ds d ⟨N,a0,a1,r,rfl,hF,rfl⟩ hok;clear hok;refine⟨rfl, ?_⟩;show vc _ _ _ _ ⟨[(0, .dat (iN a0)),(1, .dat (iN a1))],[]⟩ _;unfold f119 at hF;exact wk2

set_option maxRecDepth 20000 in
set_option maxHeartbeats 4000000 in
theorem P26:PureOK Tryz.prog 26 G26:=by
 refine zar (c:=zat zal [(50,true,lendPg [[1],[0]] G50),(30,true,lendPg [[0]] G30),(29,true,zcr [] G29),(28,true,zcr [] G28),(27,true,zcr [] G27)]) rfl tyOK (zay (zaa Tryz.func50 rfl rfl) P50 (zay (zaa Tryz.func30 rfl rfl) P30 (zbI (zaa Tryz.func29 rfl rfl) P29 (zbI (zaa Tryz.func28 rfl rfl) P28 (zbI (zaa Tryz.func27 rfl rfl) P27 (zae)))))) [[1]] 1 Tryz.func26 rfl rfl (by decide) (by kernel_rfl) ?_;rintro ds d ⟨N,a0,r,rfl,hF,rfl⟩ hok;clear hok;refine⟨rfl, ?_⟩;show vc _ _ _ _ ⟨[(0, .dat (zd0 a0))],[]⟩ _;unfold f26 at hF
 repeat' (first
 | ((with_reducible first|refine q0 _ _ ?_|refine q1 _ _ _ _ ?_|refine q2 _ _ _ ?_);clear Q q0 q1 q2)
 | ((with_reducible first|refine zd6 ?hx (λ Q q0 q1 q2=>?_)|refine zdK ?hx (λ Q q0 q1 q2=>?_)|refine zea ?hx (λ Q q0 q1 q2=>?_)|refine zfd ?hx (λ Q q0 q1 q2=>?_));(case hx=>exact rfl);conv=>whnf)
 | ((with_reducible refine zdu ?_);(first|((refine zeF rfl ?hy ?_);(case hy=>first|assumption|exact notT (by assumption)|exact rfl))|((refine zeG rfl ?hy ?_);(case hy=>first|assumption|exact notF (by assumption)|exact rfl))|(revert hF;(with_reducible refine zic ?hx ?_ ?_);(case hx=>exact rfl);all_goals (intro hc hF))))
 | ((with_reducible refine zcJ ?_);(first|((with_reducible refine hR _ ?_);clear R hR)|((with_reducible refine hL _ ?_);clear L hL)))
 | ((with_reducible refine zcO ?_);(with_reducible refine hR _ _ ?hx ?_);(case hx=>kernel_rfl);clear R hR)
 | ((with_reducible first|refine zcR ?_|refine zdn ?_|refine idx2 (by assumption) ?_|refine idx3 (by assumption) ?_);conv=>whnf)
 | (with_reducible first|refine zcf ?_|refine zcI ?_|refine zd5 ?_|refine zcZ ?_|refine zbK (λ R hR=>?_)|refine zbJ ?_|refine zby ?_|refine zh0 ?_|refine zbW ?_|refine zbM ?_|refine zcU ?_|refine zcv ?_)
 | ((with_reducible refine zcK [32] ?hx ?_);(case hx=>exact rfl))
 | ((with_reducible refine zdI ?hx (λ R L hL hR=>?_));(case hx=>exact rfl))
 | ((with_reducible replace hF:=isE hF);(dsimp only[zjJ,zua,zhH] at hF);first|rewrite[zeh] at hF|rewrite[zlE] at hF)
 | ((with_reducible refine zc7 ?_);(with_reducible replace hF:=zeV 1 hF);((refine Lp.cutI hF rfl rfl ?_ ?_) <;> clear hF);(intro hF);rotate_left;(rintro _ hF);rotate_right)
 | ((with_reducible refine zcL ?_);(with_reducible replace hF:=toLp 1 1 hF);exact Lp.headI hF (_,()) ⟨_,rfl,rfl,rfl,rfl⟩ (pr2 (by first|exact rfl|assumption|omega|(simp only[List.length_set];done)) rfl))
 | ((with_reducible refine zeW ?_);(with_reducible replace hF:=toLp 1 2 hF);((refine Lp.loopI hF (_,()) rfl ⟨_,rfl,rfl,rfl,rfl⟩ (pr2 (by first|exact rfl|assumption|omega|(simp only[List.length_set];done)) rfl) (λ _=>rfl) ?_);clear hF);(rintro n ⟨_,_⟩ hF))
 | ((with_reducible refine zeX ?_);(with_reducible replace hF:=toLp 1 2 hF);exact Lp.backI hF (_,()) ⟨_,rfl,rfl,rfl,rfl⟩ (pr2 (by first|exact rfl|assumption|omega|(simp only[List.length_set];done)) rfl))
 | (revert hF;(with_reducible refine G27.step ?hx ?_);(case hx=>exact rfl);intro v hF;conv=>whnf)
 | (revert hF;(with_reducible refine G28.step ?hx ?_);(case hx=>exact rfl);intro v hF;conv=>whnf)
 | (revert hF;(with_reducible refine G29.step ?hx ?_);(case hx=>exact rfl);intro v hF;conv=>whnf)
 | (revert hF;(with_reducible refine G30.lend ?hx ?_);(case hx=>exact rfl);intro v hF;conv=>whnf)
 | (revert hF;(with_reducible refine G50.lend ?hx ?_);(case hx=>exact rfl);intro v hF;conv=>whnf)
 | ((with_reducible have hI:=zmL hF);clear hI;revert hF;(refine zhf ?_);intro x hF;conv=>whnf)
 | ((with_reducible refine znK rfl ?_);conv=>whnf)
 | ((with_reducible first|refine zcD ?hx ?_|refine zdh ?hx ?_);(case hx=>exact rfl))
 | (revert hF;(with_reducible refine idx1 ?hn ?_);(case hn=>first|exact rfl|exact(List.length_map _)|assumption|omega|simp);intro x hx hF;conv=>whnf)
 | ((with_reducible have hG:=zdo hF);clear hF;(first|((refine zdU hG ?hn ?hs (λ q hF=>?_));(case hn=>first|exact rfl|assumption|omega);(case hs=>exact rfl))|((refine zdT (d:=strN) hG ?hs (λ q hF=>?_));(case hs=>exact rfl))|((refine zdV (d:=strN) hG ?ho ?hn ?hs (λ q hF=>?_));(case ho=>exact rfl);(case hn=>exact rfl);(case hs=>exact rfl)));clear hG;conv=>whnf)
 | ((refine zeU ?hn ?_);(case hn=>first|exact rfl|(simp;done)|(simp;omega));conv=>whnf)
 | ((with_reducible refine zeS ?_);conv=>whnf)
 | ((refine⟨?hx,trivial⟩);(case hx=>(cases hF;exact rfl)))
 | ((refine⟨?hx, ?_⟩);(case hx=>decide);conv=>whnf)
 | with_reducible refine zfK ?_)

set_option maxRecDepth 20000 in
set_option maxHeartbeats 4000000 in
theorem P107:PureOK Tryz.prog 107 G107:=by
 refine zar (c:=zat zal [(61,true,lendPg [[0]] G61)]) rfl tyOK (zay (zaa Tryz.func61 rfl rfl) P61 (zae)) [[0]] 1 Tryz.func107 rfl rfl (by decide) (by kernel_rfl) ?_;rintro ds d ⟨N,a0,r,rfl,hF,rfl⟩ hok;clear hok;refine⟨rfl, ?_⟩;show vc _ _ _ _ ⟨[(0, .dat (strN a0))],[]⟩ _;unfold f107 at hF;exact wk3

set_option maxRecDepth 20000 in
set_option maxHeartbeats 4000000 in
theorem P158:PureOK Tryz.prog 158 G158:=by
 refine zar (c:=zat zal [(142,false,zbL (zat zal [(165,false,zbL (zat zal [(174,false,zbL (zat zal [(117,true,lendPg [[0],[0],[0]] G117)]) Tryz.f174)]) Tryz.f165)]) Tryz.f142),(116,true,lendPg [[1]] G116)]) rfl tyOK (zaL (zaa Tryz.func142 rfl rfl) (CallOK.inl rfl tyOK (zaL (zaa Tryz.func165 rfl rfl) (CallOK.inl rfl tyOK (zaL (zaa Tryz.func174 rfl rfl) (CallOK.inl rfl tyOK (zay (zaa Tryz.func117 rfl rfl) P117 (zae)) Tryz.func174 (by kernel_rfl)) (zae)) Tryz.func165 (by kernel_rfl)) (zae)) Tryz.func142 (by kernel_rfl)) (zay (zaa Tryz.func116 rfl rfl) P116 (zae))) [[0]] 2 Tryz.func158 rfl rfl (by decide) (by kernel_rfl) ?_;rintro ds d ⟨N,a0,a1,r,rfl,hF,rfl⟩ hok;clear hok;refine⟨rfl, ?_⟩;show vc _ _ _ _ ⟨[(0, .dat (zav a0)),(1, .dat (zbn a1))],[]⟩ _;unfold f158 at hF;exact wk6

set_option maxRecDepth 20000 in
set_option maxHeartbeats 4000000 in
theorem P84:PureOK Tryz.prog 84 G84:=by
 refine zar (c:=zat zal [(119,true,zcr [[0],[0]] G119)]) rfl tyOK (zbI (zaa Tryz.func119 rfl rfl) P119 (zae)) [[1]] 0 Tryz.func84 rfl rfl (by decide) (by kernel_rfl) ?_;rintro ds d ⟨N,r,rfl,hF,rfl⟩ hok;clear hok;refine⟨rfl, ?_⟩;show vc _ _ _ _ ⟨[],[]⟩ _;unfold f84 at hF;exact wk3

set_option maxRecDepth 20000 in
set_option maxHeartbeats 4000000 in
theorem Q32 (N:Nat):CallOK Tryz.prog 32 (effPg zq1 (H32 N)):=by
 induction N with
 | zero=>exact zaM λ x y h=>(by cases (show (none:Option (Int×ByteArray×Int))=some y from h))
 | succ N ih =>
  refine zaD (c:=zat zal [(32,true,effPg zq1 (H32 N)),(53,false,zbL (zat zal []) Tryz.f53),(61,true,lendPg [[0]] G61)]) rfl tyOK (zaj (zaa Tryz.func32 rfl rfl) ih (zaL (zaa Tryz.func53 rfl rfl) (CallOK.inl rfl tyOK (zae) Tryz.func53 (by kernel_rfl)) (zay (zaa Tryz.func61 rfl rfl) P61 (zae)))) 1000 Srf32 zxd Tryz.func32 rfl rfl (by kernel_rfl) rfl rfl rfl rfl rfl rfl rfl rfl (λ _=>rfl) (λ _=>rfl) (λ _ _=>⟨rfl,rfl⟩) ?_;rintro⟨s0,s1,s2,s3,s4⟩ y hF;have hF:f32b (f32 N) N s0 s1 s2 s3 s4=some y:=hF;show vc _ _ _ _ ⟨[(0, .ptr 0 0),(1, .dat (strN s0))],[(0, .box [.ptr 1 0, .rs 2 (List.length s1)]),(1, .box [.mp 3, .mp 4, .mp 5]),(2,(rW s1)),(3,(sW [4] s2)),(4,(eW s3)),(5,(mW s4))]⟩ _;unfold f32b at hF;exact wk7
theorem P32:CallOK Tryz.prog 32 (effPg zq1 G32):=zbq Q32

set_option maxRecDepth 20000 in
set_option maxHeartbeats 4000000 in
theorem Q33 (N:Nat):CallOK Tryz.prog 33 (effPg zq2 (H33 N)):=by
 induction N with
 | zero=>exact zaM λ x y h=>(by cases (show (none:Option ((List Int)×Int))=some y from h))
 | succ N ih =>
  refine zaD (c:=zat zal [(33,true,effPg zq2 (H33 N)),(63,false,zbL (zat zal []) Tryz.f63),(62,false,zbL (zat zal [(53,false,zbL (zat zal []) Tryz.f53),(61,true,lendPg [[0]] G61)]) Tryz.f62)]) rfl tyOK (zaj (zaa Tryz.func33 rfl rfl) ih (zaL (zaa Tryz.func63 rfl rfl) (CallOK.inl rfl tyOK (zae) Tryz.func63 (by kernel_rfl)) (zaL (zaa Tryz.func62 rfl rfl) (CallOK.inl rfl tyOK (zaL (zaa Tryz.func53 rfl rfl) (CallOK.inl rfl tyOK (zae) Tryz.func53 (by kernel_rfl)) (zay (zaa Tryz.func61 rfl rfl) P61 (zae))) Tryz.func62 (by kernel_rfl)) (zae)))) 1000 Srf33 zxe Tryz.func33 rfl rfl (by kernel_rfl) rfl rfl rfl rfl rfl rfl rfl rfl (λ _=>rfl) (λ _=>rfl) (λ _ _=>⟨rfl,rfl⟩) ?_;rintro⟨s0,s1,s2,s3,s4⟩ y hF;have hF:f33b (f33 N) N s0 s1 s2 s3 s4=some y:=hF;show vc _ _ _ _ ⟨[(0, .ptr 0 0),(1, .dat (strN s0))],[(0, .box [.ptr 1 0, .rs 2 (List.length s1)]),(1, .box [.mp 3, .mp 4, .mp 5]),(2,(rW s1)),(3,(sW [4] s2)),(4,(eW s3)),(5,(mW s4))]⟩ _;unfold f33b at hF;exact wk7
theorem P33:CallOK Tryz.prog 33 (effPg zq2 G33):=zbq Q33


end Go.Vc
