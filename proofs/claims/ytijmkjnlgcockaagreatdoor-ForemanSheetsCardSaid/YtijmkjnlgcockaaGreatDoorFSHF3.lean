/-
  A library for proofs about Go functions by symbolic evaluation,and plain Lean functions that the walked Go functions compute (written by a program of this claim).
-/
import Derived.Test.YtijmkjnlgcockaaGreatDoorFSHF1
import Derived.Test.YtijmkjnlgcockaaGreatDoorFSHF2
set_option linter.unusedVariables false
set_option linter.unnecessarySimpa false
set_option linter.unusedSimpArgs false
namespace Go.Vc
open Go.Proofs
set_option maxRecDepth 20000 in
set_option maxHeartbeats 4000000 in
theorem P105:PureOK Tryz.prog 105 G105:=by
 refine zau (c:=zav zak []) rfl tyOK (zae) [[0],[0]] 1 Tryz.func105 rfl rfl (by decide) (by kernel_rfl) ?_;rintro ds d ⟨N,a0,r,rfl,hF,rfl⟩ hok;clear hok;refine⟨rfl, ?_⟩;show vc _ _ _ _ ⟨[(0, .dat (strN a0))],[]⟩ _;unfold f105 at hF;exact wk6

set_option maxRecDepth 20000 in
set_option maxHeartbeats 4000000 in
theorem P88:PureOK Tryz.prog 88 G88:=by
 refine zau (c:=zav zak []) rfl tyOK (zae) [[0]] 1 Tryz.func88 rfl rfl (by decide) (by kernel_rfl) ?_;rintro ds d ⟨N,a0,r,rfl,hF,rfl⟩ hok;clear hok;refine⟨rfl, ?_⟩;show vc _ _ _ _ ⟨[(0, .dat (strN a0))],[]⟩ _;unfold f88 at hF;exact wk6

set_option maxRecDepth 20000 in
set_option maxHeartbeats 4000000 in
theorem P108:PureOK Tryz.prog 108 G108:=by
 refine zau (c:=zav zak []) rfl tyOK (zae) [[0]] 2 Tryz.func108 rfl rfl (by decide) (by kernel_rfl) ?_;rintro ds d ⟨N,a0,a1,r,rfl,hF,rfl⟩ hok;clear hok;refine⟨rfl, ?_⟩;show vc _ _ _ _ ⟨[(0, .dat (zaG a0)),(1, .dat (A2iN.d a1))],[]⟩ _;unfold f108 at hF;exact wk5

set_option maxRecDepth 20000 in
set_option maxHeartbeats 4000000 in
theorem Q198 (N:Nat):CallOK Tryz.prog 198 (effPg zlf (H198 N)):=by
 induction N with
 | zero=>exact zaQ λ x y h=>(by cases (show (none:Option (Int))=some y from h))
 | succ N ih =>
  refine zaD (c:=zav zak [(198,true,effPg zlf (H198 N))]) rfl tyOK (zai (zaa Tryz.func198 rfl rfl) ih (zae)) 1000 zv9 zu4 Tryz.func198 rfl rfl (by kernel_rfl) rfl rfl rfl rfl rfl rfl rfl rfl (λ _=>rfl) (λ _=>rfl) (λ _ _=>⟨rfl,rfl⟩) ?_;rintro⟨s0,s1,s2,s3⟩ y hF;have hF:zsV (f198 N) N s0 s1 s2 s3=some y:=hF;show vc _ _ _ _ ⟨[(0, .dat (.agg [strN s0.name,iN s0.thick])),(1, .ptr 0 0)],[(0, .box [.mp 1, .mp 2, .mp 3]),(1,(sW [2] s1)),(2,(eW s2)),(3,(mW s3))]⟩ _;unfold zsV at hF;exact wk5
theorem P198:CallOK Tryz.prog 198 (effPg zlf G198):=zbt Q198

set_option maxRecDepth 20000 in
set_option maxHeartbeats 4000000 in
theorem Q200 (N:Nat):CallOK Tryz.prog 200 (effPg zlg (H200 N)):=by
 induction N with
 | zero=>exact zaQ λ x y h=>(by cases (show (none:Option (Int))=some y from h))
 | succ N ih =>
  refine zaD (c:=zav zak [(200,true,effPg zlg (H200 N))]) rfl tyOK (zai (zaa Tryz.func200 rfl rfl) ih (zae)) 1000 zwb zu5 Tryz.func200 rfl rfl (by kernel_rfl) rfl rfl rfl rfl rfl rfl rfl rfl (λ _=>rfl) (λ _=>rfl) (λ _ _=>⟨rfl,rfl⟩) ?_;rintro⟨s0,s1,s2,s3⟩ y hF;have hF:zsW (f200 N) N s0 s1 s2 s3=some y:=hF;show vc _ _ _ _ ⟨[(0, .dat (.agg [strN s0.name])),(1, .ptr 0 0)],[(0, .box [.mp 1, .mp 2, .mp 3]),(1,(sW [2] s1)),(2,(eW s2)),(3,(mW s3))]⟩ _;unfold zsW at hF;exact wk5
theorem P200:CallOK Tryz.prog 200 (effPg zlg G200):=zbt Q200

set_option maxRecDepth 20000 in
set_option maxHeartbeats 4000000 in
theorem Q202 (N:Nat):CallOK Tryz.prog 202 (effPg zlh (H202 N)):=by
 induction N with
 | zero=>exact zaQ λ x y h=>(by cases (show (none:Option (Int))=some y from h))
 | succ N ih =>
  refine zaD (c:=zav zak [(202,true,effPg zlh (H202 N))]) rfl tyOK (zai (zaa Tryz.func202 rfl rfl) ih (zae)) 1000 zwe zu6 Tryz.func202 rfl rfl (by kernel_rfl) rfl rfl rfl rfl rfl rfl rfl rfl (λ _=>rfl) (λ _=>rfl) (λ _ _=>⟨rfl,rfl⟩) ?_;rintro⟨s0,s1,s2,s3⟩ y hF;have hF:zsX (f202 N) N s0 s1 s2 s3=some y:=hF;show vc _ _ _ _ ⟨[(0, .dat (.agg [strN s0.stone,strN s0.edition])),(1, .ptr 0 0)],[(0, .box [.mp 1, .mp 2, .mp 3]),(1,(sW [2] s1)),(2,(eW s2)),(3,(mW s3))]⟩ _;unfold zsX at hF;exact wk5
theorem P202:CallOK Tryz.prog 202 (effPg zlh G202):=zbt Q202

set_option maxRecDepth 20000 in
set_option maxHeartbeats 4000000 in
theorem Q204 (N:Nat):CallOK Tryz.prog 204 (effPg zli (H204 N)):=by
 induction N with
 | zero=>exact zaQ λ x y h=>(by cases (show (none:Option (Int))=some y from h))
 | succ N ih =>
  refine zaD (c:=zav zak [(204,true,effPg zli (H204 N))]) rfl tyOK (zai (zaa Tryz.func204 rfl rfl) ih (zae)) 1000 zwh zu7 Tryz.func204 rfl rfl (by kernel_rfl) rfl rfl rfl rfl rfl rfl rfl rfl (λ _=>rfl) (λ _=>rfl) (λ _ _=>⟨rfl,rfl⟩) ?_;rintro⟨s0,s1,s2,s3⟩ y hF;have hF:zsY (f204 N) N s0 s1 s2 s3=some y:=hF;show vc _ _ _ _ ⟨[(0, .dat (.agg [strN s0.edition,iN s0.n])),(1, .ptr 0 0)],[(0, .box [.mp 1, .mp 2, .mp 3]),(1,(sW [2] s1)),(2,(eW s2)),(3,(mW s3))]⟩ _;unfold zsY at hF;exact wk5
theorem P204:CallOK Tryz.prog 204 (effPg zli G204):=zbt Q204

set_option maxRecDepth 20000 in
set_option maxHeartbeats 4000000 in
theorem Q206 (N:Nat):CallOK Tryz.prog 206 (effPg zlj (H206 N)):=by
 induction N with
 | zero=>exact zaQ λ x y h=>(by cases (show (none:Option (Int))=some y from h))
 | succ N ih =>
  refine zaD (c:=zav zak [(206,true,effPg zlj (H206 N))]) rfl tyOK (zai (zaa Tryz.func206 rfl rfl) ih (zae)) 1000 zwk zu8 Tryz.func206 rfl rfl (by kernel_rfl) rfl rfl rfl rfl rfl rfl rfl rfl (λ _=>rfl) (λ _=>rfl) (λ _ _=>⟨rfl,rfl⟩) ?_;rintro⟨s0,s1,s2,s3⟩ y hF;have hF:zsZ (f206 N) N s0 s1 s2 s3=some y:=hF;show vc _ _ _ _ ⟨[(0, .dat (.agg [strN s0.stone,iN s0.good,iN s0.spoilt])),(1, .ptr 0 0)],[(0, .box [.mp 1, .mp 2, .mp 3]),(1,(sW [2] s1)),(2,(eW s2)),(3,(mW s3))]⟩ _;unfold zsZ at hF;exact wk5
theorem P206:CallOK Tryz.prog 206 (effPg zlj G206):=zbt Q206

set_option maxRecDepth 20000 in
set_option maxHeartbeats 4000000 in
theorem Q208 (N:Nat):CallOK Tryz.prog 208 (effPg zlk (H208 N)):=by
 induction N with
 | zero=>exact zaQ λ x y h=>(by cases (show (none:Option (Int))=some y from h))
 | succ N ih =>
  refine zaD (c:=zav zak [(208,true,effPg zlk (H208 N))]) rfl tyOK (zai (zaa Tryz.func208 rfl rfl) ih (zae)) 1000 zwn zu9 Tryz.func208 rfl rfl (by kernel_rfl) rfl rfl rfl rfl rfl rfl rfl rfl (λ _=>rfl) (λ _=>rfl) (λ _ _=>⟨rfl,rfl⟩) ?_;rintro⟨s0,s1,s2,s3⟩ y hF;have hF:zs0 (f208 N) N s0 s1 s2 s3=some y:=hF;show vc _ _ _ _ ⟨[(0, .dat (.agg [strN s0.edition])),(1, .ptr 0 0)],[(0, .box [.mp 1, .mp 2, .mp 3]),(1,(sW [2] s1)),(2,(eW s2)),(3,(mW s3))]⟩ _;unfold zs0 at hF;exact wk5
theorem P208:CallOK Tryz.prog 208 (effPg zlk G208):=zbt Q208

set_option maxRecDepth 20000 in
set_option maxHeartbeats 4000000 in
theorem P64:PureOK Tryz.prog 64 G64:=by
 refine zau (c:=zav zak []) rfl tyOK (zae) [[0]] 2 Tryz.func64 rfl rfl (by decide) (by kernel_rfl) ?_;rintro ds d ⟨N,a0,a1,r,rfl,hF,rfl⟩ hok;clear hok;refine⟨rfl, ?_⟩;show vc _ _ _ _ ⟨[(0, .ep [strN a0.name,bN a0.closed,zbi a0.places,iN a0.from_,iN a0.paper,iN a0.delivered,iN a0.spoilt, .mp (encM strN iN a0.owed),iN a0.open_]),(1, .dat (iN a1))],[]⟩ _;unfold f64 at hF;exact wk6

set_option maxRecDepth 20000 in
set_option maxHeartbeats 4000000 in
theorem P213:CallOK Tryz.prog 213 (effPg zlm G213):=by
 refine zaD (c:=zav zak []) rfl tyOK (zae) 1000 ⟨[0],[0,1],[],[]⟩ ⟨[0],[0,1],[],[]⟩ Tryz.func213 rfl rfl (by kernel_rfl) rfl rfl rfl rfl rfl rfl rfl rfl (λ _=>rfl) (λ _=>rfl) (λ _ _=>⟨rfl,rfl⟩) ?_;rintro⟨i,es,x⟩ y ⟨hx,h1,h2⟩;replace h1:0<=zmU x:=h1;replace h2:zmU x<x.places.length:=h2;unfold zmU zmT W at h1 h2;replace hx:getF es i=some x:=hx;show vc _ _ _ _ ⟨[(0, .po 0 i 0)],[(0, .fam [] (encF strN EditionM.m es) [(i,2,1)]),(1, .row 3 1 (List.map iN x.places))]⟩ _
 repeat' (first
 | ((with_reducible first|refine q0 _ _ ?_|refine q1 _ _ _ _ ?_|refine q2 _ _ _ ?_);clear Q q0 q1 q2)
 | ((with_reducible first|refine zd5 ?hx (λ Q q0 q1 q2=>?_)|refine zdH ?hx (λ Q q0 q1 q2=>?_));(case hx=>exact rfl);conv=>whnf)
 | ((with_reducible refine zcI ?_);(first|((with_reducible refine hR _ ?_);clear R hR)|((with_reducible refine hL _ ?_);clear L hL)))
 | ((with_reducible refine zcN ?_);(with_reducible refine hR _ _ ?hx ?_);(case hx=>kernel_rfl);clear R hR)
 | ((with_reducible first|refine zcQ ?_|refine zdm ?_);conv=>whnf)
 | (with_reducible first|refine zca ?_|refine zcH ?_|refine zd4 ?_|refine zcY ?_|refine zbL (λ R hR=>?_)|refine zbK ?_|refine zbz ?_)
 | ((with_reducible refine zcJ [] ?hx ?_);(case hx=>exact rfl))
 | ((with_reducible refine zdF ?hx (λ R L hL hR=>?_));(case hx=>exact rfl))
 | ((refine ze2 rfl hx (by exact rfl) ?_);conv=>whnf)
 | ((refine Or.inl (Or.inl ⟨_,ziG, ?_⟩));conv=>whnf)
 | ((refine⟨?h, ?_⟩;(case h=>exact⟨h1,h2⟩));conv=>whnf)
 | ((with_reducible refine zhj ?hn ?_);(case hn=>first|exact rfl|assumption|omega);conv=>whnf)
 | ((with_reducible refine zfO ?_))
 | ((refine⟨?h, ?_⟩;(case h=>(simp only[List.length_map];done)));conv=>whnf)
 | (show retE _ _ _ _ _ _ _ _;conv=>whnf)
 | ((refine Or.inl ?_);(conv=>whnf);exact⟨rfl,rfl,rfl⟩))

set_option maxRecDepth 20000 in
set_option maxHeartbeats 4000000 in
theorem Q197 (N:Nat):CallOK Tryz.prog 197 (effPg zln (H197 N)):=by
 induction N with
 | zero=>exact zaQ λ x y h=>(by cases (show (none:Option (LS))=some y from h))
 | succ N ih =>
  refine zaD (c:=zav zak [(197,true,effPg zln (H197 N))]) rfl tyOK (zai (zaa Tryz.func197 rfl rfl) ih (zae)) 1000 zwq zva Tryz.func197 rfl rfl (by kernel_rfl) rfl rfl rfl rfl rfl rfl rfl rfl (λ _=>rfl) (λ _=>rfl) (λ _ _=>⟨rfl,rfl⟩) ?_;rintro⟨s0,s1,s2,s3⟩ y hF;have hF:zs1 (f197 N) N s0 s1 s2 s3=some y:=hF;show vc _ _ _ _ ⟨[(0, .dat (.agg [strN s0.name,iN s0.thick])),(1, .ptr 0 0)],[(0, .box [.mp 1, .mp 2, .mp 3]),(1,(sW [2] s1)),(2,(eW s2)),(3,(mW s3))]⟩ _;unfold zs1 at hF;exact wk4
theorem P197:CallOK Tryz.prog 197 (effPg zln G197):=zbt Q197

set_option maxRecDepth 20000 in
set_option maxHeartbeats 4000000 in
theorem Q199 (N:Nat):CallOK Tryz.prog 199 (effPg zlo (H199 N)):=by
 induction N with
 | zero=>exact zaQ λ x y h=>(by cases (show (none:Option (LE))=some y from h))
 | succ N ih =>
  refine zaD (c:=zav zak [(199,true,effPg zlo (H199 N))]) rfl tyOK (zai (zaa Tryz.func199 rfl rfl) ih (zae)) 1000 zwt zvb Tryz.func199 rfl rfl (by kernel_rfl) rfl rfl rfl rfl rfl rfl rfl rfl (λ _=>rfl) (λ _=>rfl) (λ _ _=>⟨rfl,rfl⟩) ?_;rintro⟨s0,s1,s2,s3⟩ y hF;have hF:zs2 (f199 N) N s0 s1 s2 s3=some y:=hF;show vc _ _ _ _ ⟨[(0, .dat (.agg [strN s0.name])),(1, .ptr 0 0)],[(0, .box [.mp 1, .mp 2, .mp 3]),(1,(sW [2] s1)),(2,(eW s2)),(3,(mW s3))]⟩ _;unfold zs2 at hF;exact wk4
theorem P199:CallOK Tryz.prog 199 (effPg zlo G199):=zbt Q199

set_option maxRecDepth 20000 in
set_option maxHeartbeats 4000000 in
theorem Q201 (N:Nat):CallOK Tryz.prog 201 (effPg zlp (H201 N)):=by
 induction N with
 | zero=>exact zaQ λ x y h=>(by cases (show (none:Option (LS×LE))=some y from h))
 | succ N ih =>
  refine zaD (c:=zav zak [(201,true,effPg zlp (H201 N))]) rfl tyOK (zai (zaa Tryz.func201 rfl rfl) ih (zae)) 1000 zww zvc Tryz.func201 rfl rfl (by kernel_rfl) rfl rfl rfl rfl rfl rfl rfl rfl (λ _=>rfl) (λ _=>rfl) (λ _ _=>⟨rfl,rfl⟩) ?_;rintro⟨s0,s1,s2,s3⟩ y hF;have hF:zs3 (f201 N) N s0 s1 s2 s3=some y:=hF;show vc _ _ _ _ ⟨[(0, .dat (.agg [strN s0.stone,strN s0.edition])),(1, .ptr 0 0)],[(0, .box [.mp 1, .mp 2, .mp 3]),(1,(sW [2] s1)),(2,(eW s2)),(3,(mW s3))]⟩ _;unfold zs3 at hF;exact wk7
theorem P201:CallOK Tryz.prog 201 (effPg zlp G201):=zbt Q201

set_option maxRecDepth 20000 in
set_option maxHeartbeats 4000000 in
theorem Q203 (N:Nat):CallOK Tryz.prog 203 (effPg zlq (H203 N)):=by
 induction N with
 | zero=>exact zaQ λ x y h=>(by cases (show (none:Option (LE))=some y from h))
 | succ N ih =>
  refine zaD (c:=zav zak [(203,true,effPg zlq (H203 N))]) rfl tyOK (zai (zaa Tryz.func203 rfl rfl) ih (zae)) 1000 zwz zvd Tryz.func203 rfl rfl (by kernel_rfl) rfl rfl rfl rfl rfl rfl rfl rfl (λ _=>rfl) (λ _=>rfl) (λ _ _=>⟨rfl,rfl⟩) ?_;rintro⟨s0,s1,s2,s3⟩ y hF;have hF:zs4 (f203 N) N s0 s1 s2 s3=some y:=hF;show vc _ _ _ _ ⟨[(0, .dat (.agg [strN s0.edition,iN s0.n])),(1, .ptr 0 0)],[(0, .box [.mp 1, .mp 2, .mp 3]),(1,(sW [2] s1)),(2,(eW s2)),(3,(mW s3))]⟩ _;unfold zs4 at hF;exact wk7
theorem P203:CallOK Tryz.prog 203 (effPg zlq G203):=zbt Q203

set_option maxRecDepth 20000 in
set_option maxHeartbeats 4000000 in
theorem Q205 (N:Nat):CallOK Tryz.prog 205 (effPg zlr (H205 N)):=by
 induction N with
 | zero=>exact zaQ λ x y h=>(by cases (show (none:Option (LE))=some y from h))
 | succ N ih =>
  refine zaD (c:=zav zak [(205,true,effPg zlr (H205 N))]) rfl tyOK (zai (zaa Tryz.func205 rfl rfl) ih (zae)) 1000 zwC zve Tryz.func205 rfl rfl (by kernel_rfl) rfl rfl rfl rfl rfl rfl rfl rfl (λ _=>rfl) (λ _=>rfl) (λ _ _=>⟨rfl,rfl⟩) ?_;rintro⟨s0,s1,s2,s3⟩ y hF;have hF:zs5 (f205 N) N s0 s1 s2 s3=some y:=hF;show vc _ _ _ _ ⟨[(0, .dat (.agg [strN s0.stone,iN s0.good,iN s0.spoilt])),(1, .ptr 0 0)],[(0, .box [.mp 1, .mp 2, .mp 3]),(1,(sW [2] s1)),(2,(eW s2)),(3,(mW s3))]⟩ _;unfold zs5 at hF;exact wk7
theorem P205:CallOK Tryz.prog 205 (effPg zlr G205):=zbt Q205

set_option maxRecDepth 20000 in
set_option maxHeartbeats 4000000 in
theorem Q207 (N:Nat):CallOK Tryz.prog 207 (effPg zls (H207 N)):=by
 induction N with
 | zero=>exact zaQ λ x y h=>(by cases (show (none:Option (LE))=some y from h))
 | succ N ih =>
  refine zaD (c:=zav zak [(207,true,effPg zls (H207 N))]) rfl tyOK (zai (zaa Tryz.func207 rfl rfl) ih (zae)) 1000 zwF zvf Tryz.func207 rfl rfl (by kernel_rfl) rfl rfl rfl rfl rfl rfl rfl rfl (λ _=>rfl) (λ _=>rfl) (λ _ _=>⟨rfl,rfl⟩) ?_;rintro⟨s0,s1,s2,s3⟩ y hF;have hF:zs6 (f207 N) N s0 s1 s2 s3=some y:=hF;show vc _ _ _ _ ⟨[(0, .dat (.agg [strN s0.edition])),(1, .ptr 0 0)],[(0, .box [.mp 1, .mp 2, .mp 3]),(1,(sW [2] s1)),(2,(eW s2)),(3,(mW s3))]⟩ _;unfold zs6 at hF;exact wk7
theorem P207:CallOK Tryz.prog 207 (effPg zls G207):=zbt Q207

set_option maxRecDepth 20000 in
set_option maxHeartbeats 4000000 in
theorem Q209 (N:Nat):CallOK Tryz.prog 209 (effPg zlt (H209 N)):=by
 induction N with
 | zero=>exact zaQ λ x y h=>(by cases (show (none:Option (LE×LC))=some y from h))
 | succ N ih =>
  refine zaD (c:=zav zak [(209,true,effPg zlt (H209 N))]) rfl tyOK (zai (zaa Tryz.func209 rfl rfl) ih (zae)) 1000 zwI zvg Tryz.func209 rfl rfl (by kernel_rfl) rfl rfl rfl rfl rfl rfl rfl rfl (λ _=>rfl) (λ _=>rfl) (λ _ _=>⟨rfl,rfl⟩) ?_;rintro⟨s0,s1,s2,s3⟩ y hF;have hF:zs7 (f209 N) N s0 s1 s2 s3=some y:=hF;show vc _ _ _ _ ⟨[(0, .dat (.agg [strN s0.customer,strN s0.edition,iN s0.n])),(1, .ptr 0 0)],[(0, .box [.mp 1, .mp 2, .mp 3]),(1,(sW [2] s1)),(2,(eW s2)),(3,(mW s3))]⟩ _;unfold zs7 at hF;exact wk7
theorem P209:CallOK Tryz.prog 209 (effPg zlt G209):=zbt Q209

set_option maxRecDepth 20000 in
set_option maxHeartbeats 4000000 in
theorem Q214 (N:Nat):CallOK Tryz.prog 214 (effPg zlu (H214 N)):=by
 induction N with
 | zero=>exact zaQ λ x y h=>(by cases (show (none:Option (LS×LE))=some y from h))
 | succ N ih =>
  refine zaD (c:=zav zak [(214,true,effPg zlu (H214 N))]) rfl tyOK (zai (zaa Tryz.func214 rfl rfl) ih (zae)) 1000 zwL zvh Tryz.func214 rfl rfl (by kernel_rfl) rfl rfl rfl rfl rfl rfl rfl rfl (λ _=>rfl) (λ _=>rfl) (λ _ _=>⟨rfl,rfl⟩) ?_;rintro⟨s0,s1,s2,s3⟩ y hF;have hF:zs8 (f214 N) N s0 s1 s2 s3=some y:=hF;show vc _ _ _ _ ⟨[(0, .dat (.agg [strN s0.stone])),(1, .ptr 0 0)],[(0, .box [.mp 1, .mp 2, .mp 3]),(1,(sW [2] s1)),(2,(eW s2)),(3,(mW s3))]⟩ _;unfold zs8 at hF;exact wk7
theorem P214:CallOK Tryz.prog 214 (effPg zlu G214):=zbt Q214

set_option maxRecDepth 20000 in
set_option maxHeartbeats 4000000 in
theorem P117:PureOK Tryz.prog 117 G117:=by
 refine zau (c:=zav zak []) rfl tyOK (zae) [[0]] 3 Tryz.func117 rfl rfl (by decide) (by kernel_rfl) ?_;rintro ds d ⟨N,a0,a1,a2,r,rfl,hF,rfl⟩ hok;clear hok;refine⟨rfl, ?_⟩;show vc _ _ _ _ ⟨[(0, .dat (iN a0)),(1, .dat (iN a1)),(2, .dat (iN a2))],[]⟩ _;unfold f117 at hF;exact wk6

set_option maxRecDepth 20000 in
set_option maxHeartbeats 4000000 in
theorem P143:PureOK Tryz.prog 143 G143:=by
 refine zau (c:=zav zak [(166,false,zbJ (zav zak []) Tryz.f166)]) rfl tyOK (zaK (zaa Tryz.func166 rfl rfl) (CallOK.inl rfl tyOK (zae) Tryz.func166 (by kernel_rfl)) (zae)) [[1]] 1 Tryz.func143 rfl rfl (by decide) (by kernel_rfl) ?_;rintro ds d ⟨N,a0,r,rfl,hF,rfl⟩ hok;clear hok;refine⟨rfl, ?_⟩;show vc _ _ _ _ ⟨[(0, .dat (zay a0))],[]⟩ _;unfold f143 at hF;exact wk2

set_option maxRecDepth 20000 in
set_option maxHeartbeats 4000000 in
theorem P145:PureOK Tryz.prog 145 G145:=by
 refine zau (c:=zav zak []) rfl tyOK (zae) [[0]] 1 Tryz.func145 rfl rfl (by decide) (by kernel_rfl) ?_;rintro ds d ⟨N,a0,r,rfl,hF,rfl⟩ hok;clear hok;refine⟨rfl, ?_⟩;show vc _ _ _ _ ⟨[(0, .dat (zay a0))],[]⟩ _;unfold f145 at hF;exact wk2

set_option maxRecDepth 20000 in
set_option maxHeartbeats 4000000 in
theorem P132:PureOK Tryz.prog 132 G132:=by
 refine zau (c:=zav zak [(159,false,zbJ (zav zak [(160,false,zbJ (zav zak []) Tryz.f160)]) Tryz.f159)]) rfl tyOK (zaK (zaa Tryz.func159 rfl rfl) (CallOK.inl rfl tyOK (zaK (zaa Tryz.func160 rfl rfl) (CallOK.inl rfl tyOK (zae) Tryz.func160 (by kernel_rfl)) (zae)) Tryz.func159 (by kernel_rfl)) (zae)) [[0]] 3 Tryz.func132 rfl rfl (by decide) (by kernel_rfl) ?_;rintro ds d ⟨N,a0,a1,a2,r,rfl,hF,rfl⟩ hok;clear hok;refine⟨rfl, ?_⟩;show vc _ _ _ _ ⟨[(0, .dat (zay a0)),(1, .dat (iN a1)),(2, .dat (zbi a2))],[]⟩ _;unfold f132 at hF;exact wk6

set_option maxRecDepth 20000 in
set_option maxHeartbeats 4000000 in
theorem P147:PureOK Tryz.prog 147 G147:=by
 refine zau (c:=zav zak []) rfl tyOK (zae) [[0]] 2 Tryz.func147 rfl rfl (by decide) (by kernel_rfl) ?_;rintro ds d ⟨N,a0,a1,r,rfl,hF,rfl⟩ hok;clear hok;refine⟨rfl, ?_⟩;show vc _ _ _ _ ⟨[(0, .dat (zbi a0)),(1, .dat (iN a1))],[]⟩ _;unfold f147 at hF;exact wk6

set_option maxRecDepth 20000 in
set_option maxHeartbeats 4000000 in
theorem P148:PureOK Tryz.prog 148 G148:=by
 refine zau (c:=zav zak []) rfl tyOK (zae) [[0]] 2 Tryz.func148 rfl rfl (by decide) (by kernel_rfl) ?_;rintro ds d ⟨N,a0,a1,r,rfl,hF,rfl⟩ hok;clear hok;refine⟨rfl, ?_⟩;show vc _ _ _ _ ⟨[(0, .dat (iN a0)),(1, .dat (iN a1))],[]⟩ _;unfold f148 at hF;exact wk6

set_option maxRecDepth 20000 in
set_option maxHeartbeats 4000000 in
theorem P35:PureOK Tryz.prog 35 G35:=by
 refine zau (c:=zav zak []) rfl tyOK (zae) [[0]] 2 Tryz.func35 rfl rfl (by decide) (by kernel_rfl) ?_;rintro ds d ⟨N,a0,a1,r,rfl,hF,rfl⟩ hok;clear hok;refine⟨rfl, ?_⟩;show vc _ _ _ _ ⟨[(0, .dat (zbi a0)),(1, .dat (zbi a1))],[]⟩ _;unfold f35 at hF;exact wk6

set_option maxRecDepth 20000 in
set_option maxHeartbeats 4000000 in
theorem P44:PureOK Tryz.prog 44 G44:=by
 refine zau (c:=zav zak []) rfl tyOK (zae) [[1]] 0 Tryz.func44 rfl rfl (by decide) (by kernel_rfl) ?_;rintro ds d ⟨N,r,rfl,hF,rfl⟩ hok;clear hok;refine⟨rfl, ?_⟩;show vc _ _ _ _ ⟨[],[]⟩ _;unfold f44 at hF;exact wk3

set_option maxRecDepth 20000 in
set_option maxHeartbeats 4000000 in
theorem Q21 (N:Nat):CallOK Tryz.prog 21 (effPg zq0 (H21 N)):=by
 induction N with
 | zero=>exact zaQ λ x y h=>(by cases (show (none:Option (LB))=some y from h))
 | succ N ih =>
  refine zaD (c:=zav zak [(21,true,effPg zq0 (H21 N)),(54,false,zbJ (zav zak []) Tryz.f54),(53,false,zbJ (zav zak []) Tryz.f53)]) rfl tyOK (zai (zaa Tryz.func21 rfl rfl) ih (zaK (zaa Tryz.func54 rfl rfl) (CallOK.inl rfl tyOK (zae) Tryz.func54 (by kernel_rfl)) (zaK (zaa Tryz.func53 rfl rfl) (CallOK.inl rfl tyOK (zae) Tryz.func53 (by kernel_rfl)) (zae)))) 1000 Srf21 zwU Tryz.func21 rfl rfl (by kernel_rfl) rfl rfl rfl rfl rfl rfl rfl rfl (λ _=>rfl) (λ _=>rfl) (λ _ _=>⟨rfl,rfl⟩) ?_;rintro⟨s0,s1,s2,s3⟩ y hF;have hF:f21b (f21 N) N s0 s1 s2 s3=some y:=hF;show vc _ _ _ _ ⟨[(0, .ptr 0 0)],[(0, .box [.ptr 1 0, .rs 2 (List.length s0)]),(1, .box [.mp 3, .mp 4, .mp 5]),(2,(rW s0)),(3,(sW [4] s1)),(4,(eW s2)),(5,(mW s3))]⟩ _;unfold f21b at hF;exact wk7
theorem P21:CallOK Tryz.prog 21 (effPg zq0 G21):=zbt Q21

set_option maxRecDepth 20000 in
set_option maxHeartbeats 4000000 in
theorem P27:PureOK Tryz.prog 27 G27:=by
 refine zau (c:=zav zak []) rfl tyOK (zae) [[1]] 0 Tryz.func27 rfl rfl (by decide) (by kernel_rfl) ?_;rintro ds d ⟨N,r,rfl,hF,rfl⟩ hok;clear hok;refine⟨rfl, ?_⟩;show vc _ _ _ _ ⟨[],[]⟩ _;unfold f27 at hF;exact wk3

set_option maxRecDepth 20000 in
set_option maxHeartbeats 4000000 in
theorem P28:PureOK Tryz.prog 28 G28:=by
 refine zau (c:=zav zak []) rfl tyOK (zae) [[1]] 0 Tryz.func28 rfl rfl (by decide) (by kernel_rfl) ?_;rintro ds d ⟨N,r,rfl,hF,rfl⟩ hok;clear hok;refine⟨rfl, ?_⟩;show vc _ _ _ _ ⟨[],[]⟩ _;unfold f28 at hF;exact wk3

set_option maxRecDepth 20000 in
set_option maxHeartbeats 4000000 in
theorem P29:PureOK Tryz.prog 29 G29:=by
 refine zau (c:=zav zak []) rfl tyOK (zae) [[1]] 0 Tryz.func29 rfl rfl (by decide) (by kernel_rfl) ?_;rintro ds d ⟨N,r,rfl,hF,rfl⟩ hok;clear hok;refine⟨rfl, ?_⟩;show vc _ _ _ _ ⟨[],[]⟩ _;unfold f29 at hF;exact wk3

set_option maxRecDepth 20000 in
set_option maxHeartbeats 4000000 in
theorem P50:PureOK Tryz.prog 50 G50:=by
 refine zau (c:=zav zak []) rfl tyOK (zae) [[0]] 2 Tryz.func50 rfl rfl (by decide) (by kernel_rfl) ?_;rintro ds d ⟨N,a0,a1,r,rfl,hF,rfl⟩ hok;clear hok;refine⟨rfl, ?_⟩;show vc _ _ _ _ ⟨[(0, .dat (zaG a0)),(1, .dat (u8N a1))],[]⟩ _;unfold f50 at hF;exact wk6

set_option maxRecDepth 20000 in
set_option maxHeartbeats 4000000 in
theorem Q31 (N:Nat):CallOK Tryz.prog 31 (effPg zq2 (H31 N)):=by
 induction N with
 | zero=>exact zaQ λ x y h=>(by cases (show (none:Option (LB))=some y from h))
 | succ N ih =>
  refine zaD (c:=zav zak [(31,true,effPg zq2 (H31 N))]) rfl tyOK (zai (zaa Tryz.func31 rfl rfl) ih (zae)) 1000 Srf31 zwV Tryz.func31 rfl rfl (by kernel_rfl) rfl rfl rfl rfl rfl rfl rfl rfl (λ _=>rfl) (λ _=>rfl) (λ _ _=>⟨rfl,rfl⟩) ?_;rintro s0 y hF;have hF:f31b (f31 N) N s0=some y:=hF;show vc _ _ _ _ ⟨[(0, .dat (strN s0))],[]⟩ _;unfold f31b at hF;exact wk2
theorem P31:CallOK Tryz.prog 31 (effPg zq2 G31):=zbt Q31

set_option maxRecDepth 20000 in
set_option maxHeartbeats 4000000 in
theorem P46:PureOK Tryz.prog 46 G46:=by
 refine zau (c:=zav zak []) rfl tyOK (zae) [[0]] 1 Tryz.func46 rfl rfl (by decide) (by kernel_rfl) ?_;rintro ds d ⟨N,a0,r,rfl,hF,rfl⟩ hok;clear hok;refine⟨rfl, ?_⟩;show vc _ _ _ _ ⟨[(0, .ep [zbi a0.sheets,zaG a0.stones,iN a0.ground,bN a0.closed, .mp (encM strN iN a0.claims)])],[]⟩ _;unfold f46 at hF;exact wk6

set_option maxRecDepth 20000 in
set_option maxHeartbeats 4000000 in
theorem P47:PureOK Tryz.prog 47 G47:=by
 refine zau (c:=zav zak []) rfl tyOK (zae) [[0]] 1 Tryz.func47 rfl rfl (by decide) (by kernel_rfl) ?_;rintro ds d ⟨N,a0,r,rfl,hF,rfl⟩ hok;clear hok;refine⟨rfl, ?_⟩;show vc _ _ _ _ ⟨[(0, .ep [zbi a0.sheets,zaG a0.stones,iN a0.ground,bN a0.closed, .mp (encM strN iN a0.claims)])],[]⟩ _;unfold f47 at hF;exact wk6

set_option maxRecDepth 20000 in
set_option maxHeartbeats 4000000 in
theorem P48:PureOK Tryz.prog 48 G48:=by
 refine zau (c:=zav zak []) rfl tyOK (zae) [[0]] 2 Tryz.func48 rfl rfl (by decide) (by kernel_rfl) ?_;rintro ds d ⟨N,a0,a1,r,rfl,hF,rfl⟩ hok;clear hok;refine⟨rfl, ?_⟩;show vc _ _ _ _ ⟨[(0, .ep [zbi a0.sheets,zaG a0.stones,iN a0.ground,bN a0.closed, .mp (encM strN iN a0.claims)]),(1, .dat (iN a1))],[]⟩ _;unfold f48 at hF;exact wk6

set_option maxRecDepth 20000 in
set_option maxHeartbeats 4000000 in
theorem P104:PureOK Tryz.prog 104 G104:=by
 refine zau (c:=zav zak [(73,true,zcm [[0],[0]] G73)]) rfl tyOK (zbI (zaa Tryz.func73 rfl rfl) P73 (zae)) [[1],[0]] 1 Tryz.func104 rfl rfl (by decide) (by kernel_rfl) ?_;rintro ds d ⟨N,a0,r,rfl,hF,rfl⟩ hok;clear hok;refine⟨rfl, ?_⟩;show vc _ _ _ _ ⟨[(0, .dat (strN a0))],[]⟩ _;unfold f104 at hF;exact wk6

set_option maxRecDepth 20000 in
set_option maxHeartbeats 4000000 in
theorem P61:PureOK Tryz.prog 61 G61:=by
 refine zau (c:=zav zak [(88,true,lendPg [[0]] G88)]) rfl tyOK (zaz (zaa Tryz.func88 rfl rfl) P88 (zae)) [[0]] 1 Tryz.func61 rfl rfl (by decide) (by kernel_rfl) ?_;rintro ds d ⟨N,a0,r,rfl,hF,rfl⟩ hok;clear hok;refine⟨rfl, ?_⟩;show vc _ _ _ _ ⟨[(0, .dat (strN a0))],[]⟩ _;unfold f61 at hF;exact wk3

set_option maxRecDepth 20000 in
set_option maxHeartbeats 4000000 in
theorem Q210 (N:Nat):CallOK Tryz.prog 210 (effPg zlE (H210 N)):=by
 induction N with
 | zero=>exact zaQ λ x y h=>(by cases (show (none:Option (Int))=some y from h))
 | succ N ih =>
  refine zaD (c:=zav zak [(210,true,effPg zlE (H210 N)),(64,true,lendPg [[0],[0]] G64)]) rfl tyOK (zai (zaa Tryz.func210 rfl rfl) ih (zaz (zaa Tryz.func64 rfl rfl) P64 (zae))) 1000 zwY zvi Tryz.func210 rfl rfl (by kernel_rfl) rfl rfl rfl rfl rfl rfl rfl rfl (λ _=>rfl) (λ _=>rfl) (λ _ _=>⟨rfl,rfl⟩) ?_;rintro⟨s0,s1,s2,s3⟩ y hF;have hF:zta (f210 N) N s0 s1 s2 s3=some y:=hF;show vc _ _ _ _ ⟨[(0, .dat (.agg [strN s0.customer,strN s0.edition,iN s0.n])),(1, .ptr 0 0)],[(0, .box [.mp 1, .mp 2, .mp 3]),(1,(sW [2] s1)),(2,(eW s2)),(3,(mW s3))]⟩ _;unfold zta at hF;exact wk5
theorem P210:CallOK Tryz.prog 210 (effPg zlE G210):=zbt Q210

set_option maxRecDepth 20000 in
set_option maxHeartbeats 4000000 in
theorem Q212 (N:Nat):CallOK Tryz.prog 212 (effPg zlF (H212 N)):=by
 induction N with
 | zero=>exact zaQ λ x y h=>(by cases (show (none:Option (Int))=some y from h))
 | succ N ih =>
  refine zaD (c:=zav zak [(212,true,effPg zlF (H212 N)),(213,true,preTake 2 (effPg zlm G213))]) rfl tyOK (zai (zaa Tryz.func212 rfl rfl) ih (znM (zaa Tryz.func213 rfl rfl) P213 (λ xs id=>Local.effPg xs id) (zae))) 1000 zw1 zvj Tryz.func212 rfl rfl (by kernel_rfl) rfl rfl rfl rfl rfl rfl rfl rfl (λ _=>rfl) (λ _=>rfl) (λ _ _=>⟨rfl,rfl⟩) ?_;rintro⟨s0,s1,s2,s3⟩ y hF;have hF:ztb (f212 N) N s0 s1 s2 s3=some y:=hF;show vc _ _ _ _ ⟨[(0, .dat (.agg [strN s0.claiming.customer,strN s0.claiming.edition,iN s0.claiming.n])),(1, .ptr 0 0)],[(0, .box [.mp 1, .mp 2, .mp 3]),(1,(sW [2] s1)),(2,(eW s2)),(3,(mW s3))]⟩ _;unfold ztb at hF;exact wk7
theorem P212:CallOK Tryz.prog 212 (effPg zlF G212):=zbt Q212

set_option maxRecDepth 20000 in
set_option maxHeartbeats 4000000 in
theorem Q215 (N:Nat):CallOK Tryz.prog 215 (effPg zlG (H215 N)):=by
 induction N with
 | zero=>exact zaQ λ x y h=>(by cases (show (none:Option (Int))=some y from h))
 | succ N ih =>
  refine zaD (c:=zav zak [(215,true,effPg zlG (H215 N)),(64,true,lendPg [[0],[0]] G64)]) rfl tyOK (zai (zaa Tryz.func215 rfl rfl) ih (zaz (zaa Tryz.func64 rfl rfl) P64 (zae))) 1000 zw4 zvk Tryz.func215 rfl rfl (by kernel_rfl) rfl rfl rfl rfl rfl rfl rfl rfl (λ _=>rfl) (λ _=>rfl) (λ _ _=>⟨rfl,rfl⟩) ?_;rintro⟨s0,s1,s2,s3⟩ y hF;have hF:ztc (f215 N) N s0 s1 s2 s3=some y:=hF;show vc _ _ _ _ ⟨[(0, .dat (.agg [strN s0.stone])),(1, .ptr 0 0)],[(0, .box [.mp 1, .mp 2, .mp 3]),(1,(sW [2] s1)),(2,(eW s2)),(3,(mW s3))]⟩ _;unfold ztc at hF;exact wk5
theorem P215:CallOK Tryz.prog 215 (effPg zlG G215):=zbt Q215

set_option maxRecDepth 20000 in
set_option maxHeartbeats 4000000 in
theorem Q211 (N:Nat):CallOK Tryz.prog 211 (effPg zlH (H211 N)):=by
 induction N with
 | zero=>exact zaQ λ x y h=>(by cases (show (none:Option (LE))=some y from h))
 | succ N ih =>
  refine zaD (c:=zav zak [(211,true,effPg zlH (H211 N)),(213,true,preTake 2 (effPg zlm G213))]) rfl tyOK (zai (zaa Tryz.func211 rfl rfl) ih (znM (zaa Tryz.func213 rfl rfl) P213 (λ xs id=>Local.effPg xs id) (zae))) 1000 zw7 zvl Tryz.func211 rfl rfl (by kernel_rfl) rfl rfl rfl rfl rfl rfl rfl rfl (λ _=>rfl) (λ _=>rfl) (λ _ _=>⟨rfl,rfl⟩) ?_;rintro⟨s0,s1,s2,s3⟩ y hF;have hF:ztd (f211 N) N s0 s1 s2 s3=some y:=hF;show vc _ _ _ _ ⟨[(0, .dat (.agg [strN s0.claiming.customer,strN s0.claiming.edition,iN s0.claiming.n])),(1, .ptr 0 0)],[(0, .box [.mp 1, .mp 2, .mp 3]),(1,(sW [2] s1)),(2,(eW s2)),(3,(mW s3))]⟩ _;unfold ztd at hF;exact wk7
theorem P211:CallOK Tryz.prog 211 (effPg zlH G211):=zbt Q211

set_option maxRecDepth 20000 in
set_option maxHeartbeats 4000000 in
theorem P116:PureOK Tryz.prog 116 G116:=by
 refine zau (c:=zav zak [(142,false,zbJ (zav zak [(165,false,zbJ (zav zak [(144,false,zbJ (zav zak [(117,true,lendPg [[0],[0],[0]] G117)]) Tryz.f144)]) Tryz.f165)]) Tryz.f142),(140,false,zbJ (zav zak [(164,false,zbJ (zav zak [(141,false,zbJ (zav zak []) Tryz.f141)]) Tryz.f164)]) Tryz.f140),(145,true,lendPg [[1]] G145),(143,true,zcm [[1]] G143),(117,true,lendPg [[0],[0],[0]] G117)]) rfl tyOK (zaK (zaa Tryz.func142 rfl rfl) (CallOK.inl rfl tyOK (zaK (zaa Tryz.func165 rfl rfl) (CallOK.inl rfl tyOK (zaK (zaa Tryz.func144 rfl rfl) (CallOK.inl rfl tyOK (zaz (zaa Tryz.func117 rfl rfl) P117 (zae)) Tryz.func144 (by kernel_rfl)) (zae)) Tryz.func165 (by kernel_rfl)) (zae)) Tryz.func142 (by kernel_rfl)) (zaK (zaa Tryz.func140 rfl rfl) (CallOK.inl rfl tyOK (zaK (zaa Tryz.func164 rfl rfl) (CallOK.inl rfl tyOK (zaK (zaa Tryz.func141 rfl rfl) (CallOK.inl rfl tyOK (zae) Tryz.func141 (by kernel_rfl)) (zae)) Tryz.func164 (by kernel_rfl)) (zae)) Tryz.func140 (by kernel_rfl)) (zaz (zaa Tryz.func145 rfl rfl) P145 (zbI (zaa Tryz.func143 rfl rfl) P143 (zaz (zaa Tryz.func117 rfl rfl) P117 (zae)))))) [[0]] 1 Tryz.func116 rfl rfl (by decide) (by kernel_rfl) ?_;rintro ds d ⟨N,a0,r,rfl,hF,rfl⟩ hok;clear hok;refine⟨rfl, ?_⟩;show vc _ _ _ _ ⟨[(0, .dat (zay a0))],[]⟩ _;unfold f116 at hF;exact wk6

set_option maxRecDepth 20000 in
set_option maxHeartbeats 4000000 in
theorem P119:PureOK Tryz.prog 119 G119:=by
 refine zau (c:=zav zak [(148,true,lendPg [[0],[0]] G148),(117,true,lendPg [[0],[0],[0]] G117)]) rfl tyOK (zaz (zaa Tryz.func148 rfl rfl) P148 (zaz (zaa Tryz.func117 rfl rfl) P117 (zae))) [[1],[0]] 2 Tryz.func119 rfl rfl (by decide) (by kernel_rfl) ?_;rintro ds d ⟨N,a0,a1,r,rfl,hF,rfl⟩ hok;clear hok;refine⟨rfl, ?_⟩;show vc _ _ _ _ ⟨[(0, .dat (iN a0)),(1, .dat (iN a1))],[]⟩ _;unfold f119 at hF;exact wk2

set_option maxRecDepth 20000 in
set_option maxHeartbeats 4000000 in
theorem P26:PureOK Tryz.prog 26 G26:=by
 refine zau (c:=zav zak [(50,true,lendPg [[1],[0]] G50),(30,true,lendPg [[0]] G30),(29,true,zcm [] G29),(28,true,zcm [] G28),(27,true,zcm [] G27)]) rfl tyOK (zaz (zaa Tryz.func50 rfl rfl) P50 (zaz (zaa Tryz.func30 rfl rfl) P30 (zbI (zaa Tryz.func29 rfl rfl) P29 (zbI (zaa Tryz.func28 rfl rfl) P28 (zbI (zaa Tryz.func27 rfl rfl) P27 (zae)))))) [[1]] 1 Tryz.func26 rfl rfl (by decide) (by kernel_rfl) ?_;rintro ds d ⟨N,a0,r,rfl,hF,rfl⟩ hok;clear hok;refine⟨rfl, ?_⟩;show vc _ _ _ _ ⟨[(0, .dat (zdX a0))],[]⟩ _;unfold f26 at hF
 repeat' (first
 | ((with_reducible first|refine q0 _ _ ?_|refine q1 _ _ _ _ ?_|refine q2 _ _ _ ?_);clear Q q0 q1 q2)
 | ((with_reducible first|refine zd5 ?hx (λ Q q0 q1 q2=>?_)|refine zdH ?hx (λ Q q0 q1 q2=>?_)|refine ze ?hx (λ Q q0 q1 q2=>?_)|refine zfi ?hx (λ Q q0 q1 q2=>?_));(case hx=>exact rfl);conv=>whnf)
 | ((with_reducible refine zdu ?_);(first|((refine zeD rfl ?hy ?_);(case hy=>first|assumption|exact notT (by assumption)|exact rfl))|((refine zeE rfl ?hy ?_);(case hy=>first|assumption|exact notF (by assumption)|exact rfl))|(revert hF;(with_reducible refine zih ?hx ?_ ?_);(case hx=>exact rfl);all_goals (intro hc hF))))
 | ((with_reducible refine zcI ?_);(first|((with_reducible refine hR _ ?_);clear R hR)|((with_reducible refine hL _ ?_);clear L hL)))
 | ((with_reducible refine zcN ?_);(with_reducible refine hR _ _ ?hx ?_);(case hx=>kernel_rfl);clear R hR)
 | ((with_reducible first|refine zcQ ?_|refine zdm ?_|refine idx2 (by assumption) ?_|refine idx3 (by assumption) ?_);conv=>whnf)
 | (with_reducible first|refine zca ?_|refine zcH ?_|refine zd4 ?_|refine zcY ?_|refine zbL (λ R hR=>?_)|refine zbK ?_|refine zbz ?_|refine zh5 ?_|refine zbY ?_|refine zbN ?_|refine zcS ?_|refine zcq ?_)
 | ((with_reducible refine zcJ [32] ?hx ?_);(case hx=>exact rfl))
 | ((with_reducible refine zdF ?hx (λ R L hL hR=>?_));(case hx=>exact rfl))
 | ((with_reducible replace hF:=isE hF);(dsimp only[zjJ,zt4,zhI] at hF);first|rewrite[zef] at hF|rewrite[zlJ] at hF)
 | ((with_reducible refine zc6 ?_);(with_reducible replace hF:=zeA 1 hF);((refine Lp.cutI hF rfl rfl ?_ ?_) <;> clear hF);(intro hF);rotate_left;(rintro _ hF);rotate_right)
 | ((with_reducible refine zcK ?_);(with_reducible replace hF:=toLp 1 1 hF);exact Lp.headI hF (_,()) ⟨_,rfl,rfl,rfl,rfl⟩ (pr2 (by first|exact rfl|assumption|omega|(simp only[List.length_set];done)) rfl))
 | ((with_reducible refine zeW ?_);(with_reducible replace hF:=toLp 1 2 hF);((refine Lp.loopI hF (_,()) rfl ⟨_,rfl,rfl,rfl,rfl⟩ (pr2 (by first|exact rfl|assumption|omega|(simp only[List.length_set];done)) rfl) (λ _=>rfl) ?_);clear hF);(rintro n ⟨_,_⟩ hF))
 | ((with_reducible refine zeX ?_);(with_reducible replace hF:=toLp 1 2 hF);exact Lp.backI hF (_,()) ⟨_,rfl,rfl,rfl,rfl⟩ (pr2 (by first|exact rfl|assumption|omega|(simp only[List.length_set];done)) rfl))
 | (revert hF;(with_reducible refine G27.step ?hx ?_);(case hx=>exact rfl);intro v hF;conv=>whnf)
 | (revert hF;(with_reducible refine G28.step ?hx ?_);(case hx=>exact rfl);intro v hF;conv=>whnf)
 | (revert hF;(with_reducible refine G29.step ?hx ?_);(case hx=>exact rfl);intro v hF;conv=>whnf)
 | (revert hF;(with_reducible refine G30.lend ?hx ?_);(case hx=>exact rfl);intro v hF;conv=>whnf)
 | (revert hF;(with_reducible refine G50.lend ?hx ?_);(case hx=>exact rfl);intro v hF;conv=>whnf)
 | ((with_reducible have hI:=zqG hF);clear hI;revert hF;(refine zk1 ?_);intro x hF;conv=>whnf)
 | ((with_reducible refine znQ rfl ?_);conv=>whnf)
 | ((with_reducible first|refine zcB ?hx ?_|refine zdg ?hx ?_);(case hx=>exact rfl))
 | (revert hF;(with_reducible refine idx1 ?hn ?_);(case hn=>first|exact rfl|exact(List.length_map _)|assumption|omega|simp);intro x hx hF;conv=>whnf)
 | ((with_reducible have hG:=zdn hF);clear hF;(first|((refine zdR hG ?hn ?hs (λ q hF=>?_));(case hn=>first|exact rfl|assumption|omega);(case hs=>exact rfl))|((refine zdQ (d:=strN) hG ?hs (λ q hF=>?_));(case hs=>exact rfl))|((refine zdS (d:=strN) hG ?ho ?hn ?hs (λ q hF=>?_));(case ho=>exact rfl);(case hn=>exact rfl);(case hs=>exact rfl)));clear hG;conv=>whnf)
 | ((refine zeV ?hn ?_);(case hn=>first|exact rfl|(simp;done)|(simp;omega));conv=>whnf)
 | ((with_reducible refine zeT ?_);conv=>whnf)
 | ((refine⟨?hx,trivial⟩);(case hx=>(cases hF;exact rfl)))
 | ((refine⟨?hx, ?_⟩);(case hx=>decide);conv=>whnf)
 | with_reducible refine zfO ?_)

set_option maxRecDepth 20000 in
set_option maxHeartbeats 4000000 in
theorem P107:PureOK Tryz.prog 107 G107:=by
 refine zau (c:=zav zak [(61,true,lendPg [[0]] G61)]) rfl tyOK (zaz (zaa Tryz.func61 rfl rfl) P61 (zae)) [[0]] 1 Tryz.func107 rfl rfl (by decide) (by kernel_rfl) ?_;rintro ds d ⟨N,a0,r,rfl,hF,rfl⟩ hok;clear hok;refine⟨rfl, ?_⟩;show vc _ _ _ _ ⟨[(0, .dat (strN a0))],[]⟩ _;unfold f107 at hF;exact wk3

set_option maxRecDepth 20000 in
set_option maxHeartbeats 4000000 in
theorem P158:PureOK Tryz.prog 158 G158:=by
 refine zau (c:=zav zak [(142,false,zbJ (zav zak [(165,false,zbJ (zav zak [(174,false,zbJ (zav zak [(117,true,lendPg [[0],[0],[0]] G117)]) Tryz.f174)]) Tryz.f165)]) Tryz.f142),(116,true,lendPg [[1]] G116)]) rfl tyOK (zaK (zaa Tryz.func142 rfl rfl) (CallOK.inl rfl tyOK (zaK (zaa Tryz.func165 rfl rfl) (CallOK.inl rfl tyOK (zaK (zaa Tryz.func174 rfl rfl) (CallOK.inl rfl tyOK (zaz (zaa Tryz.func117 rfl rfl) P117 (zae)) Tryz.func174 (by kernel_rfl)) (zae)) Tryz.func165 (by kernel_rfl)) (zae)) Tryz.func142 (by kernel_rfl)) (zaz (zaa Tryz.func116 rfl rfl) P116 (zae))) [[0]] 2 Tryz.func158 rfl rfl (by decide) (by kernel_rfl) ?_;rintro ds d ⟨N,a0,a1,r,rfl,hF,rfl⟩ hok;clear hok;refine⟨rfl, ?_⟩;show vc _ _ _ _ ⟨[(0, .dat (zay a0)),(1, .dat (zbi a1))],[]⟩ _;unfold f158 at hF;exact wk6

set_option maxRecDepth 20000 in
set_option maxHeartbeats 4000000 in
theorem P84:PureOK Tryz.prog 84 G84:=by
 refine zau (c:=zav zak [(119,true,zcm [[0],[0]] G119)]) rfl tyOK (zbI (zaa Tryz.func119 rfl rfl) P119 (zae)) [[1]] 0 Tryz.func84 rfl rfl (by decide) (by kernel_rfl) ?_;rintro ds d ⟨N,r,rfl,hF,rfl⟩ hok;clear hok;refine⟨rfl, ?_⟩;show vc _ _ _ _ ⟨[],[]⟩ _;unfold f84 at hF;exact wk3

set_option maxRecDepth 20000 in
set_option maxHeartbeats 4000000 in
theorem Q32 (N:Nat):CallOK Tryz.prog 32 (effPg zo7 (H32 N)):=by
 induction N with
 | zero=>exact zaQ λ x y h=>(by cases (show (none:Option (Int×ByteArray×Int))=some y from h))
 | succ N ih =>
  refine zaD (c:=zav zak [(32,true,effPg zo7 (H32 N)),(53,false,zbJ (zav zak []) Tryz.f53),(61,true,lendPg [[0]] G61)]) rfl tyOK (zai (zaa Tryz.func32 rfl rfl) ih (zaK (zaa Tryz.func53 rfl rfl) (CallOK.inl rfl tyOK (zae) Tryz.func53 (by kernel_rfl)) (zaz (zaa Tryz.func61 rfl rfl) P61 (zae)))) 1000 Srf32 zxb Tryz.func32 rfl rfl (by kernel_rfl) rfl rfl rfl rfl rfl rfl rfl rfl (λ _=>rfl) (λ _=>rfl) (λ _ _=>⟨rfl,rfl⟩) ?_;rintro⟨s0,s1,s2,s3,s4⟩ y hF;have hF:f32b (f32 N) N s0 s1 s2 s3 s4=some y:=hF;show vc _ _ _ _ ⟨[(0, .ptr 0 0),(1, .dat (strN s0))],[(0, .box [.ptr 1 0, .rs 2 (List.length s1)]),(1, .box [.mp 3, .mp 4, .mp 5]),(2,(rW s1)),(3,(sW [4] s2)),(4,(eW s3)),(5,(mW s4))]⟩ _;unfold f32b at hF;exact wk7
theorem P32:CallOK Tryz.prog 32 (effPg zo7 G32):=zbt Q32

set_option maxRecDepth 20000 in
set_option maxHeartbeats 4000000 in
theorem Q33 (N:Nat):CallOK Tryz.prog 33 (effPg zo8 (H33 N)):=by
 induction N with
 | zero=>exact zaQ λ x y h=>(by cases (show (none:Option ((List Int)×Int))=some y from h))
 | succ N ih =>
  refine zaD (c:=zav zak [(33,true,effPg zo8 (H33 N)),(63,false,zbJ (zav zak []) Tryz.f63),(62,false,zbJ (zav zak [(53,false,zbJ (zav zak []) Tryz.f53),(61,true,lendPg [[0]] G61)]) Tryz.f62)]) rfl tyOK (zai (zaa Tryz.func33 rfl rfl) ih (zaK (zaa Tryz.func63 rfl rfl) (CallOK.inl rfl tyOK (zae) Tryz.func63 (by kernel_rfl)) (zaK (zaa Tryz.func62 rfl rfl) (CallOK.inl rfl tyOK (zaK (zaa Tryz.func53 rfl rfl) (CallOK.inl rfl tyOK (zae) Tryz.func53 (by kernel_rfl)) (zaz (zaa Tryz.func61 rfl rfl) P61 (zae))) Tryz.func62 (by kernel_rfl)) (zae)))) 1000 Srf33 zxc Tryz.func33 rfl rfl (by kernel_rfl) rfl rfl rfl rfl rfl rfl rfl rfl (λ _=>rfl) (λ _=>rfl) (λ _ _=>⟨rfl,rfl⟩) ?_;rintro⟨s0,s1,s2,s3,s4⟩ y hF;have hF:f33b (f33 N) N s0 s1 s2 s3 s4=some y:=hF;show vc _ _ _ _ ⟨[(0, .ptr 0 0),(1, .dat (strN s0))],[(0, .box [.ptr 1 0, .rs 2 (List.length s1)]),(1, .box [.mp 3, .mp 4, .mp 5]),(2,(rW s1)),(3,(sW [4] s2)),(4,(eW s3)),(5,(mW s4))]⟩ _;unfold f33b at hF;exact wk7
theorem P33:CallOK Tryz.prog 33 (effPg zo8 G33):=zbt Q33


end Go.Vc
