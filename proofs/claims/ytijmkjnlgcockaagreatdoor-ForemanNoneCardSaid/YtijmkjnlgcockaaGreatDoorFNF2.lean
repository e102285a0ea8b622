/-
  A library for proofs about Go functions by symbolic evaluation,and plain Lean functions that the walked Go functions compute (written by a program of this claim).
-/
import Derived.Test.YtijmkjnlgcockaaGreatDoorFNF1
import Derived.Test.YtijmkjnlgcockaaGreatDoorVc4
import Derived.Test.YtijmkjnlgcockaaGreatDoorVc3
import Derived.Test.YtijmkjnlgcockaaGreatDoorProg
import Derived.LaidSub
import Derived.MakeChecks
set_option linter.unusedVariables false
set_option linter.unnecessarySimpa false
set_option linter.unusedSimpArgs false
namespace Go.Vc
open Go.Proofs
variable {N id : Nat} {ρ : Type} {q : ρ} {xs : List SV} {m : Nat -> Blk} {l : List Loc} {ds : List D} {K : Dl -> List Loc -> Prop} {k0 k1 k2 k3 k4 k5 k6 k7 k8 k9 k10 k11 k12 k13 k14 k15 m0 m1 m2 m3 m4 m5 : Nat}
def f107 (N : Nat) (a0 : ByteArray) : Option (Bool) :=
 (f61 N a0).bind λ x1 =>
 some (!x1)
def G107 (ds : List D) (d : D) : Prop := ∃ (N : Nat) (a0 : ByteArray) (r : Bool),ds = [strN a0] /\ f107 N a0 = some r /\ d = bN r
theorem G107.lend {a0} {A : _ -> Option ρ} {K : D -> Prop} (hd : ds = [strN a0]) (h : ∀ r,A r = some q -> K (bN r)) (hF : (f107 N a0).bind A = some q) : ∃ d,(G107 ds d /\ d.flatB = true) /\ K d := by
 obtain ⟨r,hr,hA⟩ := bind_some hF;exact ⟨_,⟨⟨N,a0,r,hd,hr,rfl⟩,rfl⟩,h r hA⟩
set_option maxRecDepth 20000 in
set_option maxHeartbeats 4000000 in
theorem P107 : PureOK Tryz.prog 107 G107 := by
 refine zaE (c := zar zah [(61,true,lendPg [[0]] G61)]) rfl tyOK (zaJ (zaa Tryz.func61 rfl rfl) P61 (zac)) [[0]] 1 Tryz.func107 rfl rfl (by decide) (by kernel_rfl) ?_;rintro ds d ⟨N,a0,r,rfl,hF,rfl⟩ hok;clear hok;refine ⟨rfl, ?_⟩;show vc _ _ _ _ ⟨[(0, .dat (strN a0))],[]⟩ _;unfold f107 at hF
 repeat' (first
 | ((with_reducible first | refine q0 _ _ ?_ | refine q1 _ _ _ _ ?_ | refine q2 _ _ _ ?_);clear Q q0 q1 q2)
 | ((with_reducible first | refine zaI ?hx (λ Q q0 q1 q2=>?_));(case hx=>exact rfl);conv=>whnf)
 | ((with_reducible refine zay ?_);(first | ((with_reducible refine hR _ ?_);clear R hR) | ((with_reducible refine hL _ ?_);clear L hL)))
 | (with_reducible first | refine zax ?_ | refine zaH ?_ | refine zak (λ R hR=>?_) | refine zaj ?_)
 | ((with_reducible refine zaz [] ?hx ?_);(case hx=>exact rfl))
 | (revert hF;(with_reducible refine G61.lend ?hx ?_);(case hx=>exact rfl);intro v hF;conv=>whnf)
 | ((refine ⟨?hx,trivial⟩);(case hx=>(cases hF;exact rfl)))
 | with_reducible refine zbe ?_)
def za0 (a0 : List (List Int)) : Option (Int) :=
 some ((0 : Int))
def zbI (a0 : List (List Int)) : Lp (Unit) Unit (Int) := lp0 ⟨[],[0],[],[]⟩ (λ _=>[]) (λ _=>[.box [.dat (zaA a0)]]) (λ _=>za0 a0)
instance zgS {a0} : IsLp 0 0 (za0 a0) (zbI a0) () := ⟨rfl⟩
instance zgT {a0} : IsCut 0 (za0 a0) (zbI a0) 603000103000000007 := ⟨⟩
def zcl (r2 : Int -> Option (Int)) (a0 : List (List Int)) (a1 : List Int) (N : Nat) (k0 : Option (Int)) (v8 : Int) : Option (Int) :=
 bif decide (v8 < (List.length a1 : Int)) then ((ix a1 v8).bind λ x2 =>
 (f117 N (0 : Int) x2 (W ((List.length a0 : Int) - (1 : Int)))).bind λ x3 =>
 bif !x3 then (bif decide ((0 : Int) <= v8) then (some ((4 : Int)))
 else (some ((0 : Int))))
 else (r2 (W (v8 + (1 : Int)))))
 else k0
def zbi (a0 : List (List Int)) (a1 : List Int) (N : Nat) (k0 : Option (Int)) : Nat -> Int -> Option (Int)
 | 0,_=>none
 | n + 1,v8=>zcl (zbi a0 a1 N k0 n) a0 a1 N k0 v8
def zcm (a0 : List (List Int)) (a1 : List Int) (N : Nat) (k0 : Option (Int)) : Lp (Nat × Int) Unit (Int) := lp0 ⟨[0,1,7,8],[0],[],[]⟩ (λ (_,v8)=>[.dat (zbN a1), .fn 174 [] [.ptr 0 0], .dat (iN (List.length a1 : Int)), .dat (iN v8)]) (λ (_,_)=>[.box [.dat (zaA a0)]]) (λ (n,v8)=>zbi a0 a1 N k0 n v8)
instance zhF {a0 a1 N k0 n v8} : IsLp 0 1 (zbi a0 a1 N k0 n v8) (zcm a0 a1 N k0) (n,v8) := ⟨rfl⟩
def f158 (N : Nat) (a0 : List (List Int)) (a1 : List Int) : Option (Int) :=
 (f116 N a0).bind λ x1 =>
 bif decide (¬ x1 = (0 : Int)) then (some (x1))
 else (bif decide ((12 : Int) < (List.length a1 : Int)) then (some ((2 : Int)))
 else (zbM (za0 a0) λ k0 =>
 zbi a0 a1 N k0 N (0 : Int)))
def G158 (ds : List D) (d : D) : Prop := ∃ (N : Nat) (a0 : List (List Int)) (a1 : List Int) (r : Int),ds = [zaA a0,zbN a1] /\ f158 N a0 a1 = some r /\ d = iN r
theorem G158.lend {a0 a1} {A : _ -> Option ρ} {K : D -> Prop} (hd : ds = [zaA a0,zbN a1]) (h : ∀ r,A r = some q -> K (iN r)) (hF : (f158 N a0 a1).bind A = some q) : ∃ d,(G158 ds d /\ d.flatB = true) /\ K d := by
 obtain ⟨r,hr,hA⟩ := bind_some hF;exact ⟨_,⟨⟨N,a0,a1,r,hd,hr,rfl⟩,rfl⟩,h r hA⟩
set_option maxRecDepth 20000 in
set_option maxHeartbeats 4000000 in
theorem P158 : PureOK Tryz.prog 158 G158 := by
 refine zaE (c := zar zah [(142,false,zba (zar zah [(165,false,zba (zar zah [(174,false,zba (zar zah [(117,true,lendPg [[0],[0],[0]] G117)]) Tryz.f174)]) Tryz.f165)]) Tryz.f142),(116,true,lendPg [[1]] G116)]) rfl tyOK (zaw (zaa Tryz.func142 rfl rfl) (CallOK.inl rfl tyOK (zaw (zaa Tryz.func165 rfl rfl) (CallOK.inl rfl tyOK (zaw (zaa Tryz.func174 rfl rfl) (CallOK.inl rfl tyOK (zaJ (zaa Tryz.func117 rfl rfl) P117 (zac)) Tryz.func174 (by kernel_rfl)) (zac)) Tryz.func165 (by kernel_rfl)) (zac)) Tryz.func142 (by kernel_rfl)) (zaJ (zaa Tryz.func116 rfl rfl) P116 (zac))) [[0]] 2 Tryz.func158 rfl rfl (by decide) (by kernel_rfl) ?_;rintro ds d ⟨N,a0,a1,r,rfl,hF,rfl⟩ hok;clear hok;refine ⟨rfl, ?_⟩;show vc _ _ _ _ ⟨[(0, .dat (zaA a0)),(1, .dat (zbN a1))],[]⟩ _;unfold f158 at hF
 repeat' (first
 | ((with_reducible first | refine q0 _ _ ?_ | refine q1 _ _ _ _ ?_ | refine q2 _ _ _ ?_);clear Q q0 q1 q2)
 | ((with_reducible first | refine zaI ?hx (λ Q q0 q1 q2=>?_));(case hx=>exact rfl);conv=>whnf)
 | ((with_reducible refine zaP ?_);(first | ((refine zbb rfl ?hy ?_);(case hy=>first | assumption | exact notT (by assumption) | exact rfl)) | ((refine zbc rfl ?hy ?_);(case hy=>first | assumption | exact notF (by assumption) | exact rfl)) | (revert hF;(with_reducible refine zbP ?hx ?_ ?_);(case hx=>exact rfl);all_goals (intro hc hF))))
 | ((with_reducible refine zay ?_);(first | ((with_reducible refine hR _ ?_);clear R hR) | ((with_reducible refine hL _ ?_);clear L hL)))
 | ((with_reducible first | refine zaK ?_ | refine zbm ?_ | refine idx2 (by assumption) ?_ | refine idx3 (by assumption) ?_);conv=>whnf)
 | (with_reducible first | refine zaB ?_ | refine zax ?_ | refine zaH ?_ | refine zaM ?_ | refine zak (λ R hR=>?_) | refine zaj ?_ | refine zan ?_ | refine zbO ?_ | refine zav ?_ | refine zap ?_ | refine zaW ?_ | refine zaN ?_)
 | ((with_reducible refine zaz [603000103000000007] ?hx ?_);(case hx=>exact rfl))
 | ((with_reducible replace hF := isE hF);(dsimp only [zbI,zcm,zbi] at hF);first | ((with_reducible replace hF := chkE (e := za0 ..) hF);rewrite [za0] at hF) | rewrite [zcl] at hF)
 | ((with_reducible refine zbn ?_);(with_reducible replace hF := zcA 0 hF);((refine Lp.cutI hF rfl rfl ?_ ?_) <;> clear hF);(intro hF);rotate_left;(rintro _ hF);rotate_right)
 | ((with_reducible refine zbd ?_);(with_reducible replace hF := toLp 0 0 hF);exact Lp.headI hF () ⟨_,rfl,rfl,rfl,rfl⟩ rfl)
 | ((with_reducible refine zbr ?_);(with_reducible replace hF := toLp 0 1 hF);((refine Lp.loopI hF () rfl ⟨_,rfl,rfl,rfl,rfl⟩ rfl (λ _=>rfl) ?_);clear hF);(rintro n _ hF))
 | ((with_reducible refine zbs ?_);(with_reducible replace hF := toLp 0 1 hF);exact Lp.backI hF () ⟨_,rfl,rfl,rfl,rfl⟩ rfl)
 | (revert hF;(with_reducible refine G116.lend ?hx ?_);(case hx=>exact rfl);intro v hF;conv=>whnf)
 | (revert hF;(with_reducible refine G117.lend ?hx ?_);(case hx=>exact rfl);intro v hF;conv=>whnf)
 | (revert hF;(with_reducible refine idx1 ?hn ?_);(case hn=>first | exact rfl | exact (List.length_map _) | assumption | omega | simp);intro x hx hF;conv=>whnf)
 | ((refine zae 602 603000000 rfl rfl (Nat.le_of_ble_eq_true rfl) rfl (λ R hR=>?_));(conv=>whnf);(with_reducible refine hR _ ?ha ?_);(case ha=>exact rfl);clear R hR)
 | ((refine zae 603000102 603000103000000 rfl rfl (Nat.le_of_ble_eq_true rfl) rfl (λ R hR=>?_));(conv=>whnf);(with_reducible refine hR _ ?ha ?_);(case ha=>exact rfl);clear R hR)
 | ((refine zae 603000103000405 603000103000406000000 rfl rfl (Nat.le_of_ble_eq_true rfl) rfl (λ R hR=>?_));(conv=>whnf);(with_reducible refine hR _ ?ha ?_);(case ha=>exact rfl);clear R hR)
 | (show Kinl _ _ _ _ _ _ _;conv=>whnf)
 | ((with_reducible refine zbt ?ha ?hb ?_);(case ha=>exact rfl);(case hb=>exact rfl);conv=>whnf)
 | ((refine ⟨?hx,trivial⟩);(case hx=>(cases hF;exact rfl)))
 | with_reducible refine zbe ?_)
def f84 (N : Nat) : Option ((List (List Int))) :=
 (f119 N (10 : Int) (3 : Int)).bind λ x1 =>
 some (x1.1)
def G84 (ds : List D) (d : D) : Prop := ∃ (N : Nat) (r : (List (List Int))),ds = [] /\ f84 N  = some r /\ d = zaA r
theorem G84.step {A : _ -> Option ρ} {K : D -> Prop} (hd : ds = []) (h : ∀ r,A r = some q -> K (zaA r)) (hF : (f84 N ).bind A = some q) : ∃ d,G84 ds d /\ K d := by
 obtain ⟨r,hr,hA⟩ := bind_some hF;exact ⟨_,⟨N,r,hd,hr,rfl⟩,h r hA⟩
set_option maxRecDepth 20000 in
set_option maxHeartbeats 4000000 in
theorem P84 : PureOK Tryz.prog 84 G84 := by
 refine zaE (c := zar zah [(119,true,zdt [[0],[0]] G119)]) rfl tyOK (zcI (zaa Tryz.func119 rfl rfl) P119 (zac)) [[1]] 0 Tryz.func84 rfl rfl (by decide) (by kernel_rfl) ?_;rintro ds d ⟨N,r,rfl,hF,rfl⟩ hok;clear hok;refine ⟨rfl, ?_⟩;show vc _ _ _ _ ⟨[],[]⟩ _;unfold f84 at hF
 repeat' (first
 | ((with_reducible first | refine q0 _ _ ?_ | refine q1 _ _ _ _ ?_ | refine q2 _ _ _ ?_);clear Q q0 q1 q2)
 | ((with_reducible first | refine zaI ?hx (λ Q q0 q1 q2=>?_));(case hx=>exact rfl);conv=>whnf)
 | ((with_reducible refine zay ?_);(first | ((with_reducible refine hR _ ?_);clear R hR) | ((with_reducible refine hL _ ?_);clear L hL)))
 | (with_reducible first | refine zax ?_ | refine zaH ?_ | refine zak (λ R hR=>?_) | refine zaj ?_)
 | ((with_reducible refine zaz [] ?hx ?_);(case hx=>exact rfl))
 | (revert hF;(with_reducible refine G119.step ?hx ?_);(case hx=>exact rfl);intro v hF;conv=>whnf)
 | ((refine ⟨?hx,trivial⟩);(case hx=>(cases hF;exact rfl)))
 | with_reducible refine zbe ?_)
def f32b (self : ByteArray -> LB -> LS -> LE -> LC -> Option (Int × ByteArray × Int)) (N : Nat) (s0 : ByteArray) (s1 : LB) (s2 : LS) (s3 : LE) (s4 : LC) : Option (Int × ByteArray × Int) :=
 (f61 N s0).bind λ x1 =>
 bif !x1 then (some ((0 : Int),zgI,(8 : Int)))
 else (onO (zbF s0 s2) (some ((0 : Int),zgI,(5 : Int))) λ x2 =>
 (getF s2 x2).bind λ x3 =>
 onO x3.of (some (x3.thick,zgI,(0 : Int))) λ x4 =>
 (getF s3 x4).bind λ x5 =>
 some (x3.thick,x5.name,(0 : Int)))
def f32 : Nat -> ByteArray -> LB -> LS -> LE -> LC -> Option (Int × ByteArray × Int)
 | 0,_,_,_,_,_=>none
 | N + 1,s0,s1,s2,s3,s4=>f32b (f32 N) N s0 s1 s2 s3 s4
def Af32 (s0 : ByteArray) (s1 : LB) (s2 : LS) (s3 : LE) (s4 : LC) : List SV := [.ptr 0 0, .dat (strN s0)]
def Bf32 (s0 : ByteArray) (s1 : LB) (s2 : LS) (s3 : LE) (s4 : LC) : List Blk := [.box [.ptr 1 0, .rs 2 (List.length s1)], .box [.mp 3, .mp 4, .mp 5],(rW s1),(sW [4] s2),(eW s3),(mW s4)]
def Rf32 (y : Int × ByteArray × Int) : List SV := [.dat (iN y.1), .dat (strN y.2.1), .dat (iN y.2.2)]
def B1f32 (s0 : ByteArray) (s1 : LB) (s2 : LS) (s3 : LE) (s4 : LC) (y : Int × ByteArray × Int) : List Blk := [.box [.ptr 1 0, .rs 2 (List.length s1)], .box [.mp 3, .mp 4, .mp 5],(rW s1),(sW [4] s2),(eW s3),(mW s4)]
def BZf32 (y : Int × ByteArray × Int) : List Blk := []
def znu : Spec (ByteArray × LB × LS × LE × LC) (Int × ByteArray × Int) := ⟨6,[],λ x=>Af32 x.1 x.2.1 x.2.2.1 x.2.2.2.1 x.2.2.2.2,λ x=>Bf32 x.1 x.2.1 x.2.2.1 x.2.2.2.1 x.2.2.2.2,λ _ y=>Rf32 y,λ x y=>B1f32 x.1 x.2.1 x.2.2.1 x.2.2.2.1 x.2.2.2.2 y,λ _ y=>BZf32 y⟩
def H32 (N : Nat) (x : ByteArray × LB × LS × LE × LC) (y : Int × ByteArray × Int) : Prop := f32 N x.1 x.2.1 x.2.2.1 x.2.2.2.1 x.2.2.2.2 = some y
def G32 (x : ByteArray × LB × LS × LE × LC) (y : Int × ByteArray × Int) : Prop := ∃ N,H32 N x y
theorem G32.step {s0 s1 s2 s3 s4} {A : _ -> Option ρ} (ha : xs = [.ptr k0 0, .dat (strN s0)]) (b0 : m k0 = .box [.ptr k1 0, .rs k2 m0]) (b1 : m k1 = .box [.mp k3, .mp k4, .mp k5]) (b2 : m k2 = (rW s1)) (b3 : m k3 = (sW [k4] s2)) (b4 : m k4 = (eW s3)) (b5 : m k5 = (mW s4)) (em0 : m0 = List.length s1) (hu : True) (hn : za6 [k0,k1,k2,k3,k4,k5] = true) (h : ∀ y,A y = some q -> K ⟨.tup [.dat (iN y.1), .dat (strN y.2.1), .dat (iN y.2.2)],[(k0, .box [.ptr k1 0, .rs k2 (List.length s1)]),(k1, .box [.mp k3, .mp k4, .mp k5]),(k2,(rW s1)),(k3,(sW [k4] s2)),(k4,(eW s3)),(k5,(mW s4))]⟩ ([Loc.b k0,Loc.b k1,Loc.b k2,Loc.b k3,Loc.b k4,Loc.b k5] ++ l)) (hF : (f32 N s0 s1 s2 s3 s4).bind A = some q) : effPg znu (G32) xs id (λ _=>SV.no) m l K := by
 subst em0;obtain ⟨y,hy,hA⟩ := bind_some hF;exact zaU [k0,k1,k2,k3,k4,k5] (s0,s1,s2,s3,s4) y _ ⟨N,hy⟩ rfl hn ha (by simp only [List.map_cons,List.map_nil,b0,b1,b2,b3,b4,b5];rfl) rfl rfl rfl (h y hA)
def Srf32 : Ann := ⟨[0,1,2],[0,1,2,3,4,5],[],[]⟩
def zrO : Ann := ⟨[0,1,2],[0,1,2,3,4,5],[],[]⟩
set_option maxRecDepth 20000 in
set_option maxHeartbeats 4000000 in
theorem Q32 (N : Nat) : CallOK Tryz.prog 32 (effPg znu (H32 N)) := by
 induction N with
 | zero=>exact zaX λ x y h=>(by cases (show (none : Option (Int × ByteArray × Int)) = some y from h))
 | succ N ih =>
  refine zaF (c := zar zah [(32,true,effPg znu (H32 N)),(53,false,zba (zar zah []) Tryz.f53),(61,true,lendPg [[0]] G61)]) rfl tyOK (zao (zaa Tryz.func32 rfl rfl) ih (zaw (zaa Tryz.func53 rfl rfl) (CallOK.inl rfl tyOK (zac) Tryz.func53 (by kernel_rfl)) (zaJ (zaa Tryz.func61 rfl rfl) P61 (zac)))) 1000 Srf32 zrO Tryz.func32 rfl rfl (by kernel_rfl) rfl rfl rfl rfl rfl rfl rfl rfl (λ _=>rfl) (λ _=>rfl) (λ _ _=>⟨rfl,rfl⟩) ?_;rintro ⟨s0,s1,s2,s3,s4⟩ y hF;have hF : f32b (f32 N) N s0 s1 s2 s3 s4 = some y := hF;show vc _ _ _ _ ⟨[(0, .ptr 0 0),(1, .dat (strN s0))],[(0, .box [.ptr 1 0, .rs 2 (List.length s1)]),(1, .box [.mp 3, .mp 4, .mp 5]),(2,(rW s1)),(3,(sW [4] s2)),(4,(eW s3)),(5,(mW s4))]⟩ _;unfold f32b at hF
  repeat' (first
 | ((with_reducible first | refine q0 _ _ ?_ | refine q1 _ _ _ _ ?_ | refine q2 _ _ _ ?_);clear Q q0 q1 q2)
 | ((with_reducible first | refine zaI ?hx (λ Q q0 q1 q2=>?_));(case hx=>exact rfl);conv=>whnf)
 | ((with_reducible first | refine zbT ?hx ?_ | refine zbw ?hx ?_ | refine zbf ?hx ?_ | refine zbv ?hx ?_);(case hx=>exact rfl))
 | ((with_reducible refine zaP ?_);(first | ((refine zbb rfl ?hy ?_);(case hy=>first | assumption | exact notT (by assumption) | exact rfl)) | ((refine zbc rfl ?hy ?_);(case hy=>first | assumption | exact notF (by assumption) | exact rfl)) | (revert hF;(with_reducible refine zbP ?hx ?_ ?_);(case hx=>exact rfl);all_goals (intro hc hF))))
 | ((with_reducible refine zay ?_);(first | ((with_reducible refine hR _ ?_);clear R hR) | ((with_reducible refine hL _ ?_);clear L hL)))
 | (with_reducible first | refine zaB ?_ | refine zax ?_ | refine zaH ?_ | refine zaM ?_ | refine zak (λ R hR=>?_) | refine zaj ?_ | refine zan ?_ | refine zbO ?_ | refine zav ?_ | refine zap ?_)
 | ((with_reducible refine zaz [] ?hx ?_);(case hx=>exact rfl))
 | (revert hF;(with_reducible refine G61.lend ?hx ?_);(case hx=>exact rfl);intro v hF;conv=>whnf)
 | (cases hF;(refine Or.inl ?_);(conv=>whnf);exact ⟨rfl,rfl,rfl⟩)
 | (revert hF;(refine zaG (eK := strN) (eM := StoneM.m) zaD ?hk ?hd ?he ?_ ?_);(case hk=>exact λ _=>rfl);(case hd=>exact rfl);(case he=>exact rfl);(intro hl hF;conv=>whnf);rotate_left;(intro i hl hF;conv=>whnf);rotate_right)
 | ((refine zaO rfl (by assumption) (by exact rfl) ?_);conv=>whnf)
 | ((with_reducible have hG := za7 hF);clear hF;(obtain ⟨⟨x,hx,hF⟩⟩ := hG);first | ((refine zaO rfl hx (by exact rfl) ?_);conv=>whnf) | skip)
 | (revert hF;(refine zdg ?_ ?_);(intro ho hF;conv=>whnf);rotate_left;(intro j ho hF;conv=>whnf);rotate_right)
 | ((refine zeu (by assumption) ?_);conv=>whnf)
 | ((with_reducible refine zbZ ?hx ?_);(case hx=>first | exact rfl | assumption | exact notF (by assumption));conv=>whnf)
 | ((refine zae 1101 1102000000 rfl rfl (Nat.le_of_ble_eq_true rfl) rfl (λ R hR=>?_));(conv=>whnf);(with_reducible refine hR _ ?ha ?_);(case ha=>exact rfl);clear R hR)
 | (show Kinl _ _ _ _ _ _ _;conv=>whnf)
 | ((with_reducible refine zbt ?ha ?hb ?_);(case ha=>exact rfl);(case hb=>exact rfl);conv=>whnf)
 | with_reducible refine zbe ?_)
theorem P32 : CallOK Tryz.prog 32 (effPg znu G32) := zbE Q32
def f33b (self : ByteArray -> LB -> LS -> LE -> LC -> Option ((List Int) × Int)) (N : Nat) (s0 : ByteArray) (s1 : LB) (s2 : LS) (s3 : LE) (s4 : LC) : Option ((List Int) × Int) :=
 (f61 N s0).bind λ x1 =>
 bif !x1 then (some ([],(8 : Int)))
 else (onO (zbF s0 s3) (some ([],(5 : Int))) λ x2 =>
 (getF s3 x2).bind λ x3 =>
 demB x3.places ((some ()).bind λ _ =>
 some ([],(0 : Int)))
 ((app 8 [] x3.places).bind λ x4 =>
 (some ()).bind λ _ =>
 some (x4,(0 : Int))))
def f33 : Nat -> ByteArray -> LB -> LS -> LE -> LC -> Option ((List Int) × Int)
 | 0,_,_,_,_,_=>none
 | N + 1,s0,s1,s2,s3,s4=>f33b (f33 N) N s0 s1 s2 s3 s4
def Af33 (s0 : ByteArray) (s1 : LB) (s2 : LS) (s3 : LE) (s4 : LC) : List SV := [.ptr 0 0, .dat (strN s0)]
def Bf33 (s0 : ByteArray) (s1 : LB) (s2 : LS) (s3 : LE) (s4 : LC) : List Blk := [.box [.ptr 1 0, .rs 2 (List.length s1)], .box [.mp 3, .mp 4, .mp 5],(rW s1),(sW [4] s2),(eW s3),(mW s4)]
def Rf33 (y : (List Int) × Int) : List SV := [.rs 500 (List.length y.1), .dat (iN y.2)]
def B1f33 (s0 : ByteArray) (s1 : LB) (s2 : LS) (s3 : LE) (s4 : LC) (y : (List Int) × Int) : List Blk := [.box [.ptr 1 0, .rs 2 (List.length s1)], .box [.mp 3, .mp 4, .mp 5],(rW s1),(sW [4] s2),(eW s3),(mW s4)]
def BZf33 (y : (List Int) × Int) : List Blk := [.row 3 1 (List.map iN y.1)]
def znv : Spec (ByteArray × LB × LS × LE × LC) ((List Int) × Int) := ⟨6,[500],λ x=>Af33 x.1 x.2.1 x.2.2.1 x.2.2.2.1 x.2.2.2.2,λ x=>Bf33 x.1 x.2.1 x.2.2.1 x.2.2.2.1 x.2.2.2.2,λ _ y=>Rf33 y,λ x y=>B1f33 x.1 x.2.1 x.2.2.1 x.2.2.2.1 x.2.2.2.2 y,λ _ y=>BZf33 y⟩
def H33 (N : Nat) (x : ByteArray × LB × LS × LE × LC) (y : (List Int) × Int) : Prop := f33 N x.1 x.2.1 x.2.2.1 x.2.2.2.1 x.2.2.2.2 = some y
def G33 (x : ByteArray × LB × LS × LE × LC) (y : (List Int) × Int) : Prop := ∃ N,H33 N x y
theorem G33.step {s0 s1 s2 s3 s4} {A : _ -> Option ρ} (ha : xs = [.ptr k0 0, .dat (strN s0)]) (b0 : m k0 = .box [.ptr k1 0, .rs k2 m0]) (b1 : m k1 = .box [.mp k3, .mp k4, .mp k5]) (b2 : m k2 = (rW s1)) (b3 : m k3 = (sW [k4] s2)) (b4 : m k4 = (eW s3)) (b5 : m k5 = (mW s4)) (em0 : m0 = List.length s1) (hu : (zcx id 1).map m = List.replicate 1 .unborn) (hn : za6 [k0,k1,k2,k3,k4,k5] = true) (h : ∀ y,A y = some q -> K ⟨.tup [.rs (id + BIG * 0) (List.length y.1), .dat (iN y.2)],[(k0, .box [.ptr k1 0, .rs k2 (List.length s1)]),(k1, .box [.mp k3, .mp k4, .mp k5]),(k2,(rW s1)),(k3,(sW [k4] s2)),(k4,(eW s3)),(k5,(mW s4)),(id, .row 3 1 (List.map iN y.1))]⟩ ([Loc.b k0,Loc.b k1,Loc.b k2,Loc.b k3,Loc.b k4,Loc.b k5,Loc.b id] ++ l)) (hF : (f33 N s0 s1 s2 s3 s4).bind A = some q) : effPg znv (G33) xs id (λ _=>SV.no) m l K := by
 subst em0;obtain ⟨y,hy,hA⟩ := bind_some hF;exact zaU [k0,k1,k2,k3,k4,k5] (s0,s1,s2,s3,s4) y _ ⟨N,hy⟩ rfl hn ha (by simp only [List.map_cons,List.map_nil,b0,b1,b2,b3,b4,b5];rfl) hu rfl rfl (h y hA)
def Srf33 : Ann := ⟨[0,1],[0,1,2,3,4,5,500],[(.slot 0,500,3,1)],[]⟩
def zrP : Ann := ⟨[0,1],[0,1,2,3,4,5],[],[]⟩
set_option maxRecDepth 20000 in
set_option maxHeartbeats 4000000 in
theorem Q33 (N : Nat) : CallOK Tryz.prog 33 (effPg znv (H33 N)) := by
 induction N with
 | zero=>exact zaX λ x y h=>(by cases (show (none : Option ((List Int) × Int)) = some y from h))
 | succ N ih =>
  refine zaF (c := zar zah [(33,true,effPg znv (H33 N)),(63,false,zba (zar zah []) Tryz.f63),(62,false,zba (zar zah [(53,false,zba (zar zah []) Tryz.f53),(61,true,lendPg [[0]] G61)]) Tryz.f62)]) rfl tyOK (zao (zaa Tryz.func33 rfl rfl) ih (zaw (zaa Tryz.func63 rfl rfl) (CallOK.inl rfl tyOK (zac) Tryz.func63 (by kernel_rfl)) (zaw (zaa Tryz.func62 rfl rfl) (CallOK.inl rfl tyOK (zaw (zaa Tryz.func53 rfl rfl) (CallOK.inl rfl tyOK (zac) Tryz.func53 (by kernel_rfl)) (zaJ (zaa Tryz.func61 rfl rfl) P61 (zac))) Tryz.func62 (by kernel_rfl)) (zac)))) 1000 Srf33 zrP Tryz.func33 rfl rfl (by kernel_rfl) rfl rfl rfl rfl rfl rfl rfl rfl (λ _=>rfl) (λ _=>rfl) (λ _ _=>⟨rfl,rfl⟩) ?_;rintro ⟨s0,s1,s2,s3,s4⟩ y hF;have hF : f33b (f33 N) N s0 s1 s2 s3 s4 = some y := hF;show vc _ _ _ _ ⟨[(0, .ptr 0 0),(1, .dat (strN s0))],[(0, .box [.ptr 1 0, .rs 2 (List.length s1)]),(1, .box [.mp 3, .mp 4, .mp 5]),(2,(rW s1)),(3,(sW [4] s2)),(4,(eW s3)),(5,(mW s4))]⟩ _;unfold f33b at hF
  repeat' (first
 | ((with_reducible first | refine q0 _ _ ?_ | refine q1 _ _ _ _ ?_ | refine q2 _ _ _ ?_);clear Q q0 q1 q2)
 | ((with_reducible first | refine zaI ?hx (λ Q q0 q1 q2=>?_));(case hx=>exact rfl);conv=>whnf)
 | ((with_reducible first | refine zbT ?hx ?_ | refine zbw ?hx ?_ | refine zbf ?hx ?_ | refine zbv ?hx ?_);(case hx=>exact rfl))
 | ((with_reducible refine zaP ?_);(first | ((refine zbb rfl ?hy ?_);(case hy=>first | assumption | exact notT (by assumption) | exact rfl)) | ((refine zbc rfl ?hy ?_);(case hy=>first | assumption | exact notF (by assumption) | exact rfl)) | (revert hF;(with_reducible refine zbP ?hx ?_ ?_);(case hx=>exact rfl);all_goals (intro hc hF))))
 | ((with_reducible have hG := zcT hF);(refine zdG 4 1403 rfl rfl rfl (by first | exact zal | exact za8 (by decide) zal) (by assumption) (by exact rfl) ?_);(have hF := hG);clear hG;dsimp only [St.settledF];(first | ((with_reducible refine hR _ ?_);clear R hR) | ((with_reducible refine hL _ ?_);clear L hL)))
 | ((with_reducible refine zay ?_);(first | ((with_reducible refine hR _ ?_);clear R hR) | ((with_reducible refine hL _ ?_);clear L hL)))
 | (with_reducible first | refine zaB ?_ | refine zax ?_ | refine zaH ?_ | refine zaM ?_ | refine zak (λ R hR=>?_) | refine zaj ?_ | refine zan ?_ | refine zbO ?_ | refine zav ?_ | refine zap ?_)
 | ((with_reducible refine zaz [] ?hx ?_);(case hx=>exact rfl))
 | (revert hF;(with_reducible refine G61.lend ?hx ?_);(case hx=>exact rfl);intro v hF;conv=>whnf)
 | (cases hF;(refine Or.inl ?_);(conv=>whnf);exact ⟨rfl,rfl,rfl⟩)
 | (revert hF;(refine zaG (eK := strN) (eM := EditionM.m) zaD ?hk ?hd ?he ?_ ?_);(case hk=>exact λ _=>rfl);(case hd=>exact rfl);(case he=>exact rfl);(intro hl hF;conv=>whnf);rotate_left;(intro i hl hF;conv=>whnf);rotate_right)
 | ((refine zet (eK := strN) (eM := EditionM.m) zaD (λ _=>rfl) (by exact rfl) (by exact rfl) (by assumption) ?_);conv=>whnf)
 | ((refine zaO rfl (by assumption) (by exact rfl) ?_);conv=>whnf)
 | ((with_reducible have hG := za7 hF);clear hF;(obtain ⟨⟨x,hx,hF⟩⟩ := hG);first | ((refine zaO rfl hx (by exact rfl) ?_);conv=>whnf) | skip)
 | ((refine Or.inr ?_);(conv=>whnf);(refine zdU (by first | exact zal | exact za8 (by decide) zal) ?_);conv=>whnf)
 | ((with_reducible have hG := zc4 hF);clear hF;(first | ((refine zdq hG ?hn ?hs (λ q hF=>?_));(case hn=>first | exact rfl | assumption | omega);(case hs=>exact rfl)) | ((refine zdB (d := iN) hG ?hs (λ q hF=>?_));(case hs=>exact rfl)) | ((refine zdC (d := iN) hG ?ho ?hn ?hs (λ q hF=>?_));(case ho=>exact rfl);(case hn=>exact rfl);(case hs=>exact rfl)));clear hG;conv=>whnf)
 | ((refine zdr ?hn ?_);(case hn=>first | exact rfl | (simp;done) | (simp;omega));conv=>whnf)
 | (revert hF;(refine zm6 ?hn ?_ ?_);(case hn=>first | exact rfl | assumption | omega);(intro hl hF;conv=>whnf);rotate_left;(intro hF;conv=>whnf);rotate_right)
 | ((with_reducible refine zbZ ?hx ?_);(case hx=>first | exact rfl | assumption | exact notF (by assumption));conv=>whnf)
 | ((refine zae 1102 1103000000 rfl rfl (Nat.le_of_ble_eq_true rfl) rfl (λ R hR=>?_));(conv=>whnf);(with_reducible refine hR _ ?ha ?_);(case ha=>exact rfl);clear R hR)
 | ((refine zae 1404 1405000000 rfl rfl (Nat.le_of_ble_eq_true rfl) rfl (λ R hR=>?_));(conv=>whnf);(with_reducible refine hR _ ?ha ?_);(case ha=>exact rfl);clear R hR)
 | ((refine zae 1103000101 zr7 rfl rfl (Nat.le_of_ble_eq_true rfl) rfl (λ R hR=>?_));(conv=>whnf);(with_reducible refine hR _ ?ha ?_);(case ha=>exact rfl);clear R hR)
 | (show Kinl _ _ _ _ _ _ _;conv=>whnf)
 | ((with_reducible refine zbt ?ha ?hb ?_);(case ha=>exact rfl);(case hb=>exact rfl);conv=>whnf)
 | with_reducible refine zbe ?_)
theorem P33 : CallOK Tryz.prog 33 (effPg znv G33) := zbE Q33
def f34b (self : ByteArray -> LB -> LS -> LE -> LC -> Option (Tally × Int)) (N : Nat) (s0 : ByteArray) (s1 : LB) (s2 : LS) (s3 : LE) (s4 : LC) : Option (Tally × Int) :=
 (f61 N s0).bind λ x1 =>
 bif !x1 then (some ((Tally.mk (0 : Int) (0 : Int) (0 : Int) (0 : Int) (0 : Int)),(8 : Int)))
 else (onO (zbF s0 s3) (some ((Tally.mk (0 : Int) (0 : Int) (0 : Int) (0 : Int) (0 : Int)),(5 : Int))) λ x2 =>
 (getF s3 x2).bind λ x3 =>
 (f64 N x3 x3.from_).bind λ x4 =>
 (f64 N x3 (0 : Int)).bind λ x5 =>
 some ((Tally.mk x3.paper x3.delivered x3.spoilt (W (x5 - x4)) x4),(0 : Int)))
def f34 : Nat -> ByteArray -> LB -> LS -> LE -> LC -> Option (Tally × Int)
 | 0,_,_,_,_,_=>none
 | N + 1,s0,s1,s2,s3,s4=>f34b (f34 N) N s0 s1 s2 s3 s4
def Af34 (s0 : ByteArray) (s1 : LB) (s2 : LS) (s3 : LE) (s4 : LC) : List SV := [.ptr 0 0, .dat (strN s0)]
def Bf34 (s0 : ByteArray) (s1 : LB) (s2 : LS) (s3 : LE) (s4 : LC) : List Blk := [.box [.ptr 1 0, .rs 2 (List.length s1)], .box [.mp 3, .mp 4, .mp 5],(rW s1),(sW [4] s2),(eW s3),(mW s4)]
def Rf34 (y : Tally × Int) : List SV := [.dat (Tally.d y.1), .dat (iN y.2)]
def B1f34 (s0 : ByteArray) (s1 : LB) (s2 : LS) (s3 : LE) (s4 : LC) (y : Tally × Int) : List Blk := [.box [.ptr 1 0, .rs 2 (List.length s1)], .box [.mp 3, .mp 4, .mp 5],(rW s1),(sW [4] s2),(eW s3),(mW s4)]
def BZf34 (y : Tally × Int) : List Blk := []
def znw : Spec (ByteArray × LB × LS × LE × LC) (Tally × Int) := ⟨6,[],λ x=>Af34 x.1 x.2.1 x.2.2.1 x.2.2.2.1 x.2.2.2.2,λ x=>Bf34 x.1 x.2.1 x.2.2.1 x.2.2.2.1 x.2.2.2.2,λ _ y=>Rf34 y,λ x y=>B1f34 x.1 x.2.1 x.2.2.1 x.2.2.2.1 x.2.2.2.2 y,λ _ y=>BZf34 y⟩
def H34 (N : Nat) (x : ByteArray × LB × LS × LE × LC) (y : Tally × Int) : Prop := f34 N x.1 x.2.1 x.2.2.1 x.2.2.2.1 x.2.2.2.2 = some y
def G34 (x : ByteArray × LB × LS × LE × LC) (y : Tally × Int) : Prop := ∃ N,H34 N x y
theorem G34.step {s0 s1 s2 s3 s4} {A : _ -> Option ρ} (ha : xs = [.ptr k0 0, .dat (strN s0)]) (b0 : m k0 = .box [.ptr k1 0, .rs k2 m0]) (b1 : m k1 = .box [.mp k3, .mp k4, .mp k5]) (b2 : m k2 = (rW s1)) (b3 : m k3 = (sW [k4] s2)) (b4 : m k4 = (eW s3)) (b5 : m k5 = (mW s4)) (em0 : m0 = List.length s1) (hu : True) (hn : za6 [k0,k1,k2,k3,k4,k5] = true) (h : ∀ y,A y = some q -> K ⟨.tup [.dat (Tally.d y.1), .dat (iN y.2)],[(k0, .box [.ptr k1 0, .rs k2 (List.length s1)]),(k1, .box [.mp k3, .mp k4, .mp k5]),(k2,(rW s1)),(k3,(sW [k4] s2)),(k4,(eW s3)),(k5,(mW s4))]⟩ ([Loc.b k0,Loc.b k1,Loc.b k2,Loc.b k3,Loc.b k4,Loc.b k5] ++ l)) (hF : (f34 N s0 s1 s2 s3 s4).bind A = some q) : effPg znw (G34) xs id (λ _=>SV.no) m l K := by
 subst em0;obtain ⟨y,hy,hA⟩ := bind_some hF;exact zaU [k0,k1,k2,k3,k4,k5] (s0,s1,s2,s3,s4) y _ ⟨N,hy⟩ rfl hn ha (by simp only [List.map_cons,List.map_nil,b0,b1,b2,b3,b4,b5];rfl) rfl rfl rfl (h y hA)
def Srf34 : Ann := ⟨[0,1],[0,1,2,3,4,5],[],[]⟩
def zrQ : Ann := ⟨[0,1],[0,1,2,3,4,5],[],[]⟩
set_option maxRecDepth 20000 in
set_option maxHeartbeats 4000000 in
theorem Q34 (N : Nat) : CallOK Tryz.prog 34 (effPg znw (H34 N)) := by
 induction N with
 | zero=>exact zaX λ x y h=>(by cases (show (none : Option (Tally × Int)) = some y from h))
 | succ N ih =>
  refine zaF (c := zar zah [(34,true,effPg znw (H34 N)),(62,false,zba (zar zah [(53,false,zba (zar zah []) Tryz.f53),(61,true,lendPg [[0]] G61)]) Tryz.f62),(64,true,lendPg [[0],[0]] G64)]) rfl tyOK (zao (zaa Tryz.func34 rfl rfl) ih (zaw (zaa Tryz.func62 rfl rfl) (CallOK.inl rfl tyOK (zaw (zaa Tryz.func53 rfl rfl) (CallOK.inl rfl tyOK (zac) Tryz.func53 (by kernel_rfl)) (zaJ (zaa Tryz.func61 rfl rfl) P61 (zac))) Tryz.func62 (by kernel_rfl)) (zaJ (zaa Tryz.func64 rfl rfl) P64 (zac)))) 1000 Srf34 zrQ Tryz.func34 rfl rfl (by kernel_rfl) rfl rfl rfl rfl rfl rfl rfl rfl (λ _=>rfl) (λ _=>rfl) (λ _ _=>⟨rfl,rfl⟩) ?_;rintro ⟨s0,s1,s2,s3,s4⟩ y hF;have hF : f34b (f34 N) N s0 s1 s2 s3 s4 = some y := hF;show vc _ _ _ _ ⟨[(0, .ptr 0 0),(1, .dat (strN s0))],[(0, .box [.ptr 1 0, .rs 2 (List.length s1)]),(1, .box [.mp 3, .mp 4, .mp 5]),(2,(rW s1)),(3,(sW [4] s2)),(4,(eW s3)),(5,(mW s4))]⟩ _;unfold f34b at hF
  repeat' (first
 | ((with_reducible first | refine q0 _ _ ?_ | refine q1 _ _ _ _ ?_ | refine q2 _ _ _ ?_);clear Q q0 q1 q2)
 | ((with_reducible first | refine zaI ?hx (λ Q q0 q1 q2=>?_) | refine za2 ?hx (λ Q q0 q1 q2=>?_) | refine zby ?hx (λ Q q0 q1 q2=>?_) | refine zbC ?hx (λ Q q0 q1 q2=>?_));(case hx=>exact rfl);conv=>whnf)
 | ((with_reducible first | refine zbT ?hx ?_ | refine zbw ?hx ?_ | refine zcF ?hx ?_ | refine zcf ?hx ?_ | refine zbf ?hx ?_ | refine zbv ?hx ?_);(case hx=>exact rfl))
 | ((with_reducible refine zaP ?_);(first | ((refine zbb rfl ?hy ?_);(case hy=>first | assumption | exact notT (by assumption) | exact rfl)) | ((refine zbc rfl ?hy ?_);(case hy=>first | assumption | exact notF (by assumption) | exact rfl)) | (revert hF;(with_reducible refine zbP ?hx ?_ ?_);(case hx=>exact rfl);all_goals (intro hc hF))))
 | ((with_reducible refine zay ?_);(first | ((with_reducible refine hR _ ?_);clear R hR) | ((with_reducible refine hL _ ?_);clear L hL)))
 | ((with_reducible refine zaR ?_);(with_reducible refine hR _ _ ?hx ?_);(case hx=>kernel_rfl);clear R hR)
 | ((with_reducible first | refine zaK ?_ | refine zbm ?_);conv=>whnf)
 | (with_reducible first | refine zaB ?_ | refine zax ?_ | refine zaH ?_ | refine zaM ?_ | refine zak (λ R hR=>?_) | refine zaj ?_ | refine zan ?_ | refine zbO ?_ | refine zav ?_ | refine zap ?_)
 | ((with_reducible refine zaz [] ?hx ?_);(case hx=>exact rfl))
 | ((with_reducible refine za4 ?hx (λ R L hL hR=>?_));(case hx=>exact rfl))
 | (revert hF;(with_reducible refine G61.lend ?hx ?_);(case hx=>exact rfl);intro v hF;conv=>whnf)
 | (revert hF;(with_reducible refine G64.lend ?hx ?_);(case hx=>exact rfl);intro v hF;conv=>whnf)
 | (cases hF;(refine Or.inl ?_);(conv=>whnf);exact ⟨rfl,rfl,rfl⟩)
 | (revert hF;(refine zaG (eK := strN) (eM := EditionM.m) zaD ?hk ?hd ?he ?_ ?_);(case hk=>exact λ _=>rfl);(case hd=>exact rfl);(case he=>exact rfl);(intro hl hF;conv=>whnf);rotate_left;(intro i hl hF;conv=>whnf);rotate_right)
 | ((refine zet (eK := strN) (eM := EditionM.m) zaD (λ _=>rfl) (by exact rfl) (by exact rfl) (by assumption) ?_);conv=>whnf)
 | ((refine zaO rfl (by assumption) (by exact rfl) ?_);conv=>whnf)
 | ((with_reducible have hG := za7 hF);clear hF;(obtain ⟨⟨x,hx,hF⟩⟩ := hG);first | ((refine zaO rfl hx (by exact rfl) ?_);conv=>whnf) | skip)
 | ((refine zdT rfl (by assumption) (λ key=>?_));conv=>whnf)
 | ((with_reducible refine zbZ ?hx ?_);(case hx=>first | exact rfl | assumption | exact notF (by assumption));conv=>whnf)
 | ((refine zae 1102 1103000000 rfl rfl (Nat.le_of_ble_eq_true rfl) rfl (λ R hR=>?_));(conv=>whnf);(with_reducible refine hR _ ?ha ?_);(case ha=>exact rfl);clear R hR)
 | ((refine zae 1103000101 zr7 rfl rfl (Nat.le_of_ble_eq_true rfl) rfl (λ R hR=>?_));(conv=>whnf);(with_reducible refine hR _ ?ha ?_);(case ha=>exact rfl);clear R hR)
 | (show Kinl _ _ _ _ _ _ _;conv=>whnf)
 | ((with_reducible refine zbt ?ha ?hb ?_);(case ha=>exact rfl);(case hb=>exact rfl);conv=>whnf)
 | with_reducible refine zbe ?_)
theorem P34 : CallOK Tryz.prog 34 (effPg znw G34) := zbE Q34
def f36b (self : ByteArray -> ByteArray -> LB -> LS -> LE -> LC -> Option (Int × Int)) (N : Nat) (s0 : ByteArray) (s1 : ByteArray) (s2 : LB) (s3 : LS) (s4 : LE) (s5 : LC) : Option (Int × Int) :=
 (f61 N s0).bind λ x1 =>
 bif !x1 then (some ((0 : Int),(8 : Int)))
 else ((f61 N s1).bind λ x2 =>
 bif !x2 then (some ((0 : Int),(8 : Int)))
 else (onO (zbF s1 s4) (some ((0 : Int),(5 : Int))) λ x3 =>
 (getF s4 x3).bind λ x4 =>
 (some (zgn (0 : Int) s0 x4.owed)).bind λ x5 =>
 (some ()).bind λ _ =>
 bif !x5.2 then (some ((0 : Int),(5 : Int)))
 else (some (x5.1,(0 : Int)))))
def f36 : Nat -> ByteArray -> ByteArray -> LB -> LS -> LE -> LC -> Option (Int × Int)
 | 0,_,_,_,_,_,_=>none
 | N + 1,s0,s1,s2,s3,s4,s5=>f36b (f36 N) N s0 s1 s2 s3 s4 s5
def Af36 (s0 : ByteArray) (s1 : ByteArray) (s2 : LB) (s3 : LS) (s4 : LE) (s5 : LC) : List SV := [.ptr 0 0, .dat (strN s0), .dat (strN s1)]
def Bf36 (s0 : ByteArray) (s1 : ByteArray) (s2 : LB) (s3 : LS) (s4 : LE) (s5 : LC) : List Blk := [.box [.ptr 1 0, .rs 2 (List.length s2)], .box [.mp 3, .mp 4, .mp 5],(rW s2),(sW [4] s3),(eW s4),(mW s5)]
def Rf36 (y : Int × Int) : List SV := [.dat (iN y.1), .dat (iN y.2)]
def B1f36 (s0 : ByteArray) (s1 : ByteArray) (s2 : LB) (s3 : LS) (s4 : LE) (s5 : LC) (y : Int × Int) : List Blk := [.box [.ptr 1 0, .rs 2 (List.length s2)], .box [.mp 3, .mp 4, .mp 5],(rW s2),(sW [4] s3),(eW s4),(mW s5)]
def BZf36 (y : Int × Int) : List Blk := []
def znx : Spec (ByteArray × ByteArray × LB × LS × LE × LC) (Int × Int) := ⟨6,[],λ x=>Af36 x.1 x.2.1 x.2.2.1 x.2.2.2.1 x.2.2.2.2.1 x.2.2.2.2.2,λ x=>Bf36 x.1 x.2.1 x.2.2.1 x.2.2.2.1 x.2.2.2.2.1 x.2.2.2.2.2,λ _ y=>Rf36 y,λ x y=>B1f36 x.1 x.2.1 x.2.2.1 x.2.2.2.1 x.2.2.2.2.1 x.2.2.2.2.2 y,λ _ y=>BZf36 y⟩
def H36 (N : Nat) (x : ByteArray × ByteArray × LB × LS × LE × LC) (y : Int × Int) : Prop := f36 N x.1 x.2.1 x.2.2.1 x.2.2.2.1 x.2.2.2.2.1 x.2.2.2.2.2 = some y
def G36 (x : ByteArray × ByteArray × LB × LS × LE × LC) (y : Int × Int) : Prop := ∃ N,H36 N x y
theorem G36.step {s0 s1 s2 s3 s4 s5} {A : _ -> Option ρ} (ha : xs = [.ptr k0 0, .dat (strN s0), .dat (strN s1)]) (b0 : m k0 = .box [.ptr k1 0, .rs k2 m0]) (b1 : m k1 = .box [.mp k3, .mp k4, .mp k5]) (b2 : m k2 = (rW s2)) (b3 : m k3 = (sW [k4] s3)) (b4 : m k4 = (eW s4)) (b5 : m k5 = (mW s5)) (em0 : m0 = List.length s2) (hu : True) (hn : za6 [k0,k1,k2,k3,k4,k5] = true) (h : ∀ y,A y = some q -> K ⟨.tup [.dat (iN y.1), .dat (iN y.2)],[(k0, .box [.ptr k1 0, .rs k2 (List.length s2)]),(k1, .box [.mp k3, .mp k4, .mp k5]),(k2,(rW s2)),(k3,(sW [k4] s3)),(k4,(eW s4)),(k5,(mW s5))]⟩ ([Loc.b k0,Loc.b k1,Loc.b k2,Loc.b k3,Loc.b k4,Loc.b k5] ++ l)) (hF : (f36 N s0 s1 s2 s3 s4 s5).bind A = some q) : effPg znx (G36) xs id (λ _=>SV.no) m l K := by
 subst em0;obtain ⟨y,hy,hA⟩ := bind_some hF;exact zaU [k0,k1,k2,k3,k4,k5] (s0,s1,s2,s3,s4,s5) y _ ⟨N,hy⟩ rfl hn ha (by simp only [List.map_cons,List.map_nil,b0,b1,b2,b3,b4,b5];rfl) rfl rfl rfl (h y hA)
def Srf36 : Ann := ⟨[0,1],[0,1,2,3,4,5],[],[]⟩
def zrR : Ann := ⟨[0,1],[0,1,2,3,4,5],[],[]⟩
set_option maxRecDepth 20000 in
set_option maxHeartbeats 4000000 in
theorem Q36 (N : Nat) : CallOK Tryz.prog 36 (effPg znx (H36 N)) := by
 induction N with
 | zero=>exact zaX λ x y h=>(by cases (show (none : Option (Int × Int)) = some y from h))
 | succ N ih =>
  refine zaF (c := zar zah [(36,true,effPg znx (H36 N)),(62,false,zba (zar zah [(53,false,zba (zar zah []) Tryz.f53),(61,true,lendPg [[0]] G61)]) Tryz.f62),(53,false,zba (zar zah []) Tryz.f53),(61,true,lendPg [[0]] G61)]) rfl tyOK (zao (zaa Tryz.func36 rfl rfl) ih (zaw (zaa Tryz.func62 rfl rfl) (CallOK.inl rfl tyOK (zaw (zaa Tryz.func53 rfl rfl) (CallOK.inl rfl tyOK (zac) Tryz.func53 (by kernel_rfl)) (zaJ (zaa Tryz.func61 rfl rfl) P61 (zac))) Tryz.func62 (by kernel_rfl)) (zaw (zaa Tryz.func53 rfl rfl) (CallOK.inl rfl tyOK (zac) Tryz.func53 (by kernel_rfl)) (zaJ (zaa Tryz.func61 rfl rfl) P61 (zac))))) 1000 Srf36 zrR Tryz.func36 rfl rfl (by kernel_rfl) rfl rfl rfl rfl rfl rfl rfl rfl (λ _=>rfl) (λ _=>rfl) (λ _ _=>⟨rfl,rfl⟩) ?_;rintro ⟨s0,s1,s2,s3,s4,s5⟩ y hF;have hF : f36b (f36 N) N s0 s1 s2 s3 s4 s5 = some y := hF;show vc _ _ _ _ ⟨[(0, .ptr 0 0),(1, .dat (strN s0)),(2, .dat (strN s1))],[(0, .box [.ptr 1 0, .rs 2 (List.length s2)]),(1, .box [.mp 3, .mp 4, .mp 5]),(2,(rW s2)),(3,(sW [4] s3)),(4,(eW s4)),(5,(mW s5))]⟩ _;unfold f36b at hF
  repeat' (first
 | ((with_reducible first | refine q0 _ _ ?_ | refine q1 _ _ _ _ ?_ | refine q2 _ _ _ ?_);clear Q q0 q1 q2)
 | ((with_reducible first | refine zaI ?hx (λ Q q0 q1 q2=>?_));(case hx=>exact rfl);conv=>whnf)
 | ((with_reducible first | refine zbT ?hx ?_ | refine zbw ?hx ?_ | refine zbf ?hx ?_ | refine zbv ?hx ?_);(case hx=>exact rfl))
 | ((with_reducible refine zaP ?_);(first | ((refine zbb rfl ?hy ?_);(case hy=>first | assumption | exact notT (by assumption) | exact rfl)) | ((refine zbc rfl ?hy ?_);(case hy=>first | assumption | exact notF (by assumption) | exact rfl)) | (revert hF;(with_reducible refine zbP ?hx ?_ ?_);(case hx=>exact rfl);all_goals (intro hc hF))))
 | ((with_reducible have hG := zcT hF);(refine ziI 4 1803 rfl rfl rfl (by first | exact zal | exact za8 (by decide) zal) (by assumption) (by exact rfl) ?_);(have hF := hG);clear hG;dsimp only [St.settledF];(first | ((with_reducible refine hR _ ?_);clear R hR) | ((with_reducible refine hL _ ?_);clear L hL)))
 | ((with_reducible refine zay ?_);(first | ((with_reducible refine hR _ ?_);clear R hR) | ((with_reducible refine hL _ ?_);clear L hL)))
 | (with_reducible first | refine zaB ?_ | refine zax ?_ | refine zaH ?_ | refine zaM ?_ | refine zak (λ R hR=>?_) | refine zaj ?_ | refine zan ?_ | refine zbO ?_ | refine zav ?_ | refine zap ?_)
 | ((with_reducible refine zaz [] ?hx ?_);(case hx=>exact rfl))
 | (revert hF;(with_reducible refine G61.lend ?hx ?_);(case hx=>exact rfl);intro v hF;conv=>whnf)
 | (cases hF;(refine Or.inl ?_);(conv=>whnf);exact ⟨rfl,rfl,rfl⟩)
 | (revert hF;(refine zdE (eK := strN) (eV := iN) zaD ?hk ?hz ?hd ?he ?_);(case hk=>exact λ _=>rfl);(case hz=>exact rfl);(case hd=>exact rfl);(case he=>exact rfl);intro x hF;conv=>whnf)
 | (revert hF;(refine zaG (eK := strN) (eM := EditionM.m) zaD ?hk ?hd ?he ?_ ?_);(case hk=>exact λ _=>rfl);(case hd=>exact rfl);(case he=>exact rfl);(intro hl hF;conv=>whnf);rotate_left;(intro i hl hF;conv=>whnf);rotate_right)
 | ((refine zet (eK := strN) (eM := EditionM.m) zaD (λ _=>rfl) (by exact rfl) (by exact rfl) (by assumption) ?_);conv=>whnf)
 | ((refine zaO rfl (by assumption) (by exact rfl) ?_);conv=>whnf)
 | ((with_reducible have hG := za7 hF);clear hF;(obtain ⟨⟨x,hx,hF⟩⟩ := hG);first | ((refine zaO rfl hx (by exact rfl) ?_);conv=>whnf) | skip)
 | ((refine ⟨(by first | exact zal | exact za8 (by decide) zal), ?_⟩);conv=>whnf)
 | ((with_reducible refine zbZ ?hx ?_);(case hx=>first | exact rfl | assumption | exact notF (by assumption));conv=>whnf)
 | ((refine zae 1101 1102000000 rfl rfl (Nat.le_of_ble_eq_true rfl) rfl (λ R hR=>?_));(conv=>whnf);(with_reducible refine hR _ ?ha ?_);(case ha=>exact rfl);clear R hR)
 | ((refine zae 1502 1503000000 rfl rfl (Nat.le_of_ble_eq_true rfl) rfl (λ R hR=>?_));(conv=>whnf);(with_reducible refine hR _ ?ha ?_);(case ha=>exact rfl);clear R hR)
 | ((refine zae 1503000101 1503000102000000 rfl rfl (Nat.le_of_ble_eq_true rfl) rfl (λ R hR=>?_));(conv=>whnf);(with_reducible refine hR _ ?ha ?_);(case ha=>exact rfl);clear R hR)
 | (show Kinl _ _ _ _ _ _ _;conv=>whnf)
 | ((with_reducible refine zbt ?ha ?hb ?_);(case ha=>exact rfl);(case hb=>exact rfl);conv=>whnf)
 | with_reducible refine zbe ?_)
theorem P36 : CallOK Tryz.prog 36 (effPg znx G36) := zbE Q36
def f40b (self : ByteArray -> LB -> LS -> LE -> LC -> Option (Int × Int)) (N : Nat) (s0 : ByteArray) (s1 : LB) (s2 : LS) (s3 : LE) (s4 : LC) : Option (Int × Int) :=
 (f61 N s0).bind λ x1 =>
 bif !x1 then (some ((0 : Int),(8 : Int)))
 else (onO (zbF s0 s3) (some ((0 : Int),(5 : Int))) λ x2 =>
 (getF s3 x2).bind λ x3 =>
 (f64 N x3 x3.from_).bind λ x4 =>
 some (max (0 : Int) (W (x3.open_ - x4)),(0 : Int)))
def f40 : Nat -> ByteArray -> LB -> LS -> LE -> LC -> Option (Int × Int)
 | 0,_,_,_,_,_=>none
 | N + 1,s0,s1,s2,s3,s4=>f40b (f40 N) N s0 s1 s2 s3 s4
def Af40 (s0 : ByteArray) (s1 : LB) (s2 : LS) (s3 : LE) (s4 : LC) : List SV := [.ptr 0 0, .dat (strN s0)]
def Bf40 (s0 : ByteArray) (s1 : LB) (s2 : LS) (s3 : LE) (s4 : LC) : List Blk := [.box [.ptr 1 0, .rs 2 (List.length s1)], .box [.mp 3, .mp 4, .mp 5],(rW s1),(sW [4] s2),(eW s3),(mW s4)]
def Rf40 (y : Int × Int) : List SV := [.dat (iN y.1), .dat (iN y.2)]
def B1f40 (s0 : ByteArray) (s1 : LB) (s2 : LS) (s3 : LE) (s4 : LC) (y : Int × Int) : List Blk := [.box [.ptr 1 0, .rs 2 (List.length s1)], .box [.mp 3, .mp 4, .mp 5],(rW s1),(sW [4] s2),(eW s3),(mW s4)]
def BZf40 (y : Int × Int) : List Blk := []
def zny : Spec (ByteArray × LB × LS × LE × LC) (Int × Int) := ⟨6,[],λ x=>Af40 x.1 x.2.1 x.2.2.1 x.2.2.2.1 x.2.2.2.2,λ x=>Bf40 x.1 x.2.1 x.2.2.1 x.2.2.2.1 x.2.2.2.2,λ _ y=>Rf40 y,λ x y=>B1f40 x.1 x.2.1 x.2.2.1 x.2.2.2.1 x.2.2.2.2 y,λ _ y=>BZf40 y⟩
def H40 (N : Nat) (x : ByteArray × LB × LS × LE × LC) (y : Int × Int) : Prop := f40 N x.1 x.2.1 x.2.2.1 x.2.2.2.1 x.2.2.2.2 = some y
def G40 (x : ByteArray × LB × LS × LE × LC) (y : Int × Int) : Prop := ∃ N,H40 N x y
theorem G40.step {s0 s1 s2 s3 s4} {A : _ -> Option ρ} (ha : xs = [.ptr k0 0, .dat (strN s0)]) (b0 : m k0 = .box [.ptr k1 0, .rs k2 m0]) (b1 : m k1 = .box [.mp k3, .mp k4, .mp k5]) (b2 : m k2 = (rW s1)) (b3 : m k3 = (sW [k4] s2)) (b4 : m k4 = (eW s3)) (b5 : m k5 = (mW s4)) (em0 : m0 = List.length s1) (hu : True) (hn : za6 [k0,k1,k2,k3,k4,k5] = true) (h : ∀ y,A y = some q -> K ⟨.tup [.dat (iN y.1), .dat (iN y.2)],[(k0, .box [.ptr k1 0, .rs k2 (List.length s1)]),(k1, .box [.mp k3, .mp k4, .mp k5]),(k2,(rW s1)),(k3,(sW [k4] s2)),(k4,(eW s3)),(k5,(mW s4))]⟩ ([Loc.b k0,Loc.b k1,Loc.b k2,Loc.b k3,Loc.b k4,Loc.b k5] ++ l)) (hF : (f40 N s0 s1 s2 s3 s4).bind A = some q) : effPg zny (G40) xs id (λ _=>SV.no) m l K := by
 subst em0;obtain ⟨y,hy,hA⟩ := bind_some hF;exact zaU [k0,k1,k2,k3,k4,k5] (s0,s1,s2,s3,s4) y _ ⟨N,hy⟩ rfl hn ha (by simp only [List.map_cons,List.map_nil,b0,b1,b2,b3,b4,b5];rfl) rfl rfl rfl (h y hA)
def Srf40 : Ann := ⟨[0,1],[0,1,2,3,4,5],[],[]⟩
def zrS : Ann := ⟨[0,1],[0,1,2,3,4,5],[],[]⟩
set_option maxRecDepth 20000 in
set_option maxHeartbeats 4000000 in
theorem Q40 (N : Nat) : CallOK Tryz.prog 40 (effPg zny (H40 N)) := by
 induction N with
 | zero=>exact zaX λ x y h=>(by cases (show (none : Option (Int × Int)) = some y from h))
 | succ N ih =>
  refine zaF (c := zar zah [(40,true,effPg zny (H40 N)),(62,false,zba (zar zah [(53,false,zba (zar zah []) Tryz.f53),(61,true,lendPg [[0]] G61)]) Tryz.f62),(64,true,lendPg [[0],[0]] G64)]) rfl tyOK (zao (zaa Tryz.func40 rfl rfl) ih (zaw (zaa Tryz.func62 rfl rfl) (CallOK.inl rfl tyOK (zaw (zaa Tryz.func53 rfl rfl) (CallOK.inl rfl tyOK (zac) Tryz.func53 (by kernel_rfl)) (zaJ (zaa Tryz.func61 rfl rfl) P61 (zac))) Tryz.func62 (by kernel_rfl)) (zaJ (zaa Tryz.func64 rfl rfl) P64 (zac)))) 1000 Srf40 zrS Tryz.func40 rfl rfl (by kernel_rfl) rfl rfl rfl rfl rfl rfl rfl rfl (λ _=>rfl) (λ _=>rfl) (λ _ _=>⟨rfl,rfl⟩) ?_;rintro ⟨s0,s1,s2,s3,s4⟩ y hF;have hF : f40b (f40 N) N s0 s1 s2 s3 s4 = some y := hF;show vc _ _ _ _ ⟨[(0, .ptr 0 0),(1, .dat (strN s0))],[(0, .box [.ptr 1 0, .rs 2 (List.length s1)]),(1, .box [.mp 3, .mp 4, .mp 5]),(2,(rW s1)),(3,(sW [4] s2)),(4,(eW s3)),(5,(mW s4))]⟩ _;unfold f40b at hF
  repeat' (first
 | ((with_reducible first | refine q0 _ _ ?_ | refine q1 _ _ _ _ ?_ | refine q2 _ _ _ ?_);clear Q q0 q1 q2)
 | ((with_reducible first | refine zaI ?hx (λ Q q0 q1 q2=>?_) | refine za2 ?hx (λ Q q0 q1 q2=>?_));(case hx=>exact rfl);conv=>whnf)
 | ((with_reducible first | refine zbT ?hx ?_ | refine zbw ?hx ?_ | refine zcF ?hx ?_ | refine zcf ?hx ?_ | refine zbf ?hx ?_ | refine zbv ?hx ?_);(case hx=>exact rfl))
 | ((with_reducible refine zaP ?_);(first | ((refine zbb rfl ?hy ?_);(case hy=>first | assumption | exact notT (by assumption) | exact rfl)) | ((refine zbc rfl ?hy ?_);(case hy=>first | assumption | exact notF (by assumption) | exact rfl)) | (revert hF;(with_reducible refine zbP ?hx ?_ ?_);(case hx=>exact rfl);all_goals (intro hc hF))))
 | ((with_reducible refine zay ?_);(first | ((with_reducible refine hR _ ?_);clear R hR) | ((with_reducible refine hL _ ?_);clear L hL)))
 | ((with_reducible refine zaR ?_);(with_reducible refine hR _ _ ?hx ?_);(case hx=>kernel_rfl);clear R hR)
 | ((with_reducible first | refine zaK ?_ | refine zbm ?_);conv=>whnf)
 | (with_reducible first | refine zaB ?_ | refine zax ?_ | refine zaH ?_ | refine zaM ?_ | refine zak (λ R hR=>?_) | refine zaj ?_ | refine zan ?_ | refine zbO ?_ | refine zav ?_ | refine zap ?_)
 | ((with_reducible refine zaz [] ?hx ?_);(case hx=>exact rfl))
 | ((with_reducible refine za4 ?hx (λ R L hL hR=>?_));(case hx=>exact rfl))
 | (revert hF;(with_reducible refine G61.lend ?hx ?_);(case hx=>exact rfl);intro v hF;conv=>whnf)
 | (revert hF;(with_reducible refine G64.lend ?hx ?_);(case hx=>exact rfl);intro v hF;conv=>whnf)
 | (cases hF;(refine Or.inl ?_);(conv=>whnf);exact ⟨rfl,rfl,rfl⟩)
 | (revert hF;(refine zaG (eK := strN) (eM := EditionM.m) zaD ?hk ?hd ?he ?_ ?_);(case hk=>exact λ _=>rfl);(case hd=>exact rfl);(case he=>exact rfl);(intro hl hF;conv=>whnf);rotate_left;(intro i hl hF;conv=>whnf);rotate_right)
 | ((refine zet (eK := strN) (eM := EditionM.m) zaD (λ _=>rfl) (by exact rfl) (by exact rfl) (by assumption) ?_);conv=>whnf)
 | ((refine zaO rfl (by assumption) (by exact rfl) ?_);conv=>whnf)
 | ((with_reducible have hG := za7 hF);clear hF;(obtain ⟨⟨x,hx,hF⟩⟩ := hG);first | ((refine zaO rfl hx (by exact rfl) ?_);conv=>whnf) | skip)
 | ((refine zdT rfl (by assumption) (λ key=>?_));conv=>whnf)
 | ((with_reducible refine zcq ?_);conv=>whnf)
 | ((with_reducible refine zbZ ?hx ?_);(case hx=>first | exact rfl | assumption | exact notF (by assumption));conv=>whnf)
 | ((refine zae 1102 1103000000 rfl rfl (Nat.le_of_ble_eq_true rfl) rfl (λ R hR=>?_));(conv=>whnf);(with_reducible refine hR _ ?ha ?_);(case ha=>exact rfl);clear R hR)
 | ((refine zae 1103000101 zr7 rfl rfl (Nat.le_of_ble_eq_true rfl) rfl (λ R hR=>?_));(conv=>whnf);(with_reducible refine hR _ ?ha ?_);(case ha=>exact rfl);clear R hR)
 | (show Kinl _ _ _ _ _ _ _;conv=>whnf)
 | ((with_reducible refine zbt ?ha ?hb ?_);(case ha=>exact rfl);(case hb=>exact rfl);conv=>whnf)
 | with_reducible refine zbe ?_)
theorem P40 : CallOK Tryz.prog 40 (effPg zny G40) := zbE Q40

end Go.Vc
namespace Go.Vc
open Go.Proofs
variable {N id : Nat} {ρ : Type} {q : ρ} {xs : List SV} {m : Nat -> Blk} {l : List Loc} {ds : List D} {K : Dl -> List Loc -> Prop} {k0 k1 k2 k3 k4 k5 k6 k7 k8 k9 k10 k11 k12 k13 k14 k15 m0 m1 m2 m3 m4 m5 : Nat}
def zeS (N : Nat) (x1 : LB × Bool) (b2500 : List Int) : Option (I97 × Int) :=
 (A2iN.of b2500).bind λ x2 =>
 (f108 N x1.1 x2).bind λ x3 =>
 some (x3,(0 : Int))
def zhG (N : Nat) (x1 : LB × Bool) (b2500 : List Int) : Lp (Unit) Unit (I97 × Int) := lp0 ⟨[4,8],[2500],[],[]⟩ (λ _=>[.dat (zbA x1.1), .ptr 2500 0]) (λ _=>[.arr (List.map iN b2500)]) (λ _=>zeS N x1 b2500)
instance Ef79_c47 {N x1 b2500} : IsLp 0 0 (zeS N x1 b2500) (zhG N x1 b2500) () := ⟨rfl⟩
instance Cf79_c47 {N x1 b2500} : IsCut 0 (zeS N x1 b2500) (zhG N x1 b2500) 47 := ⟨⟩
def znz (r42 : Int -> Option (I97 × Int)) (x1 : LB × Bool) (v7 : Int) (b2500 : List Int) (v11 : Int) (v12 : Int) (k0 : Option (I97 × Int)) (v94 : Int) : Option (I97 × Int) :=
 bif decide (v94 < (Int.toNat v7 : Int)) then ((chkI (Int.toNat v7) v94).bind λ _ =>
 (ixN b2500 (Int.toNat v94)).bind λ x4 =>
 bif decide (x4 < v11) then (some (I97.nil,(4 : Int)))
 else (bif decide (v12 < x4) then (some (I97.nil,(4 : Int)))
 else (r42 (W (v94 + (1 : Int))))))
 else k0
def zjc (x1 : LB × Bool) (v7 : Int) (b2500 : List Int) (v11 : Int) (v12 : Int) (k0 : Option (I97 × Int)) : Nat -> Int -> Option (I97 × Int)
 | 0,_=>none
 | n + 1,v94=>znz (zjc x1 v7 b2500 v11 v12 k0 n) x1 v7 b2500 v11 v12 k0 v94
def znA (x1 : LB × Bool) (v7 : Int) (b2500 : List Int) (v11 : Int) (v12 : Int) (k0 : Option (I97 × Int)) : Lp (Nat × Int) Unit (I97 × Int) := lp0 ⟨[4,8,11,12,92,93,94],[2500],[],[]⟩ (λ (_,v94)=>[.dat (zbA x1.1), .ptr 2500 0, .dat (iN v11), .dat (iN v12), .as 2500 (Int.toNat v7), .dat (iN (Int.toNat v7 : Int)), .dat (iN v94)]) (λ (_,_)=>[.arr (List.map iN b2500)]) (λ (n,v94)=>zjc x1 v7 b2500 v11 v12 k0 n v94)
instance Ef79_42 {x1 v7 b2500 v11 v12 k0 n v94} : IsLp 0 1 (zjc x1 v7 b2500 v11 v12 k0 n v94) (znA x1 v7 b2500 v11 v12 k0) (n,v94) := ⟨rfl⟩
def zf1 (N : Nat) (x1 : LB × Bool) (v7 : Int) (b2500 : List Int) (v11 : Int) (v12 : Int) : Option (I97 × Int) :=
 zbM (zeS N x1 b2500) λ k0 =>
 (arS 2 v7).bind λ _ =>
 zjc x1 v7 b2500 v11 v12 k0 N (0 : Int)
def zhH (N : Nat) (x1 : LB × Bool) (v7 : Int) (b2500 : List Int) : Lp (Int × Int) Unit (I97 × Int) := lp0 ⟨[4,7,8,11,12],[2500],[],[]⟩ (λ (v11,v12)=>[.dat (zbA x1.1), .dat (iN v7), .ptr 2500 0, .dat (iN v11), .dat (iN v12)]) (λ (_,_)=>[.arr (List.map iN b2500)]) (λ (v11,v12)=>zf1 N x1 v7 b2500 v11 v12)
instance Ef79_c41 {N x1 v7 b2500 v11 v12} : IsLp 0 2 (zf1 N x1 v7 b2500 v11 v12) (zhH N x1 v7 b2500) (v11,v12) := ⟨rfl⟩
instance Cf79_c41 {N x1 v7 b2500} : IsCut 2 (zf1 N x1 v7 b2500) (zhH N x1 v7 b2500) 41 := ⟨⟩
def zeT (N : Nat) (x1 : LB × Bool) (v7 : Int) (b2500 : List Int) : Option (I97 × Int) :=
 zbM (zf1 N x1 v7 b2500) λ k1 =>
 (ix x1.1 (0 : Int)).bind λ x5 =>
 bif decide (x5 = (strC [112,114,105,110,116])) then (k1 (0 : Int) (5000 : Int))
 else (bif decide (x5 = (strC [115,116,111,110,101])) then (k1 (1 : Int) (99 : Int))
 else (k1 (1 : Int) (5000 : Int)))
def zhI (N : Nat) (x1 : LB × Bool) (v7 : Int) (b2500 : List Int) : Lp (Unit) Unit (I97 × Int) := lp0 ⟨[4,7,8],[2500],[],[]⟩ (λ _=>[.dat (zbA x1.1), .dat (iN v7), .ptr 2500 0]) (λ _=>[.arr (List.map iN b2500)]) (λ _=>zeT N x1 v7 b2500)
instance Ef79_c35 {N x1 v7 b2500} : IsLp 0 0 (zeT N x1 v7 b2500) (zhI N x1 v7 b2500) () := ⟨rfl⟩
instance Cf79_c35 {N x1 v7 b2500} : IsCut 0 (zeT N x1 v7 b2500) (zhI N x1 v7 b2500) 35 := ⟨⟩
def zaT (b2500 : List Int) (k2 : Option (I97 × Int)) : Option (I97 × Int) :=
 k2
def zbB (b2500 : List Int) (k2 : Option (I97 × Int)) : Lp (Unit) Unit (I97 × Int) := lp0 ⟨[],[2500],[],[]⟩ (λ _=>[]) (λ _=>[.arr (List.map iN b2500)]) (λ _=>zaT b2500 k2)
instance zgq {b2500 k2} : IsLp 0 0 (zaT b2500 k2) (zbB b2500 k2) () := ⟨rfl⟩
instance zgr {b2500 k2} : IsCut 0 (zaT b2500 k2) (zbB b2500 k2) 3305000103000000007 := ⟨⟩
def zcb (r2 : Int -> Option (I97 × Int)) (N : Nat) (b2500 : List Int) (k2 : Option (I97 × Int)) (x6 : LB) (k3 : Option (I97 × Int)) (v8 : Int) : Option (I97 × Int) :=
 bif decide (v8 < (List.length x6 : Int)) then ((ix x6 v8).bind λ x7 =>
 (f107 N x7).bind λ x8 =>
 bif x8 then (bif decide ((0 : Int) <= v8) then (some (I97.nil,(8 : Int)))
 else k2)
 else (r2 (W (v8 + (1 : Int)))))
 else k3
def za9 (N : Nat) (b2500 : List Int) (k2 : Option (I97 × Int)) (x6 : LB) (k3 : Option (I97 × Int)) : Nat -> Int -> Option (I97 × Int)
 | 0,_=>none
 | n + 1,v8=>zcb (za9 N b2500 k2 x6 k3 n) N b2500 k2 x6 k3 v8
def zcc (N : Nat) (b2500 : List Int) (k2 : Option (I97 × Int)) (x6 : LB) (k3 : Option (I97 × Int)) : Lp (Nat × Int) Unit (I97 × Int) := lp0 ⟨[0,1,7,8],[2500],[],[]⟩ (λ (_,v8)=>[.dat (zbA x6), .dat (.v (.func (.func 107) #[] #[])), .dat (iN (List.length x6 : Int)), .dat (iN v8)]) (λ (_,_)=>[.arr (List.map iN b2500)]) (λ (n,v8)=>za9 N b2500 k2 x6 k3 n v8)
instance zgU {N b2500 k2 x6 k3 n v8} : IsLp 0 1 (za9 N b2500 k2 x6 k3 n v8) (zcc N b2500 k2 x6 k3) (n,v8) := ⟨rfl⟩
def zf2 (N : Nat) (x1 : LB × Bool) (v6 : Int) (v7 : Int) (b2500 : List Int) : Option (I97 × Int) :=
 zbM (zeT N x1 v7 b2500) λ k2 =>
 (sub x1.1 (1 : Int) (W ((1 : Int) + v6))).bind λ x6 =>
 zbM (zaT b2500 k2) λ k3 =>
 za9 N b2500 k2 x6 k3 N (0 : Int)
def zhJ (N : Nat) (x1 : LB × Bool) (v6 : Int) (v7 : Int) : Lp ((List Int)) Unit (I97 × Int) := lp0 ⟨[4,6,7,8],[2500],[],[]⟩ (λ _=>[.dat (zbA x1.1), .dat (iN v6), .dat (iN v7), .ptr 2500 0]) (λ b2500=>[.arr (List.map iN b2500)]) (λ b2500=>zf2 N x1 v6 v7 b2500)
instance Ef79_c33 {N x1 v6 v7 b2500} : IsLp 0 1 (zf2 N x1 v6 v7 b2500) (zhJ N x1 v6 v7) b2500 := ⟨rfl⟩
instance Cf79_c33 {N x1 v6 v7} : IsCut 1 (zf2 N x1 v6 v7) (zhJ N x1 v6 v7) 33 := ⟨⟩
def znB (r27 : Int -> (List Int) -> Option (I97 × Int)) (N : Nat) (x1 : LB × Bool) (v6 : Int) (v7 : Int) (k4 : (List Int) -> Option (I97 × Int)) (x9 : LB) (v64 : Int) (b2500 : List Int) : Option (I97 × Int) :=
 bif decide (v64 < (List.length x9 : Int)) then ((ix x9 v64).bind λ x10 =>
 (f105 N x10).bind λ x11 =>
 (chkI 2 v64).bind λ _ =>
 (setN b2500 (Int.toNat v64) x11.1).bind λ x12 =>
 bif !x11.2 then (some (I97.nil,(9 : Int)))
 else (r27 (W (v64 + (1 : Int))) x12))
 else (k4 b2500)
def zjd (N : Nat) (x1 : LB × Bool) (v6 : Int) (v7 : Int) (k4 : (List Int) -> Option (I97 × Int)) (x9 : LB) : Nat -> Int -> (List Int) -> Option (I97 × Int)
 | 0,_,_=>none
 | n + 1,v64,b2500=>znB (zjd N x1 v6 v7 k4 x9 n) N x1 v6 v7 k4 x9 v64 b2500
def znC (N : Nat) (x1 : LB × Bool) (v6 : Int) (v7 : Int) (k4 : (List Int) -> Option (I97 × Int)) (x9 : LB) : Lp (Nat × Int × (List Int)) Unit (I97 × Int) := lp0 ⟨[4,6,7,8,62,63,64],[2500],[],[]⟩ (λ (_,v64,_)=>[.dat (zbA x1.1), .dat (iN v6), .dat (iN v7), .ptr 2500 0, .dat (zbA x9), .dat (iN (List.length x9 : Int)), .dat (iN v64)]) (λ (_,_,b2500)=>[.arr (List.map iN b2500)]) (λ (n,v64,b2500)=>zjd N x1 v6 v7 k4 x9 n v64 b2500)
instance Ef79_27 {N x1 v6 v7 k4 x9 n v64 b2500} : IsLp 0 2 (zjd N x1 v6 v7 k4 x9 n v64 b2500) (znC N x1 v6 v7 k4 x9) (n,v64,b2500) := ⟨rfl⟩
def zf3 (N : Nat) (x1 : LB × Bool) (v6 : Int) (v7 : Int) : Option (I97 × Int) :=
 bif decide (¬ (List.length x1.1 : Int) = (W ((W ((1 : Int) + v6)) + v7))) then (some (I97.nil,(9 : Int)))
 else (zbM (zf2 N x1 v6 v7) λ k4 =>
 (sub x1.1 (W ((1 : Int) + v6)) (List.length x1.1 : Int)).bind λ x9 =>
 zjd N x1 v6 v7 k4 x9 N (0 : Int) (List.replicate 2 (0 : Int)))
def zhK (N : Nat) (x1 : LB × Bool) : Lp (Int × Int) Unit (I97 × Int) := lp0 ⟨[4,6,7],[],[],[]⟩ (λ (v6,v7)=>[.dat (zbA x1.1), .dat (iN v6), .dat (iN v7)]) (λ (_,_)=>[]) (λ (v6,v7)=>zf3 N x1 v6 v7)
instance Ef79_c23 {N x1 v6 v7} : IsLp 0 2 (zf3 N x1 v6 v7) (zhK N x1) (v6,v7) := ⟨rfl⟩
instance Cf79_c23 {N x1} : IsCut 2 (zf3 N x1) (zhK N x1) 23 := ⟨⟩
def f79 (N : Nat) (a0 : ByteArray) : Option (I97 × Int) :=
 bif decide ((40 : Int) < (ByteArray.size a0 : Int)) then (some (I97.nil,(19 : Int)))
 else ((f104 N a0).bind λ x1 =>
 bif !x1.2 then (some (I97.nil,(9 : Int)))
 else (zbM (zf3 N x1) λ k5 =>
 (ix x1.1 (0 : Int)).bind λ x13 =>
 bif decide (x13 = (strC [112,114,105,110,116])) then (k5 (W ((0 : Int) + (1 : Int))) (W ((W ((0 : Int) + (1 : Int))) + (1 : Int))))
 else (bif decide (x13 = (strC [115,116,111,110,101])) then (k5 (W ((0 : Int) + (1 : Int))) (W ((0 : Int) + (1 : Int))))
 else (bif decide (x13 = (strC [112,97,112,101,114])) then (k5 (W ((0 : Int) + (1 : Int))) (W ((0 : Int) + (1 : Int))))
 else (bif decide (x13 = (strC [101,100,105,116,105,111,110])) then (k5 (W ((0 : Int) + (1 : Int))) (0 : Int))
 else (bif decide (x13 = (strC [99,108,111,115,101])) then (k5 (W ((0 : Int) + (1 : Int))) (0 : Int))
 else (bif decide (x13 = (strC [103,114,105,110,100])) then (k5 (W ((0 : Int) + (1 : Int))) (0 : Int))
 else (bif decide (x13 = (strC [99,108,97,105,109])) then (k5 (W ((0 : Int) + (2 : Int))) (W ((0 : Int) + (1 : Int))))
 else (bif decide (x13 = (strC [100,101,108,105,118,101,114])) then (k5 (W ((0 : Int) + (2 : Int))) (W ((0 : Int) + (1 : Int))))
 else (bif decide (x13 = (strC [100,114,97,119])) then (k5 (W ((0 : Int) + (2 : Int))) (0 : Int))
 else (some (I97.nil,(10 : Int)))))))))))))
def G79 (ds : List D) (d : D) : Prop := ∃ (N : Nat) (a0 : ByteArray) (r : I97 × Int),ds = [strN a0] /\ f79 N a0 = some r /\ d = .tup [I97.d r.1,iN r.2]
theorem G79.step {a0} {A : _ -> Option ρ} {K : D -> Prop} (hd : ds = [strN a0]) (h : ∀ r,A r = some q -> K (.tup [I97.d r.1,iN r.2])) (hF : (f79 N a0).bind A = some q) : ∃ d,G79 ds d /\ K d := by
 obtain ⟨r,hr,hA⟩ := bind_some hF;exact ⟨_,⟨N,a0,r,hd,hr,rfl⟩,h r hA⟩
set_option maxRecDepth 20000 in
set_option maxHeartbeats 4000000 in
theorem P79 : PureOK Tryz.prog 79 G79 := by
 refine zaE (c := zar zah [(106,false,zba (zar zah [(138,false,zba (zar zah [(107,true,lendPg [[0]] G107)]) Tryz.f138)]) Tryz.f106),(108,true,zdt [[1],[0,0]] G108),(105,true,lendPg [[0]] G105),(104,true,zdt [[0]] G104)]) rfl tyOK (zaw (zaa Tryz.func106 rfl rfl) (CallOK.inl rfl tyOK (zaw (zaa Tryz.func138 rfl rfl) (CallOK.inl rfl tyOK (zaJ (zaa Tryz.func107 rfl rfl) P107 (zac)) Tryz.func138 (by kernel_rfl)) (zac)) Tryz.func106 (by kernel_rfl)) (zcI (zaa Tryz.func108 rfl rfl) P108 (zaJ (zaa Tryz.func105 rfl rfl) P105 (zcI (zaa Tryz.func104 rfl rfl) P104 (zac))))) [[0],[0]] 1 Tryz.func79 rfl rfl (by decide) (by kernel_rfl) ?_;rintro ds d ⟨N,a0,r,rfl,hF,rfl⟩ hok;clear hok;refine ⟨rfl, ?_⟩;show vc _ _ _ _ ⟨[(0, .dat (strN a0))],[]⟩ _;unfold f79 at hF
 repeat' (first
 | ((with_reducible first | refine q0 _ _ ?_ | refine q1 _ _ _ _ ?_ | refine q2 _ _ _ ?_);clear Q q0 q1 q2)
 | ((with_reducible first | refine zaI ?hx (λ Q q0 q1 q2=>?_) | refine zby ?hx (λ Q q0 q1 q2=>?_));(case hx=>exact rfl);conv=>whnf)
 | ((with_reducible first | refine zbT ?hx ?_ | refine zbw ?hx ?_ | refine zbf ?hx ?_ | refine zbv ?hx ?_);(case hx=>exact rfl))
 | ((with_reducible refine zc5 ?_);(first | ((first | refine zcB rfl ?hy (λ Q q0 q1 q2=>?_) | refine zb4 rfl ?hy (λ Q q0 q1 q2=>?_));(case hy=>first | assumption | exact notT (by assumption) | exact rfl);conv=>whnf) | ((first | refine zb3 rfl ?hy ?_ | refine zbQ rfl ?hy ?_);(case hy=>first | assumption | exact notF (by assumption) | exact rfl)) | (revert hF;(with_reducible first | refine zcC ?hx ?_ ?_ | refine zb5 ?hx ?_ ?_);(case hx=>exact rfl);(intro hc hF Q q0 q1 q2;conv=>whnf);rotate_left;(intro hc hF);rotate_right) | (revert hF;(with_reducible first | refine zcD ?hx ?_ ?_ | refine zb6 ?hx ?_ ?_);(case hx=>exact rfl);(intro hc hF);rotate_left;(intro hc hF Q q0 q1 q2;conv=>whnf);rotate_right)))
 | ((with_reducible refine zaP ?_);(first | ((refine zbb rfl ?hy ?_);(case hy=>first | assumption | exact notT (by assumption) | exact rfl)) | ((refine zbc rfl ?hy ?_);(case hy=>first | assumption | exact notF (by assumption) | exact rfl)) | (revert hF;(with_reducible refine zbP ?hx ?_ ?_);(case hx=>exact rfl);all_goals (intro hc hF))))
 | ((with_reducible refine zay ?_);(first | ((with_reducible refine hR _ ?_);clear R hR) | ((with_reducible refine hL _ ?_);clear L hL)))
 | ((with_reducible first | refine zaK ?_ | refine zbm ?_ | refine idx2 (by assumption) ?_ | refine idx3 (by assumption) ?_);conv=>whnf)
 | (with_reducible first | refine zaB ?_ | refine zax ?_ | refine zaH ?_ | refine zaM ?_ | refine zak (λ R hR=>?_) | refine zaj ?_ | refine zan ?_ | refine zbO ?_ | refine zav ?_ | refine zap ?_ | refine zaW ?_ | refine zaN ?_)
 | ((with_reducible refine zaz [47,41,35,3305000103000000007,33,23] ?hx ?_);(case hx=>exact rfl))
 | ((with_reducible replace hF := isE hF);(dsimp only [zhG,znA,zhH,zhI,zbB,zcc,zhJ,znC,zhK,zjc,za9,zjd] at hF);first | ((with_reducible replace hF := chkE (e := zeS ..) hF);rewrite [zeS] at hF) | ((with_reducible replace hF := chkE (e := zeT ..) hF);rewrite [zeT] at hF) | ((with_reducible replace hF := chkE (e := zaT ..) hF);rewrite [zaT] at hF) | rewrite [znz] at hF | rewrite [zf1] at hF | rewrite [zcb] at hF | rewrite [zf2] at hF | rewrite [znB] at hF | rewrite [zf3] at hF)
 | ((with_reducible refine zbn ?_);(with_reducible replace hF := zcA 0 hF);((refine Lp.cutI hF rfl rfl ?_ ?_) <;> clear hF);(intro hF);rotate_left;(rintro _ hF);rotate_right)
 | ((with_reducible refine zbd ?_);(with_reducible replace hF := toLp 0 0 hF);exact Lp.headI hF () ⟨_,rfl,rfl,rfl,rfl⟩ rfl)
 | ((with_reducible refine zbr ?_);(with_reducible replace hF := toLp 0 1 hF);((refine Lp.loopI hF () rfl ⟨_,rfl,rfl,rfl,rfl⟩ rfl (λ _=>rfl) ?_);clear hF);(rintro n _ hF))
 | ((with_reducible refine zbs ?_);(with_reducible replace hF := toLp 0 1 hF);exact Lp.backI hF () ⟨_,rfl,rfl,rfl,rfl⟩ rfl)
 | ((with_reducible refine zbn ?_);(with_reducible replace hF := zcA 2 hF);((refine Lp.cutI hF rfl rfl ?_ ?_) <;> clear hF);(intro hF);rotate_left;(rintro ⟨_,_⟩ hF);rotate_right)
 | ((with_reducible refine zbd ?_);(with_reducible replace hF := toLp 0 2 hF);exact Lp.headI hF () ⟨_,rfl,rfl,rfl,rfl⟩ rfl)
 | ((with_reducible refine zbn ?_);(with_reducible replace hF := zcA 1 hF);((refine Lp.cutI hF rfl rfl ?_ ?_) <;> clear hF);(intro hF);rotate_left;(rintro _ hF);rotate_right)
 | ((with_reducible refine zbd ?_);(with_reducible replace hF := toLp 0 1 hF);exact Lp.headI hF () ⟨_,rfl,rfl,rfl,rfl⟩ rfl)
 | ((with_reducible refine zbr ?_);(with_reducible replace hF := toLp 0 2 hF);((refine Lp.loopI hF () rfl ⟨_,rfl,rfl,rfl,rfl⟩ rfl (λ _=>rfl) ?_);clear hF);(rintro n ⟨_,_⟩ hF))
 | ((with_reducible refine zbs ?_);(with_reducible replace hF := toLp 0 2 hF);exact Lp.backI hF () ⟨_,rfl,rfl,rfl,rfl⟩ rfl)
 | (revert hF;(with_reducible refine G104.step ?hx ?_);(case hx=>exact rfl);intro v hF;conv=>whnf)
 | (revert hF;(with_reducible refine G105.lend ?hx ?_);(case hx=>exact rfl);intro v hF;conv=>whnf)
 | (revert hF;(with_reducible refine G107.lend ?hx ?_);(case hx=>exact rfl);intro v hF;conv=>whnf)
 | (revert hF;(with_reducible refine G108.step ?hx ?_);(case hx=>exact rfl);intro v hF;conv=>whnf)
 | ((refine Or.inr ?_);(conv=>whnf);(with_reducible refine zgJ (List.map iN (List.replicate 2 (0 : Int))) ?hx ?_);(case hx=>(unfold zkW;kernel_rfl));conv=>whnf)
 | ((with_reducible have hI := zqH hF);clear hI;revert hF;(refine zoE (by decide) ?_);intro hF;conv=>whnf)
 | (revert hF;(refine A2iN.of_step ?_);intro x hF;conv=>whnf)
 | ((with_reducible refine zmP hF ?_);(clear hF;intro hF;conv=>whnf))
 | ((with_reducible have hG := zkC hF);clear hF;(first | (refine zmQ hG (by (try simp only [W]);omega) (λ x hF=>?_)) | (refine zmR hG (λ _=>rfl) (by (try simp only [W]);omega) (λ x hF=>?_)));clear hG;conv=>whnf)
 | ((with_reducible have hG := ziE hF);clear hF;(first | (refine zkD hG (by (try simp only [W]);omega) rfl rfl (λ q hF=>?_)) | (refine zkE hG (λ _=>rfl) (by (try simp only [W]);omega) rfl rfl (λ q hF=>?_)));clear hG;conv=>whnf)
 | (revert hF;(with_reducible refine idx1 ?hn ?_);(case hn=>first | exact rfl | exact (List.length_map _) | assumption | omega | simp);intro x hx hF;conv=>whnf)
 | ((with_reducible have hG := zhr hF);clear hF;(refine zkB hG (λ q hF=>?_));clear hG;conv=>whnf)
 | ((with_reducible refine zcq ?_);conv=>whnf)
 | ((with_reducible refine zcR ?hx ?_);(case hx=>first | exact rfl | assumption | exact notT (by assumption));conv=>whnf)
 | ((with_reducible refine zbZ ?hx ?_);(case hx=>first | exact rfl | assumption | exact notF (by assumption));conv=>whnf)
 | (show retD _ _ _ _ _ _;conv=>whnf)
 | ((refine zae 3304 3305000000 rfl rfl (Nat.le_of_ble_eq_true rfl) rfl (λ R hR=>?_));(conv=>whnf);(with_reducible refine hR _ ?ha ?_);(case ha=>exact rfl);clear R hR)
 | ((refine zae 3305000102 3305000103000000 rfl rfl (Nat.le_of_ble_eq_true rfl) rfl (λ R hR=>?_));(conv=>whnf);(with_reducible refine hR _ ?ha ?_);(case ha=>exact rfl);clear R hR)
 | (show Kinl _ _ _ _ _ _ _;conv=>whnf)
 | ((with_reducible refine zbt ?ha ?hb ?_);(case ha=>exact rfl);(case hb=>exact rfl);conv=>whnf)
 | ((refine ⟨?hx,trivial⟩);(case hx=>(cases hF;exact rfl)))
 | with_reducible refine zbe ?_
 | ((refine I97.fo (K := λ x=>one x _ _ _ _) ?_);conv=>whnf)
 | ((refine I97.fp (K := λ x=>Q ⟨x,[]⟩ _) ?_);conv=>whnf)
 | ((rename I97=>xi);cases xi <;> ((try dsimp only at hF);(try (conv=>whnf)))))
def f146 (N : Nat) (a0 : List (List Int)) (a1 : List Int) : Option (Int × Int) :=
 (f158 N a0 a1).bind λ x1 =>
 bif decide (¬ x1 = (0 : Int)) then (some ((0 : Int),x1))
 else ((f132 N a0 (0 : Int) a1).bind λ x2 =>
 some (x2,(0 : Int)))
def G146 (ds : List D) (d : D) : Prop := ∃ (N : Nat) (a0 : List (List Int)) (a1 : List Int) (r : Int × Int),ds = [zaA a0,zbN a1] /\ f146 N a0 a1 = some r /\ d = .tup [iN r.1,iN r.2]
theorem G146.lend {a0 a1} {A : _ -> Option ρ} {K : D -> Prop} (hd : ds = [zaA a0,zbN a1]) (h : ∀ r,A r = some q -> K (.tup [iN r.1,iN r.2])) (hF : (f146 N a0 a1).bind A = some q) : ∃ d,(G146 ds d /\ d.flatB = true) /\ K d := by
 obtain ⟨r,hr,hA⟩ := bind_some hF;exact ⟨_,⟨⟨N,a0,a1,r,hd,hr,rfl⟩,rfl⟩,h r hA⟩
set_option maxRecDepth 20000 in
set_option maxHeartbeats 4000000 in
theorem P146 : PureOK Tryz.prog 146 G146 := by
 refine zaE (c := zar zah [(158,true,lendPg [[1],[1]] G158),(132,true,lendPg [[1],[0],[1]] G132)]) rfl tyOK (zaJ (zaa Tryz.func158 rfl rfl) P158 (zaJ (zaa Tryz.func132 rfl rfl) P132 (zac))) [[0],[0]] 2 Tryz.func146 rfl rfl (by decide) (by kernel_rfl) ?_;rintro ds d ⟨N,a0,a1,r,rfl,hF,rfl⟩ hok;clear hok;refine ⟨rfl, ?_⟩;show vc _ _ _ _ ⟨[(0, .dat (zaA a0)),(1, .dat (zbN a1))],[]⟩ _;unfold f146 at hF
 repeat' (first
 | ((with_reducible first | refine q0 _ _ ?_ | refine q1 _ _ _ _ ?_ | refine q2 _ _ _ ?_);clear Q q0 q1 q2)
 | ((with_reducible first | refine zaI ?hx (λ Q q0 q1 q2=>?_));(case hx=>exact rfl);conv=>whnf)
 | ((with_reducible refine zaP ?_);(first | ((refine zbb rfl ?hy ?_);(case hy=>first | assumption | exact notT (by assumption) | exact rfl)) | ((refine zbc rfl ?hy ?_);(case hy=>first | assumption | exact notF (by assumption) | exact rfl)) | (revert hF;(with_reducible refine zbP ?hx ?_ ?_);(case hx=>exact rfl);all_goals (intro hc hF))))
 | ((with_reducible refine zay ?_);(first | ((with_reducible refine hR _ ?_);clear R hR) | ((with_reducible refine hL _ ?_);clear L hL)))
 | (with_reducible first | refine zaB ?_ | refine zax ?_ | refine zaH ?_ | refine zaM ?_ | refine zak (λ R hR=>?_) | refine zaj ?_ | refine zan ?_ | refine zbO ?_ | refine zav ?_ | refine zap ?_)
 | ((with_reducible refine zaz [] ?hx ?_);(case hx=>exact rfl))
 | (revert hF;(with_reducible refine G132.lend ?hx ?_);(case hx=>exact rfl);intro v hF;conv=>whnf)
 | (revert hF;(with_reducible refine G158.lend ?hx ?_);(case hx=>exact rfl);intro v hF;conv=>whnf)
 | ((refine ⟨?hx,trivial⟩);(case hx=>(cases hF;exact rfl)))
 | with_reducible refine zbe ?_)

end Go.Vc
namespace Go.Vc
open Go.Proofs
variable {N id : Nat} {ρ : Type} {q : ρ} {xs : List SV} {m : Nat -> Blk} {l : List Loc} {ds : List D} {K : Dl -> List Loc -> Prop} {k0 k1 k2 k3 k4 k5 k6 k7 k8 k9 k10 k11 k12 k13 k14 k15 m0 m1 m2 m3 m4 m5 : Nat}
def zje (s1 : LB) (s2 : LS) (s3 : LE) (s4 : LC) (o6 : I97) (e7 : Int) : Option (I97 × Int) :=
 bif decide (e7 = (0 : Int)) then (bif decide ((List.length s1 : Int) = (120 : Int)) then (some (o6,(15 : Int)))
 else (some (o6,e7)))
 else (some (o6,e7))
def zj7 (s1 : LB) (s2 : LS) (s3 : LE) (s4 : LC) : Lp (I97 × Int) (Nat × Unit) (I97 × Int) := lpm ⟨[0,6,7],[0,1,2,3,4,5],[],[]⟩ (λ (o6,e7)=>zje s1 s2 s3 s4 o6 e7) (λ (o6,e7) (_,_)=>[.ptr 0 0, .dat (I97.d o6), .dat (iN e7)]) (λ (_,_) (m0,_)=>[.box [.ptr 1 0, .rs 2 m0], .box [.mp 3, .mp 4, .mp 5],(rW s1),(sW [4] s2),(eW s3),(mW s4)]) λ (_,_)=>(List.length s1,())
instance Ef51_c6 {s1 s2 s3 s4 o6 e7} : IsLp 1 2 (zje s1 s2 s3 s4 o6 e7) (zj7 s1 s2 s3 s4) (o6,e7) := ⟨rfl⟩
instance Cf51_c6 {s1 s2 s3 s4} : IsCut 2 (zje s1 s2 s3 s4) (zj7 s1 s2 s3 s4) 1000006 := ⟨⟩
def f51b (self : ByteArray -> LB -> LS -> LE -> LC -> Option (I97 × Int)) (N : Nat) (s0 : ByteArray) (s1 : LB) (s2 : LS) (s3 : LE) (s4 : LC) : Option (I97 × Int) :=
 (f79 N s0).bind λ x1 =>
 zbM (zje s1 s2 s3 s4) λ k0 =>
 bif decide (x1.2 = (0 : Int)) then (I97.on x1.1 none
 (λ x2=>(f198 N x2 s2 s3 s4).bind λ x3 =>
 k0 (I97.c199 x2) x3)
 (λ x4=>(f200 N x4 s2 s3 s4).bind λ x5 =>
 k0 (I97.c201 x4) x5)
 (λ x6=>(f202 N x6 s2 s3 s4).bind λ x7 =>
 k0 (I97.c203 x6) x7)
 (λ x8=>(f204 N x8 s2 s3 s4).bind λ x9 =>
 k0 (I97.c205 x8) x9)
 (λ x10=>(f206 N x10 s2 s3 s4).bind λ x11 =>
 k0 (I97.c207 x10) x11)
 (λ x12=>(f208 N x12 s2 s3 s4).bind λ x13 =>
 k0 (I97.c209 x12) x13)
 (λ x14=>(f210 N x14 s2 s3 s4).bind λ x15 =>
 k0 (I97.c211 x14) x15)
 (λ x16=>(f212 N x16 s2 s3 s4).bind λ x17 =>
 k0 (I97.c213 x16) x17)
 (λ x18=>(f215 N x18 s2 s3 s4).bind λ x19 =>
 k0 (I97.c215 x18) x19))
 else (k0 x1.1 x1.2)
def f51 : Nat -> ByteArray -> LB -> LS -> LE -> LC -> Option (I97 × Int)
 | 0,_,_,_,_,_=>none
 | N + 1,s0,s1,s2,s3,s4=>f51b (f51 N) N s0 s1 s2 s3 s4
def Af51 (s0 : ByteArray) (s1 : LB) (s2 : LS) (s3 : LE) (s4 : LC) : List SV := [.ptr 0 0, .dat (strN s0)]
def Bf51 (s0 : ByteArray) (s1 : LB) (s2 : LS) (s3 : LE) (s4 : LC) : List Blk := [.box [.ptr 1 0, .rs 2 (List.length s1)], .box [.mp 3, .mp 4, .mp 5],(rW s1),(sW [4] s2),(eW s3),(mW s4)]
def Rf51 (y : I97 × Int) : List SV := [.dat (I97.d y.1), .dat (iN y.2)]
def B1f51 (s0 : ByteArray) (s1 : LB) (s2 : LS) (s3 : LE) (s4 : LC) (y : I97 × Int) : List Blk := [.box [.ptr 1 0, .rs 2 (List.length s1)], .box [.mp 3, .mp 4, .mp 5],(rW s1),(sW [4] s2),(eW s3),(mW s4)]
def BZf51 (y : I97 × Int) : List Blk := []
def zlK : Spec (ByteArray × LB × LS × LE × LC) (I97 × Int) := ⟨6,[],λ x=>Af51 x.1 x.2.1 x.2.2.1 x.2.2.2.1 x.2.2.2.2,λ x=>Bf51 x.1 x.2.1 x.2.2.1 x.2.2.2.1 x.2.2.2.2,λ _ y=>Rf51 y,λ x y=>B1f51 x.1 x.2.1 x.2.2.1 x.2.2.2.1 x.2.2.2.2 y,λ _ y=>BZf51 y⟩
def H51 (N : Nat) (x : ByteArray × LB × LS × LE × LC) (y : I97 × Int) : Prop := f51 N x.1 x.2.1 x.2.2.1 x.2.2.2.1 x.2.2.2.2 = some y
def G51 (x : ByteArray × LB × LS × LE × LC) (y : I97 × Int) : Prop := ∃ N,H51 N x y
theorem G51.step {s0 s1 s2 s3 s4} {A : _ -> Option ρ} (ha : xs = [.ptr k0 0, .dat (strN s0)]) (b0 : m k0 = .box [.ptr k1 0, .rs k2 m0]) (b1 : m k1 = .box [.mp k3, .mp k4, .mp k5]) (b2 : m k2 = (rW s1)) (b3 : m k3 = (sW [k4] s2)) (b4 : m k4 = (eW s3)) (b5 : m k5 = (mW s4)) (em0 : m0 = List.length s1) (hu : True) (hn : za6 [k0,k1,k2,k3,k4,k5] = true) (h : ∀ y,A y = some q -> K ⟨.tup [.dat (I97.d y.1), .dat (iN y.2)],[(k0, .box [.ptr k1 0, .rs k2 (List.length s1)]),(k1, .box [.mp k3, .mp k4, .mp k5]),(k2,(rW s1)),(k3,(sW [k4] s2)),(k4,(eW s3)),(k5,(mW s4))]⟩ ([Loc.b k0,Loc.b k1,Loc.b k2,Loc.b k3,Loc.b k4,Loc.b k5] ++ l)) (hF : (f51 N s0 s1 s2 s3 s4).bind A = some q) : effPg zlK (G51) xs id (λ _=>SV.no) m l K := by
 subst em0;obtain ⟨y,hy,hA⟩ := bind_some hF;exact zaU [k0,k1,k2,k3,k4,k5] (s0,s1,s2,s3,s4) y _ ⟨N,hy⟩ rfl hn ha (by simp only [List.map_cons,List.map_nil,b0,b1,b2,b3,b4,b5];rfl) rfl rfl rfl (h y hA)
def Srf51 : Ann := ⟨[0,1],[0,1,2,3,4,5],[],[]⟩
def zrT : Ann := ⟨[0,1],[0,1,2,3,4,5],[],[]⟩
set_option maxRecDepth 20000 in
set_option maxHeartbeats 4000000 in
theorem Q51 (N : Nat) : CallOK Tryz.prog 51 (effPg zlK (H51 N)) := by
 induction N with
 | zero=>exact zaX λ x y h=>(by cases (show (none : Option (I97 × Int)) = some y from h))
 | succ N ih =>
  refine zaF (c := zar zah [(51,true,effPg zlK (H51 N)),(53,false,zba (zar zah []) Tryz.f53),(215,true,effPg zj G215),(212,true,effPg zi9 G212),(210,true,effPg zi8 G210),(208,true,effPg ziR G208),(206,true,effPg ziQ G206),(204,true,effPg ziP G204),(202,true,effPg ziO G202),(200,true,effPg ziN G200),(198,true,effPg ziM G198),(79,true,zdt [[0]] G79)]) rfl tyOK (zao (zaa Tryz.func51 rfl rfl) ih (zaw (zaa Tryz.func53 rfl rfl) (CallOK.inl rfl tyOK (zac) Tryz.func53 (by kernel_rfl)) (zao (zaa Tryz.func215 rfl rfl) P215 (zao (zaa Tryz.func212 rfl rfl) P212 (zao (zaa Tryz.func210 rfl rfl) P210 (zao (zaa Tryz.func208 rfl rfl) P208 (zao (zaa Tryz.func206 rfl rfl) P206 (zao (zaa Tryz.func204 rfl rfl) P204 (zao (zaa Tryz.func202 rfl rfl) P202 (zao (zaa Tryz.func200 rfl rfl) P200 (zao (zaa Tryz.func198 rfl rfl) P198 (zcI (zaa Tryz.func79 rfl rfl) P79 (zac))))))))))))) 1000 Srf51 zrT Tryz.func51 rfl rfl (by kernel_rfl) rfl rfl rfl rfl rfl rfl rfl rfl (λ _=>rfl) (λ _=>rfl) (λ _ _=>⟨rfl,rfl⟩) ?_;rintro ⟨s0,s1,s2,s3,s4⟩ y hF;have hF : f51b (f51 N) N s0 s1 s2 s3 s4 = some y := hF;show vc _ _ _ _ ⟨[(0, .ptr 0 0),(1, .dat (strN s0))],[(0, .box [.ptr 1 0, .rs 2 (List.length s1)]),(1, .box [.mp 3, .mp 4, .mp 5]),(2,(rW s1)),(3,(sW [4] s2)),(4,(eW s3)),(5,(mW s4))]⟩ _;unfold f51b at hF
  repeat' (first
 | ((with_reducible first | refine q0 _ _ ?_ | refine q1 _ _ _ _ ?_ | refine q2 _ _ _ ?_);clear Q q0 q1 q2)
 | ((with_reducible first | refine zaI ?hx (λ Q q0 q1 q2=>?_) | refine za2 ?hx (λ Q q0 q1 q2=>?_));(case hx=>exact rfl);conv=>whnf)
 | ((with_reducible refine zc5 ?_);(first | ((first | refine zcB rfl ?hy (λ Q q0 q1 q2=>?_) | refine zb4 rfl ?hy (λ Q q0 q1 q2=>?_));(case hy=>first | assumption | exact notT (by assumption) | exact rfl);conv=>whnf) | ((first | refine zb3 rfl ?hy ?_ | refine zbQ rfl ?hy ?_);(case hy=>first | assumption | exact notF (by assumption) | exact rfl)) | (revert hF;(with_reducible first | refine zcC ?hx ?_ ?_ | refine zb5 ?hx ?_ ?_);(case hx=>exact rfl);(intro hc hF Q q0 q1 q2;conv=>whnf);rotate_left;(intro hc hF);rotate_right) | (revert hF;(with_reducible first | refine zcD ?hx ?_ ?_ | refine zb6 ?hx ?_ ?_);(case hx=>exact rfl);(intro hc hF);rotate_left;(intro hc hF Q q0 q1 q2;conv=>whnf);rotate_right)))
 | ((with_reducible refine zaP ?_);(first | ((refine zbb rfl ?hy ?_);(case hy=>first | assumption | exact notT (by assumption) | exact rfl)) | ((refine zbc rfl ?hy ?_);(case hy=>first | assumption | exact notF (by assumption) | exact rfl)) | (revert hF;(with_reducible refine zbP ?hx ?_ ?_);(case hx=>exact rfl);all_goals (intro hc hF))))
 | ((with_reducible refine zay ?_);(first | ((with_reducible refine hR _ ?_);clear R hR) | ((with_reducible refine hL _ ?_);clear L hL)))
 | ((with_reducible refine zaR ?_);(with_reducible refine hR _ _ ?hx ?_);(case hx=>kernel_rfl);clear R hR)
 | (with_reducible first | refine zaB ?_ | refine zax ?_ | refine zaH ?_ | refine zaM ?_ | refine zak (λ R hR=>?_) | refine zaj ?_ | refine zan ?_ | refine zbO ?_ | refine zav ?_ | refine zap ?_)
 | ((with_reducible refine zaz [1000006] ?hx ?_);(case hx=>exact rfl))
 | ((with_reducible refine za4 ?hx (λ R L hL hR=>?_));(case hx=>exact rfl))
 | ((with_reducible replace hF := isE hF);(dsimp only [zj7] at hF);first | rewrite [zje] at hF)
 | ((with_reducible refine zbn ?_);(with_reducible replace hF := zcA 2 hF);((refine Lp.cutI hF rfl rfl ?_ ?_) <;> clear hF);(intro hF);rotate_left;(rintro ⟨_,_⟩ hF);rotate_right)
 | ((with_reducible refine zbd ?_);(with_reducible replace hF := toLp 1 2 hF);exact Lp.headI hF (_,()) ⟨_,rfl,rfl,rfl,rfl⟩ (pr2 (by first | exact rfl | assumption | omega | (simp only [List.length_set];done)) rfl))
 | (revert hF;(with_reducible refine G79.step ?hx ?_);(case hx=>exact rfl);intro v hF;(obtain ⟨v,ve⟩ := v);(try dsimp only at hF);(conv=>whnf))
 | ((with_reducible refine zbd ?_);(rename I97=>xi);cases xi)
 | (revert hF;(refine G198.step rfl rfl rfl rfl rfl  (by first | exact trivial | exact rfl) ?hn ?_);(case hn=>exact rfl);intro v hF;conv=>whnf)
 | (revert hF;(refine G200.step rfl rfl rfl rfl rfl  (by first | exact trivial | exact rfl) ?hn ?_);(case hn=>exact rfl);intro v hF;conv=>whnf)
 | (revert hF;(refine G202.step rfl rfl rfl rfl rfl  (by first | exact trivial | exact rfl) ?hn ?_);(case hn=>exact rfl);intro v hF;conv=>whnf)
 | (revert hF;(refine G204.step rfl rfl rfl rfl rfl  (by first | exact trivial | exact rfl) ?hn ?_);(case hn=>exact rfl);intro v hF;conv=>whnf)
 | (revert hF;(refine G206.step rfl rfl rfl rfl rfl  (by first | exact trivial | exact rfl) ?hn ?_);(case hn=>exact rfl);intro v hF;conv=>whnf)
 | (revert hF;(refine G208.step rfl rfl rfl rfl rfl  (by first | exact trivial | exact rfl) ?hn ?_);(case hn=>exact rfl);intro v hF;conv=>whnf)
 | (revert hF;(refine G210.step rfl rfl rfl rfl rfl  (by first | exact trivial | exact rfl) ?hn ?_);(case hn=>exact rfl);intro v hF;conv=>whnf)
 | (revert hF;(refine G212.step rfl rfl rfl rfl rfl  (by first | exact trivial | exact rfl) ?hn ?_);(case hn=>exact rfl);intro v hF;conv=>whnf)
 | (revert hF;(refine G215.step rfl rfl rfl rfl rfl  (by first | exact trivial | exact rfl) ?hn ?_);(case hn=>exact rfl);intro v hF;conv=>whnf)
 | (cases hF;(refine Or.inl ?_);(conv=>whnf);exact ⟨rfl,rfl,rfl⟩)
 | with_reducible refine zbe ?_
 | (revert hF;(refine I97.on_step ?_ ?_ ?_ ?_ ?_ ?_ ?_ ?_ ?_ ?_) <;> ((intros);(rename_i hx hF);(first | (cases hx;done) | (subst hx;(conv=>whnf)) | (cases hx;(conv=>whnf)) | (simp only [hx];(conv=>whnf)))))
 | ((with_reducible refine zcR ?hx ?_);(case hx=>first | exact rfl | assumption | exact notT (by assumption));conv=>whnf)
 | ((with_reducible refine zbZ ?hx ?_);(case hx=>first | exact rfl | assumption | exact notF (by assumption));conv=>whnf)
 | ((refine zae 1101 1102000000 rfl rfl (Nat.le_of_ble_eq_true rfl) rfl (λ R hR=>?_));(conv=>whnf);(with_reducible refine hR _ ?ha ?_);(case ha=>exact rfl);clear R hR)
 | (show Kinl _ _ _ _ _ _ _;conv=>whnf)
 | ((with_reducible refine zbt ?ha ?hb ?_);(case ha=>exact rfl);(case hb=>exact rfl);conv=>whnf)
 | (have hF : (none : Option _) = some _ := hF;cases hF)
 | ((refine I97.fo (K := λ x=>Q ⟨x,[]⟩ _) ?_);conv=>whnf)
 | ((refine I97.fp (K := λ x=>Q ⟨x,[]⟩ _) ?_);conv=>whnf)
 | ((refine I97.fp (K := λ x=>one x _ _ _ _) ?_);conv=>whnf)
 | ((rename I97=>xi);cases xi <;> ((try dsimp only at hF);(try (conv=>whnf)))))
theorem P51 : CallOK Tryz.prog 51 (effPg zlK G51) := zbE Q51
def f118 (N : Nat) (a0 : List (List Int)) (a1 : List Int) : Option (Int × Int) :=
 (f146 N a0 a1).bind λ x1 =>
 bif decide (¬ x1.2 = (0 : Int)) then (some ((0 : Int),x1.2))
 else ((ix a0 x1.1).bind λ x2 =>
 (f147 N x2 (0 : Int)).bind λ x3 =>
 some (x3,(0 : Int)))
def G118 (ds : List D) (d : D) : Prop := ∃ (N : Nat) (a0 : List (List Int)) (a1 : List Int) (r : Int × Int),ds = [zaA a0,zbN a1] /\ f118 N a0 a1 = some r /\ d = .tup [iN r.1,iN r.2]
theorem G118.lend {a0 a1} {A : _ -> Option ρ} {K : D -> Prop} (hd : ds = [zaA a0,zbN a1]) (h : ∀ r,A r = some q -> K (.tup [iN r.1,iN r.2])) (hF : (f118 N a0 a1).bind A = some q) : ∃ d,(G118 ds d /\ d.flatB = true) /\ K d := by
 obtain ⟨r,hr,hA⟩ := bind_some hF;exact ⟨_,⟨⟨N,a0,a1,r,hd,hr,rfl⟩,rfl⟩,h r hA⟩
set_option maxRecDepth 20000 in
set_option maxHeartbeats 4000000 in
theorem P118 : PureOK Tryz.prog 118 G118 := by
 refine zaE (c := zar zah [(147,true,lendPg [[1],[0]] G147),(146,true,lendPg [[1],[1]] G146)]) rfl tyOK (zaJ (zaa Tryz.func147 rfl rfl) P147 (zaJ (zaa Tryz.func146 rfl rfl) P146 (zac))) [[0],[0]] 2 Tryz.func118 rfl rfl (by decide) (by kernel_rfl) ?_;rintro ds d ⟨N,a0,a1,r,rfl,hF,rfl⟩ hok;clear hok;refine ⟨rfl, ?_⟩;show vc _ _ _ _ ⟨[(0, .dat (zaA a0)),(1, .dat (zbN a1))],[]⟩ _;unfold f118 at hF
 repeat' (first
 | ((with_reducible first | refine q0 _ _ ?_ | refine q1 _ _ _ _ ?_ | refine q2 _ _ _ ?_);clear Q q0 q1 q2)
 | ((with_reducible first | refine zaI ?hx (λ Q q0 q1 q2=>?_));(case hx=>exact rfl);conv=>whnf)
 | ((with_reducible refine zaP ?_);(first | ((refine zbb rfl ?hy ?_);(case hy=>first | assumption | exact notT (by assumption) | exact rfl)) | ((refine zbc rfl ?hy ?_);(case hy=>first | assumption | exact notF (by assumption) | exact rfl)) | (revert hF;(with_reducible refine zbP ?hx ?_ ?_);(case hx=>exact rfl);all_goals (intro hc hF))))
 | ((with_reducible refine zay ?_);(first | ((with_reducible refine hR _ ?_);clear R hR) | ((with_reducible refine hL _ ?_);clear L hL)))
 | ((with_reducible first | refine zaK ?_ | refine idx2 (by assumption) ?_ | refine idx3 (by assumption) ?_);conv=>whnf)
 | (with_reducible first | refine zaB ?_ | refine zax ?_ | refine zaH ?_ | refine zaM ?_ | refine zak (λ R hR=>?_) | refine zaj ?_ | refine zan ?_ | refine zbO ?_ | refine zav ?_ | refine zap ?_)
 | ((with_reducible refine zaz [] ?hx ?_);(case hx=>exact rfl))
 | (revert hF;(with_reducible refine G146.lend ?hx ?_);(case hx=>exact rfl);intro v hF;conv=>whnf)
 | (revert hF;(with_reducible refine G147.lend ?hx ?_);(case hx=>exact rfl);intro v hF;conv=>whnf)
 | (revert hF;(with_reducible refine idx1 ?hn ?_);(case hn=>first | exact rfl | exact (List.length_map _) | assumption | omega | simp);intro x hx hF;conv=>whnf)
 | ((refine ⟨?hx,trivial⟩);(case hx=>(cases hF;exact rfl)))
 | with_reducible refine zbe ?_)

end Go.Vc
namespace Go.Vc
open Go.Proofs
variable {N id : Nat} {ρ : Type} {q : ρ} {xs : List SV} {m : Nat -> Blk} {l : List Loc} {ds : List D} {K : Dl -> List Loc -> Prop} {k0 k1 k2 k3 k4 k5 k6 k7 k8 k9 k10 k11 k12 k13 k14 k15 m0 m1 m2 m3 m4 m5 : Nat}
def f17b (self : ByteArray -> LB -> LS -> LE -> LC -> Option (Int)) (N : Nat) (s0 : ByteArray) (s1 : LB) (s2 : LS) (s3 : LE) (s4 : LC) : Option (Int) :=
 (f51 N s0 s1 s2 s3 s4).bind λ x1 =>
 some (x1.2)
def f17 : Nat -> ByteArray -> LB -> LS -> LE -> LC -> Option (Int)
 | 0,_,_,_,_,_=>none
 | N + 1,s0,s1,s2,s3,s4=>f17b (f17 N) N s0 s1 s2 s3 s4
def Af17 (s0 : ByteArray) (s1 : LB) (s2 : LS) (s3 : LE) (s4 : LC) : List SV := [.ptr 0 0, .dat (strN s0)]
def Bf17 (s0 : ByteArray) (s1 : LB) (s2 : LS) (s3 : LE) (s4 : LC) : List Blk := [.box [.ptr 1 0, .rs 2 (List.length s1)], .box [.mp 3, .mp 4, .mp 5],(rW s1),(sW [4] s2),(eW s3),(mW s4)]
def Rf17 (y : Int) : List SV := [.dat (iN y)]
def B1f17 (s0 : ByteArray) (s1 : LB) (s2 : LS) (s3 : LE) (s4 : LC) (y : Int) : List Blk := [.box [.ptr 1 0, .rs 2 (List.length s1)], .box [.mp 3, .mp 4, .mp 5],(rW s1),(sW [4] s2),(eW s3),(mW s4)]
def BZf17 (y : Int) : List Blk := []
def znD : Spec (ByteArray × LB × LS × LE × LC) (Int) := ⟨6,[],λ x=>Af17 x.1 x.2.1 x.2.2.1 x.2.2.2.1 x.2.2.2.2,λ x=>Bf17 x.1 x.2.1 x.2.2.1 x.2.2.2.1 x.2.2.2.2,λ _ y=>Rf17 y,λ x y=>B1f17 x.1 x.2.1 x.2.2.1 x.2.2.2.1 x.2.2.2.2 y,λ _ y=>BZf17 y⟩
def H17 (N : Nat) (x : ByteArray × LB × LS × LE × LC) (y : Int) : Prop := f17 N x.1 x.2.1 x.2.2.1 x.2.2.2.1 x.2.2.2.2 = some y
def G17 (x : ByteArray × LB × LS × LE × LC) (y : Int) : Prop := ∃ N,H17 N x y
theorem G17.step {s0 s1 s2 s3 s4} {A : _ -> Option ρ} (ha : xs = [.ptr k0 0, .dat (strN s0)]) (b0 : m k0 = .box [.ptr k1 0, .rs k2 m0]) (b1 : m k1 = .box [.mp k3, .mp k4, .mp k5]) (b2 : m k2 = (rW s1)) (b3 : m k3 = (sW [k4] s2)) (b4 : m k4 = (eW s3)) (b5 : m k5 = (mW s4)) (em0 : m0 = List.length s1) (hu : True) (hn : za6 [k0,k1,k2,k3,k4,k5] = true) (h : ∀ y,A y = some q -> K ⟨.dat (iN y),[(k0, .box [.ptr k1 0, .rs k2 (List.length s1)]),(k1, .box [.mp k3, .mp k4, .mp k5]),(k2,(rW s1)),(k3,(sW [k4] s2)),(k4,(eW s3)),(k5,(mW s4))]⟩ ([Loc.b k0,Loc.b k1,Loc.b k2,Loc.b k3,Loc.b k4,Loc.b k5] ++ l)) (hF : (f17 N s0 s1 s2 s3 s4).bind A = some q) : effPg znD (G17) xs id (λ _=>SV.no) m l K := by
 subst em0;obtain ⟨y,hy,hA⟩ := bind_some hF;exact zaU [k0,k1,k2,k3,k4,k5] (s0,s1,s2,s3,s4) y _ ⟨N,hy⟩ rfl hn ha (by simp only [List.map_cons,List.map_nil,b0,b1,b2,b3,b4,b5];rfl) rfl rfl rfl (h y hA)
def Srf17 : Ann := ⟨[0],[0,1,2,3,4,5],[],[]⟩
def zrU : Ann := ⟨[0],[0,1,2,3,4,5],[],[]⟩
set_option maxRecDepth 20000 in
set_option maxHeartbeats 4000000 in
theorem Q17 (N : Nat) : CallOK Tryz.prog 17 (effPg znD (H17 N)) := by
 induction N with
 | zero=>exact zaX λ x y h=>(by cases (show (none : Option (Int)) = some y from h))
 | succ N ih =>
  refine zaF (c := zar zah [(17,true,effPg znD (H17 N)),(51,true,effPg zlK G51)]) rfl tyOK (zao (zaa Tryz.func17 rfl rfl) ih (zao (zaa Tryz.func51 rfl rfl) P51 (zac))) 1000 Srf17 zrU Tryz.func17 rfl rfl (by kernel_rfl) rfl rfl rfl rfl rfl rfl rfl rfl (λ _=>rfl) (λ _=>rfl) (λ _ _=>⟨rfl,rfl⟩) ?_;rintro ⟨s0,s1,s2,s3,s4⟩ y hF;have hF : f17b (f17 N) N s0 s1 s2 s3 s4 = some y := hF;show vc _ _ _ _ ⟨[(0, .ptr 0 0),(1, .dat (strN s0))],[(0, .box [.ptr 1 0, .rs 2 (List.length s1)]),(1, .box [.mp 3, .mp 4, .mp 5]),(2,(rW s1)),(3,(sW [4] s2)),(4,(eW s3)),(5,(mW s4))]⟩ _;unfold f17b at hF
  repeat' (first
 | ((with_reducible first | refine q0 _ _ ?_ | refine q1 _ _ _ _ ?_ | refine q2 _ _ _ ?_);clear Q q0 q1 q2)
 | ((with_reducible first | refine zaI ?hx (λ Q q0 q1 q2=>?_));(case hx=>exact rfl);conv=>whnf)
 | ((with_reducible refine zay ?_);(first | ((with_reducible refine hR _ ?_);clear R hR) | ((with_reducible refine hL _ ?_);clear L hL)))
 | (with_reducible first | refine zax ?_ | refine zaH ?_ | refine zak (λ R hR=>?_) | refine zaj ?_)
 | ((with_reducible refine zaz [] ?hx ?_);(case hx=>exact rfl))
 | (revert hF;(refine G51.step rfl rfl rfl rfl rfl rfl rfl (by first | exact rfl | assumption | omega | (simp only [List.length_set];done)) (by first | exact trivial | exact rfl) ?hn ?_);(case hn=>exact rfl);intro v hF;(obtain ⟨v,ve⟩ := v);(try dsimp only at hF);(conv=>whnf))
 | (cases hF;(refine Or.inl ?_);(conv=>whnf);exact ⟨rfl,rfl,rfl⟩)
 | with_reducible refine zbe ?_
 | ((refine I97.fp (K := λ x=>Q ⟨x,[]⟩ _) ?_);conv=>whnf)
 | ((refine I97.fp (K := λ x=>one x _ _ _ _) ?_);conv=>whnf))
theorem P17 : CallOK Tryz.prog 17 (effPg znD G17) := zbE Q17
def f18b (self : ByteArray -> LB -> LS -> LE -> LC -> Option (Int × LS × LE × LC × LB)) (N : Nat) (s0 : ByteArray) (s1 : LB) (s2 : LS) (s3 : LE) (s4 : LC) : Option (Int × LS × LE × LC × LB) :=
 (f51 N s0 s1 s2 s3 s4).bind λ x1 =>
 bif decide (¬ x1.2 = (0 : Int)) then (some (x1.2,s2,s3,s4,s1))
 else (I97.on x1.1 none
 (λ x2=>(f197 N x2 s2 s3 s4).bind λ x3 =>
 (app 16 s1 [s0]).bind λ x4 =>
 some ((0 : Int),x3,s3,s4,x4))
 (λ x5=>(f199 N x5 s2 s3 s4).bind λ x6 =>
 (app 16 s1 [s0]).bind λ x7 =>
 some ((0 : Int),s2,x6,s4,x7))
 (λ x8=>(f201 N x8 s2 s3 s4).bind λ x9 =>
 (app 16 s1 [s0]).bind λ x10 =>
 some ((0 : Int),x9.1,x9.2,s4,x10))
 (λ x11=>(f203 N x11 s2 s3 s4).bind λ x12 =>
 (app 16 s1 [s0]).bind λ x13 =>
 some ((0 : Int),s2,x12,s4,x13))
 (λ x14=>(f205 N x14 s2 s3 s4).bind λ x15 =>
 (app 16 s1 [s0]).bind λ x16 =>
 some ((0 : Int),s2,x15,s4,x16))
 (λ x17=>(f207 N x17 s2 s3 s4).bind λ x18 =>
 (app 16 s1 [s0]).bind λ x19 =>
 some ((0 : Int),s2,x18,s4,x19))
 (λ x20=>(f209 N x20 s2 s3 s4).bind λ x21 =>
 (app 16 s1 [s0]).bind λ x22 =>
 some ((0 : Int),s2,x21.1,x21.2,x22))
 (λ x23=>(f211 N x23 s2 s3 s4).bind λ x24 =>
 (app 16 s1 [s0]).bind λ x25 =>
 some ((0 : Int),s2,x24,s4,x25))
 (λ x26=>(f214 N x26 s2 s3 s4).bind λ x27 =>
 (app 16 s1 [s0]).bind λ x28 =>
 some ((0 : Int),x27.1,x27.2,s4,x28)))
def f18 : Nat -> ByteArray -> LB -> LS -> LE -> LC -> Option (Int × LS × LE × LC × LB)
 | 0,_,_,_,_,_=>none
 | N + 1,s0,s1,s2,s3,s4=>f18b (f18 N) N s0 s1 s2 s3 s4
def Af18 (s0 : ByteArray) (s1 : LB) (s2 : LS) (s3 : LE) (s4 : LC) : List SV := [.ptr 0 0, .dat (strN s0)]
def Bf18 (s0 : ByteArray) (s1 : LB) (s2 : LS) (s3 : LE) (s4 : LC) : List Blk := [.box [.ptr 1 0, .rs 2 (List.length s1)], .box [.mp 3, .mp 4, .mp 5],(rW s1),(sW [4] s2),(eW s3),(mW s4)]
def Rf18 (y : Int × LS × LE × LC × LB) : List SV := [.dat (iN y.1)]
def B1f18 (s0 : ByteArray) (s1 : LB) (s2 : LS) (s3 : LE) (s4 : LC) (y : Int × LS × LE × LC × LB) : List Blk := [.box [.ptr 1 0, .rs 500 (List.length y.2.2.2.2)], .box [.mp 3, .mp 4, .mp 5], .dead,(sW [4] y.2.1),(eW y.2.2.1),(mW y.2.2.2.1)]
def BZf18 (y : Int × LS × LE × LC × LB) : List Blk := [(rW y.2.2.2.2)]
def znE : Spec (ByteArray × LB × LS × LE × LC) (Int × LS × LE × LC × LB) := ⟨6,[500],λ x=>Af18 x.1 x.2.1 x.2.2.1 x.2.2.2.1 x.2.2.2.2,λ x=>Bf18 x.1 x.2.1 x.2.2.1 x.2.2.2.1 x.2.2.2.2,λ _ y=>Rf18 y,λ x y=>B1f18 x.1 x.2.1 x.2.2.1 x.2.2.2.1 x.2.2.2.2 y,λ _ y=>BZf18 y⟩
def H18 (N : Nat) (x : ByteArray × LB × LS × LE × LC) (y : Int × LS × LE × LC × LB) : Prop := f18 N x.1 x.2.1 x.2.2.1 x.2.2.2.1 x.2.2.2.2 = some y
def G18 (x : ByteArray × LB × LS × LE × LC) (y : Int × LS × LE × LC × LB) : Prop := ∃ N,H18 N x y
theorem G18.step {s0 s1 s2 s3 s4} {A : _ -> Option ρ} (ha : xs = [.ptr k0 0, .dat (strN s0)]) (b0 : m k0 = .box [.ptr k1 0, .rs k2 m0]) (b1 : m k1 = .box [.mp k3, .mp k4, .mp k5]) (b2 : m k2 = (rW s1)) (b3 : m k3 = (sW [k4] s2)) (b4 : m k4 = (eW s3)) (b5 : m k5 = (mW s4)) (em0 : m0 = List.length s1) (hu : (zcx id 1).map m = List.replicate 1 .unborn) (hn : za6 [k0,k1,k2,k3,k4,k5] = true) (h : ∀ y,A y = some q -> K ⟨.dat (iN y.1),[(k0, .box [.ptr k1 0, .rs id (List.length y.2.2.2.2)]),(k1, .box [.mp k3, .mp k4, .mp k5]),(k2, .dead),(k3,(sW [k4] y.2.1)),(k4,(eW y.2.2.1)),(k5,(mW y.2.2.2.1)),(id,(rW y.2.2.2.2))]⟩ ([Loc.b k0,Loc.b k1,Loc.b k2,Loc.b k3,Loc.b k4,Loc.b k5,Loc.b id] ++ l)) (hF : (f18 N s0 s1 s2 s3 s4).bind A = some q) : effPg znE (G18) xs id (λ _=>SV.no) m l K := by
 subst em0;obtain ⟨y,hy,hA⟩ := bind_some hF;exact zaU [k0,k1,k2,k3,k4,k5] (s0,s1,s2,s3,s4) y _ ⟨N,hy⟩ rfl hn ha (by simp only [List.map_cons,List.map_nil,b0,b1,b2,b3,b4,b5];rfl) hu rfl rfl (h y hA)
def Srf18 : Ann := ⟨[0],[0,1,2,3,4,5,500],[(.cell 0 1,500,9,1)],[]⟩
def zrV : Ann := ⟨[0],[0,1,2,3,4,5],[],[]⟩
set_option maxRecDepth 20000 in
set_option maxHeartbeats 4000000 in
theorem Q18 (N : Nat) : CallOK Tryz.prog 18 (effPg znE (H18 N)) := by
 induction N with
 | zero=>exact zaX λ x y h=>(by cases (show (none : Option (Int × LS × LE × LC × LB)) = some y from h))
 | succ N ih =>
  refine zaF (c := zar zah [(18,true,effPg znE (H18 N)),(214,true,effPg zi1 G214),(211,true,effPg zja G211),(209,true,effPg zi0 G209),(207,true,effPg ziZ G207),(205,true,effPg ziY G205),(203,true,effPg ziX G203),(201,true,effPg ziW G201),(199,true,effPg ziV G199),(197,true,effPg ziU G197),(51,true,effPg zlK G51)]) rfl tyOK (zao (zaa Tryz.func18 rfl rfl) ih (zao (zaa Tryz.func214 rfl rfl) P214 (zao (zaa Tryz.func211 rfl rfl) P211 (zao (zaa Tryz.func209 rfl rfl) P209 (zao (zaa Tryz.func207 rfl rfl) P207 (zao (zaa Tryz.func205 rfl rfl) P205 (zao (zaa Tryz.func203 rfl rfl) P203 (zao (zaa Tryz.func201 rfl rfl) P201 (zao (zaa Tryz.func199 rfl rfl) P199 (zao (zaa Tryz.func197 rfl rfl) P197 (zao (zaa Tryz.func51 rfl rfl) P51 (zac)))))))))))) 1000 Srf18 zrV Tryz.func18 rfl rfl (by kernel_rfl) rfl rfl rfl rfl rfl rfl rfl rfl (λ _=>rfl) (λ _=>rfl) (λ _ _=>⟨rfl,rfl⟩) ?_;rintro ⟨s0,s1,s2,s3,s4⟩ y hF;have hF : f18b (f18 N) N s0 s1 s2 s3 s4 = some y := hF;show vc _ _ _ _ ⟨[(0, .ptr 0 0),(1, .dat (strN s0))],[(0, .box [.ptr 1 0, .rs 2 (List.length s1)]),(1, .box [.mp 3, .mp 4, .mp 5]),(2,(rW s1)),(3,(sW [4] s2)),(4,(eW s3)),(5,(mW s4))]⟩ _;unfold f18b at hF
  repeat' (first
 | ((with_reducible first | refine q0 _ _ ?_ | refine q1 _ _ _ _ ?_ | refine q2 _ _ _ ?_);clear Q q0 q1 q2)
 | ((with_reducible first | refine zaI ?hx (λ Q q0 q1 q2=>?_) | refine za2 ?hx (λ Q q0 q1 q2=>?_) | refine zby ?hx (λ Q q0 q1 q2=>?_) | refine zbC ?hx (λ Q q0 q1 q2=>?_));(case hx=>exact rfl);conv=>whnf)
 | ((with_reducible refine zaP ?_);(first | ((refine zbb rfl ?hy ?_);(case hy=>first | assumption | exact notT (by assumption) | exact rfl)) | ((refine zbc rfl ?hy ?_);(case hy=>first | assumption | exact notF (by assumption) | exact rfl)) | (revert hF;(with_reducible refine zbP ?hx ?_ ?_);(case hx=>exact rfl);all_goals (intro hc hF))))
 | ((with_reducible refine zay ?_);(first | ((with_reducible refine hR _ ?_);clear R hR) | ((with_reducible refine hL _ ?_);clear L hL)))
 | ((with_reducible refine zaR ?_);(with_reducible refine hR _ _ ?hx ?_);(case hx=>kernel_rfl);clear R hR)
 | (with_reducible first | refine zaB ?_ | refine zax ?_ | refine zaH ?_ | refine zaM ?_ | refine zak (λ R hR=>?_) | refine zaj ?_ | refine zan ?_ | refine zbO ?_ | refine zav ?_ | refine zap ?_)
 | ((with_reducible refine zaz [] ?hx ?_);(case hx=>exact rfl))
 | ((with_reducible refine za4 ?hx (λ R L hL hR=>?_));(case hx=>exact rfl))
 | (revert hF;(refine G51.step rfl rfl rfl rfl rfl rfl rfl (by first | exact rfl | assumption | omega | (simp only [List.length_set];done)) (by first | exact trivial | exact rfl) ?hn ?_);(case hn=>exact rfl);intro v hF;(obtain ⟨v,ve⟩ := v);(try dsimp only at hF);(conv=>whnf))
 | (revert hF;(refine G197.step rfl rfl rfl rfl rfl  (by first | exact trivial | exact rfl) ?hn ?_);(case hn=>exact rfl);intro v hF;conv=>whnf)
 | (revert hF;(refine G199.step rfl rfl rfl rfl rfl  (by first | exact trivial | exact rfl) ?hn ?_);(case hn=>exact rfl);intro v hF;conv=>whnf)
 | (revert hF;(refine G201.step rfl rfl rfl rfl rfl  (by first | exact trivial | exact rfl) ?hn ?_);(case hn=>exact rfl);intro v hF;conv=>whnf)
 | (revert hF;(refine G203.step rfl rfl rfl rfl rfl  (by first | exact trivial | exact rfl) ?hn ?_);(case hn=>exact rfl);intro v hF;conv=>whnf)
 | (revert hF;(refine G205.step rfl rfl rfl rfl rfl  (by first | exact trivial | exact rfl) ?hn ?_);(case hn=>exact rfl);intro v hF;conv=>whnf)
 | (revert hF;(refine G207.step rfl rfl rfl rfl rfl  (by first | exact trivial | exact rfl) ?hn ?_);(case hn=>exact rfl);intro v hF;conv=>whnf)
 | (revert hF;(refine G209.step rfl rfl rfl rfl rfl  (by first | exact trivial | exact rfl) ?hn ?_);(case hn=>exact rfl);intro v hF;conv=>whnf)
 | (revert hF;(refine G211.step rfl rfl rfl rfl rfl  (by first | exact trivial | exact rfl) ?hn ?_);(case hn=>exact rfl);intro v hF;conv=>whnf)
 | (revert hF;(refine G214.step rfl rfl rfl rfl rfl  (by first | exact trivial | exact rfl) ?hn ?_);(case hn=>exact rfl);intro v hF;conv=>whnf)
 | (cases hF;(refine Or.inl ?_);(conv=>whnf);exact ⟨rfl,rfl,rfl⟩)
 | with_reducible refine zbe ?_
 | (revert hF;(refine I97.on_step ?_ ?_ ?_ ?_ ?_ ?_ ?_ ?_ ?_ ?_) <;> ((intros);(rename_i hx hF);(first | (cases hx;done) | (subst hx;(conv=>whnf)) | (cases hx;(conv=>whnf)) | (simp only [hx];(conv=>whnf)))))
 | ((with_reducible have hG := zc4 hF);clear hF;(first | ((refine zdq hG ?hn ?hs (λ q hF=>?_));(case hn=>first | exact rfl | assumption | omega);(case hs=>exact rfl)) | ((refine zdB (d := strN) hG ?hs (λ q hF=>?_));(case hs=>exact rfl)) | ((refine zdC (d := strN) hG ?ho ?hn ?hs (λ q hF=>?_));(case ho=>exact rfl);(case hn=>exact rfl);(case hs=>exact rfl)));clear hG;conv=>whnf)
 | ((refine zdr ?hn ?_);(case hn=>first | exact rfl | (simp;done) | (simp;omega));conv=>whnf)
 | (have hF : (none : Option _) = some _ := hF;cases hF)
 | ((refine I97.fp (K := λ x=>Q ⟨x,[]⟩ _) ?_);conv=>whnf)
 | ((refine I97.fp (K := λ x=>one x _ _ _ _) ?_);conv=>whnf))
theorem P18 : CallOK Tryz.prog 18 (effPg znE G18) := zbE Q18
def zf4 (a0 : List (List Int)) (N : Nat) (number2 : Int) (out9 : List Int) : Option ((List Int) × Int) :=
 bif decide ((0 : Int) < number2) then (some ([],(4 : Int)))
 else ((f118 N a0 out9).bind λ x4 =>
 (app 8 out9 [x4.1]).bind λ x5 =>
 some (x5,x4.2))
def zhL (a0 : List (List Int)) (N : Nat) : Lp (Int × (List Int)) (Nat × Unit) ((List Int) × Int) := lpm ⟨[0,2,9],[90009],[(.slot 9,90009,3,1)],[]⟩ (λ (number2,out9)=>zf4 a0 N number2 out9) (λ (number2,_) (m0,_)=>[.dat (zaA a0), .dat (iN number2), .rs 90009 m0]) (λ (_,out9) (_,_)=>[.row 3 1 (List.map iN out9)]) λ (_,out9)=>(List.length out9,())
instance Ef83_c15 {a0 N number2 out9} : IsLp 1 2 (zf4 a0 N number2 out9) (zhL a0 N) (number2,out9) := ⟨rfl⟩
instance Cf83_c15 {a0 N} : IsCut 2 (zf4 a0 N) (zhL a0 N) 15 := ⟨⟩
def znF (r10 : Int -> (List Int) -> Int -> Option ((List Int) × Int)) (a0 : List (List Int)) (x3 : List Int) (k0 : Int -> (List Int) -> Option ((List Int) × Int)) (number2 : Int) (out9 : List Int) (v30 : Int) : Option ((List Int) × Int) :=
 bif decide (v30 < (List.length x3 : Int)) then ((chk (decide ((List.length a0 : Int) ≠ 0))).bind λ _ =>
 (ix out9 (W ((W ((List.length out9 : Int) - (1 : Int))) - v30))).bind λ x6 =>
 (setx out9 (W ((W ((List.length out9 : Int) - (1 : Int))) - v30)) (Int.tmod number2 (List.length a0 : Int))).bind λ x7 =>
 (chk (decide ((List.length a0 : Int) ≠ 0))).bind λ _ =>
 r10 (W (Int.tdiv number2 (List.length a0 : Int))) x7 (W (v30 + (1 : Int))))
 else (k0 number2 out9)
def zjf (a0 : List (List Int)) (x3 : List Int) (k0 : Int -> (List Int) -> Option ((List Int) × Int)) : Nat -> Int -> (List Int) -> Int -> Option ((List Int) × Int)
 | 0,_,_,_=>none
 | n + 1,number2,out9,v30=>znF (zjf a0 x3 k0 n) a0 x3 k0 number2 out9 v30
def znG (a0 : List (List Int)) (x3 : List Int) (k0 : Int -> (List Int) -> Option ((List Int) × Int)) : Lp (Nat × Int × (List Int) × Int) (Nat × Unit) ((List Int) × Int) := lpm ⟨[0,2,9,29,30],[90009],[(.slot 9,90009,3,1)],[]⟩ (λ (n,number2,out9,v30)=>zjf a0 x3 k0 n number2 out9 v30) (λ (_,number2,_,v30) (m0,_)=>[.dat (zaA a0), .dat (iN number2), .rs 90009 m0, .dat (iN (List.length x3 : Int)), .dat (iN v30)]) (λ (_,_,out9,_) (_,_)=>[.row 3 1 (List.map iN out9)]) λ (_,_,out9,_)=>(List.length out9,())
instance Ef83_10 {a0 x3 k0 n number2 out9 v30} : IsLp 1 3 (zjf a0 x3 k0 n number2 out9 v30) (znG a0 x3 k0) (n,number2,out9,v30) := ⟨rfl⟩
def f83 (N : Nat) (a0 : List (List Int)) (a1 : Int) (a2 : Int) : Option ((List Int) × Int) :=
 (f116 N a0).bind λ x1 =>
 bif decide (¬ x1 = (0 : Int)) then (some ([],x1))
 else ((f117 N (2 : Int) a1 (12 : Int)).bind λ x2 =>
 bif !x2 then (some ([],(3 : Int)))
 else (bif decide (a2 < (0 : Int)) then (some ([],(4 : Int)))
 else ((mkS 8 (0 : Int) (W (a1 - (1 : Int))) (W (a1 - (1 : Int)))).bind λ x3 =>
 zbM (zf4 a0 N) λ k0 =>
 zjf a0 x3 k0 N a2 x3 (0 : Int))))
def G83 (ds : List D) (d : D) : Prop := ∃ (N : Nat) (a0 : List (List Int)) (a1 : Int) (a2 : Int) (r : (List Int) × Int),ds = [zaA a0,iN a1,iN a2] /\ f83 N a0 a1 a2 = some r /\ d = .tup [zbN r.1,iN r.2]
theorem G83.step {a0 a1 a2} {A : _ -> Option ρ} {K : D -> Prop} (hd : ds = [zaA a0,iN a1,iN a2]) (h : ∀ r,A r = some q -> K (.tup [zbN r.1,iN r.2])) (hF : (f83 N a0 a1 a2).bind A = some q) : ∃ d,G83 ds d /\ K d := by
 obtain ⟨r,hr,hA⟩ := bind_some hF;exact ⟨_,⟨N,a0,a1,a2,r,hd,hr,rfl⟩,h r hA⟩
set_option maxRecDepth 20000 in
set_option maxHeartbeats 4000000 in
theorem P83 : PureOK Tryz.prog 83 G83 := by
 refine zaE (c := zar zah [(118,true,lendPg [[1],[1]] G118),(117,true,lendPg [[0],[0],[0]] G117),(116,true,lendPg [[1]] G116)]) rfl tyOK (zaJ (zaa Tryz.func118 rfl rfl) P118 (zaJ (zaa Tryz.func117 rfl rfl) P117 (zaJ (zaa Tryz.func116 rfl rfl) P116 (zac)))) [[1],[0]] 3 Tryz.func83 rfl rfl (by decide) (by kernel_rfl) ?_;rintro ds d ⟨N,a0,a1,a2,r,rfl,hF,rfl⟩ hok;clear hok;refine ⟨rfl, ?_⟩;show vc _ _ _ _ ⟨[(0, .dat (zaA a0)),(1, .dat (iN a1)),(2, .dat (iN a2))],[]⟩ _;unfold f83 at hF
 repeat' (first
 | ((with_reducible first | refine q0 _ _ ?_ | refine q1 _ _ _ _ ?_ | refine q2 _ _ _ ?_);clear Q q0 q1 q2)
 | ((with_reducible first | refine zaI ?hx (λ Q q0 q1 q2=>?_) | refine zby ?hx (λ Q q0 q1 q2=>?_));(case hx=>exact rfl);conv=>whnf)
 | ((with_reducible refine zaP ?_);(first | ((refine zbb rfl ?hy ?_);(case hy=>first | assumption | exact notT (by assumption) | exact rfl)) | ((refine zbc rfl ?hy ?_);(case hy=>first | assumption | exact notF (by assumption) | exact rfl)) | (revert hF;(with_reducible refine zbP ?hx ?_ ?_);(case hx=>exact rfl);all_goals (intro hc hF))))
 | ((with_reducible refine zay ?_);(first | ((with_reducible refine hR _ ?_);clear R hR) | ((with_reducible refine hL _ ?_);clear L hL)))
 | ((with_reducible first | refine zaK ?_ | refine zbm ?_ | refine idx2 (by assumption) ?_ | refine idx3 (by assumption) ?_);conv=>whnf)
 | (with_reducible first | refine zaB ?_ | refine zax ?_ | refine zaH ?_ | refine zaM ?_ | refine zak (λ R hR=>?_) | refine zaj ?_ | refine zan ?_ | refine zbO ?_ | refine zav ?_ | refine zap ?_ | refine zaW ?_ | refine zaN ?_)
 | ((with_reducible refine zaz [15] ?hx ?_);(case hx=>exact rfl))
 | ((with_reducible replace hF := isE hF);(dsimp only [zhL,znG,zjf] at hF);first | rewrite [zf4] at hF | rewrite [znF] at hF)
 | ((with_reducible refine zbn ?_);(with_reducible replace hF := zcA 2 hF);((refine Lp.cutI hF rfl rfl ?_ ?_) <;> clear hF);(intro hF);rotate_left;(rintro ⟨_,_⟩ hF);rotate_right)
 | ((with_reducible refine zbd ?_);(with_reducible replace hF := toLp 1 2 hF);exact Lp.headI hF (_,()) ⟨_,rfl,rfl,rfl,rfl⟩ (pr2 (by first | exact rfl | assumption | omega | (simp only [List.length_set];done)) rfl))
 | ((with_reducible refine zbr ?_);(with_reducible replace hF := toLp 1 3 hF);((refine Lp.loopI hF (_,()) rfl ⟨_,rfl,rfl,rfl,rfl⟩ (pr2 (by first | exact rfl | assumption | omega | (simp only [List.length_set];done)) rfl) (λ _=>rfl) ?_);clear hF);(rintro n ⟨_,_,_⟩ hF))
 | ((with_reducible refine zbs ?_);(with_reducible replace hF := toLp 1 3 hF);exact Lp.backI hF (_,()) ⟨_,rfl,rfl,rfl,rfl⟩ (pr2 (by first | exact rfl | assumption | omega | (simp only [List.length_set];done)) rfl))
 | (revert hF;(with_reducible refine G116.lend ?hx ?_);(case hx=>exact rfl);intro v hF;conv=>whnf)
 | (revert hF;(with_reducible refine G117.lend ?hx ?_);(case hx=>exact rfl);intro v hF;conv=>whnf)
 | (revert hF;(with_reducible refine G118.lend ?hx ?_);(case hx=>exact rfl);intro v hF;conv=>whnf)
 | (revert hF;(refine zpE (d := iN) ?hz ?_);(case hz=>exact rfl);intro x hF;conv=>whnf)
 | (revert hF;(with_reducible refine idx1 ?hn ?_);(case hn=>first | exact rfl | exact (List.length_map _) | assumption | omega | simp);intro x hx hF;conv=>whnf)
 | ((with_reducible have hG := zc4 hF);clear hF;(first | ((refine zdq hG ?hn ?hs (λ q hF=>?_));(case hn=>first | exact rfl | assumption | omega);(case hs=>exact rfl)) | ((refine zdB (d := iN) hG ?hs (λ q hF=>?_));(case hs=>exact rfl)) | ((refine zdC (d := iN) hG ?ho ?hn ?hs (λ q hF=>?_));(case ho=>exact rfl);(case hn=>exact rfl);(case hs=>exact rfl)));clear hG;conv=>whnf)
 | ((refine zdr ?hn ?_);(case hn=>first | exact rfl | (simp;done) | (simp;omega));conv=>whnf)
 | ((with_reducible refine zeO ?hn ?_);(case hn=>first | exact rfl | assumption | omega);conv=>whnf)
 | ((with_reducible have hG := zdD hF);clear hF;(refine zer hG ?hs (λ q hl hF=>?_));(case hs=>exact rfl);clear hG;conv=>whnf)
 | ((refine ⟨?hx, ?_⟩);(case hx=>exact ⟨rfl,Nat.le_of_ble_eq_true rfl,rfl⟩);conv=>whnf)
 | ((with_reducible refine zcq ?_);conv=>whnf)
 | ((with_reducible have hG := zhu hF);clear hF;(refine ⟨?hx, ?_⟩);(case hx=>(first | exact of_decide_eq_true hG.1 | exact hG.1));have hF := hG.2;clear hG;conv=>whnf)
 | ((refine ⟨?hx,trivial⟩);(case hx=>(cases hF;exact rfl)))
 | with_reducible refine zbe ?_)

end Go.Vc
namespace Go.Vc
open Go.Proofs
variable {N id : Nat} {ρ : Type} {q : ρ} {xs : List SV} {m : Nat -> Blk} {l : List Loc} {ds : List D} {K : Dl -> List Loc -> Prop} {k0 k1 k2 k3 k4 k5 k6 k7 k8 k9 k10 k11 k12 k13 k14 k15 m0 m1 m2 m3 m4 m5 : Nat}
def zf5 (b800_1 : List Int) : Option (ByteArray) :=
 (neN b800_1).bind λ _ =>
 (neN b800_1).bind λ _ =>
 (some (strB b800_1)).bind λ x3 =>
 some (x3)
def zhM : Lp ((List Int)) (Nat × Unit) (ByteArray) := lpm ⟨[7],[800,90500],[(.cell 800 1,90500,5,1)],[]⟩ (λ b800_1=>zf5 b800_1) (λ _ (_,_)=>[.ptr 800 0]) (λ b800_1 (m0,_)=>[.box [.slf 800 106, .rs 90500 m0], .row 5 1 (List.map u8N b800_1)]) λ b800_1=>(List.length b800_1,())
instance Ef57_c14 {b800_1} : IsLp 1 1 (zf5 b800_1) (zhM) b800_1 := ⟨rfl⟩
instance Cf57_c14 : IsCut 1 (zf5) (zhM) 14 := ⟨⟩
def znH (r10 : Int -> (List Int) -> Option (ByteArray)) (x2 : (List Int) × Int) (k0 : (List Int) -> Option (ByteArray)) (v34 : Int) (b800_1 : List Int) : Option (ByteArray) :=
 bif decide (v34 < (List.length x2.1 : Int)) then ((ix x2.1 v34).bind λ x4 =>
 (app 1 b800_1 [Wk .u8 (W ((48 : Int) + x4))]).bind λ x5 =>
 r10 (W (v34 + (1 : Int))) x5)
 else (k0 b800_1)
def zjg (x2 : (List Int) × Int) (k0 : (List Int) -> Option (ByteArray)) : Nat -> Int -> (List Int) -> Option (ByteArray)
 | 0,_,_=>none
 | n + 1,v34,b800_1=>znH (zjg x2 k0 n) x2 k0 v34 b800_1
def znI (x2 : (List Int) × Int) (k0 : (List Int) -> Option (ByteArray)) : Lp (Nat × Int × (List Int)) (Nat × Unit) (ByteArray) := lpm ⟨[7,32,33,34],[800,90500],[(.cell 800 1,90500,5,1)],[]⟩ (λ (n,v34,b800_1)=>zjg x2 k0 n v34 b800_1) (λ (_,v34,_) (_,_)=>[.ptr 800 0, .dat (zbN x2.1), .dat (iN (List.length x2.1 : Int)), .dat (iN v34)]) (λ (_,_,b800_1) (m0,_)=>[.box [.slf 800 106, .rs 90500 m0], .row 5 1 (List.map u8N b800_1)]) λ (_,_,b800_1)=>(List.length b800_1,())
instance Ef57_10 {x2 k0 n v34 b800_1} : IsLp 1 2 (zjg x2 k0 n v34 b800_1) (znI x2 k0) (n,v34,b800_1) := ⟨rfl⟩
def zjh (N : Nat) (sum3 : Int) : Option (ByteArray) :=
 (f84 N ).bind λ x1 =>
 (f83 N x1 (5 : Int) (Int.tmod sum3 (10000 : Int))).bind λ x2 =>
 zbM zf5 λ k0 =>
 zjg x2 k0 N (0 : Int) []
def zj8 (N : Nat) : Lp (Int) Unit (ByteArray) := lp0 ⟨[3],[],[],[]⟩ (λ sum3=>[.dat (iN sum3)]) (λ _=>[]) (λ sum3=>zjh N sum3)
instance Ef57_c7 {N sum3} : IsLp 0 1 (zjh N sum3) (zj8 N) sum3 := ⟨rfl⟩
instance Cf57_c7 {N} : IsCut 1 (zjh N) (zj8 N) 7 := ⟨⟩
def zo6 (r3 : Int -> Int -> Option (ByteArray)) (a0 : ByteArray) (k1 : Int -> Option (ByteArray)) (sum3 : Int) (v12 : Int) : Option (ByteArray) :=
 bif decide (v12 < (ByteArray.size a0 : Int)) then ((idxS a0 v12).bind λ x6 =>
 r3 (W (sum3 + (W ((W (v12 + (1 : Int))) * x6)))) (W (v12 + (1 : Int))))
 else (k1 sum3)
def znJ (a0 : ByteArray) (k1 : Int -> Option (ByteArray)) : Nat -> Int -> Int -> Option (ByteArray)
 | 0,_,_=>none
 | n + 1,sum3,v12=>zo6 (znJ a0 k1 n) a0 k1 sum3 v12
def zo7 (a0 : ByteArray) (k1 : Int -> Option (ByteArray)) : Lp (Nat × Int × Int) Unit (ByteArray) := lp0 ⟨[0,3,11,12],[],[],[]⟩ (λ (_,sum3,v12)=>[.dat (strN a0), .dat (iN sum3), .dat (iN (ByteArray.size a0 : Int)), .dat (iN v12)]) (λ (_,_,_)=>[]) (λ (n,sum3,v12)=>znJ a0 k1 n sum3 v12)
instance Ef57_3 {a0 k1 n sum3 v12} : IsLp 0 2 (znJ a0 k1 n sum3 v12) (zo7 a0 k1) (n,sum3,v12) := ⟨rfl⟩
def f57 (N : Nat) (a0 : ByteArray) : Option (ByteArray) :=
 zbM (zjh N) λ k1 =>
 znJ a0 k1 N (0 : Int) (0 : Int)
def G57 (ds : List D) (d : D) : Prop := ∃ (N : Nat) (a0 : ByteArray) (r : ByteArray),ds = [strN a0] /\ f57 N a0 = some r /\ d = strN r
theorem G57.lend {a0} {A : _ -> Option ρ} {K : D -> Prop} (hd : ds = [strN a0]) (h : ∀ r,A r = some q -> K (strN r)) (hF : (f57 N a0).bind A = some q) : ∃ d,(G57 ds d /\ d.flatB = true) /\ K d := by
 obtain ⟨r,hr,hA⟩ := bind_some hF;exact ⟨_,⟨⟨N,a0,r,hd,hr,rfl⟩,rfl⟩,h r hA⟩
set_option maxRecDepth 20000 in
set_option maxHeartbeats 4000000 in
theorem P57 : PureOK Tryz.prog 57 G57 := by
 refine zaE (c := zar zah [(85,false,zba (zar zah [(82,true,copyPg 106)]) Tryz.f85),(58,false,zba (zar zah []) Tryz.f58),(84,true,zdt [] G84),(83,true,zdt [[1],[0],[0]] G83)]) rfl tyOK (zaw (zaa Tryz.func85 rfl rfl) (CallOK.inl rfl tyOK (zkP (zaa Tryz.func82 rfl rfl) (zac)) Tryz.func85 (by kernel_rfl)) (zaw (zaa Tryz.func58 rfl rfl) (CallOK.inl rfl tyOK (zac) Tryz.func58 (by kernel_rfl)) (zcI (zaa Tryz.func84 rfl rfl) P84 (zcI (zaa Tryz.func83 rfl rfl) P83 (zac))))) [[0]] 1 Tryz.func57 rfl rfl (by decide) (by kernel_rfl) ?_;rintro ds d ⟨N,a0,r,rfl,hF,rfl⟩ hok;clear hok;refine ⟨rfl, ?_⟩;show vc _ _ _ _ ⟨[(0, .dat (strN a0))],[]⟩ _;unfold f57 at hF
 repeat' (first
 | ((with_reducible first | refine q0 _ _ ?_ | refine q1 _ _ _ _ ?_ | refine q2 _ _ _ ?_);clear Q q0 q1 q2)
 | ((with_reducible first | refine zaI ?hx (λ Q q0 q1 q2=>?_) | refine za2 ?hx (λ Q q0 q1 q2=>?_) | refine zby ?hx (λ Q q0 q1 q2=>?_) | refine zbC ?hx (λ Q q0 q1 q2=>?_));(case hx=>exact rfl);conv=>whnf)
 | ((with_reducible refine zaP ?_);(first | ((refine zbb rfl ?hy ?_);(case hy=>first | assumption | exact notT (by assumption) | exact rfl)) | ((refine zbc rfl ?hy ?_);(case hy=>first | assumption | exact notF (by assumption) | exact rfl)) | (revert hF;(with_reducible refine zbP ?hx ?_ ?_);(case hx=>exact rfl);all_goals (intro hc hF))))
 | ((with_reducible refine zay ?_);(first | ((with_reducible refine hR _ ?_);clear R hR) | ((with_reducible refine hL _ ?_);clear L hL)))
 | ((with_reducible refine zaR ?_);(with_reducible refine hR _ _ ?hx ?_);(case hx=>kernel_rfl);clear R hR)
 | ((with_reducible first | refine zaK ?_ | refine zbm ?_ | refine idx2 (by assumption) ?_ | refine idx3 (by assumption) ?_);conv=>whnf)
 | (with_reducible first | refine zaB ?_ | refine zax ?_ | refine zaH ?_ | refine zaM ?_ | refine zak (λ R hR=>?_) | refine zaj ?_ | refine zan ?_ | refine zbO ?_ | refine zav ?_ | refine zap ?_ | refine zaW ?_ | refine zaN ?_)
 | ((with_reducible refine zaz [14,7] ?hx ?_);(case hx=>exact rfl))
 | ((with_reducible refine za4 ?hx (λ R L hL hR=>?_));(case hx=>exact rfl))
 | ((with_reducible replace hF := isE hF);(dsimp only [zhM,znI,zj8,zo7,zjg,znJ] at hF);first | rewrite [zf5] at hF | rewrite [znH] at hF | rewrite [zjh] at hF | rewrite [zo6] at hF)
 | ((with_reducible refine zbn ?_);(with_reducible replace hF := zcA 1 hF);((refine Lp.cutI hF rfl rfl ?_ ?_) <;> clear hF);(intro hF);rotate_left;(rintro _ hF);rotate_right)
 | ((with_reducible refine zbd ?_);(with_reducible replace hF := toLp 1 1 hF);exact Lp.headI hF (_,()) ⟨_,rfl,rfl,rfl,rfl⟩ (pr2 (by first | exact rfl | assumption | omega | (simp only [List.length_set];done)) rfl))
 | ((with_reducible refine zbr ?_);(with_reducible replace hF := toLp 1 2 hF);((refine Lp.loopI hF (_,()) rfl ⟨_,rfl,rfl,rfl,rfl⟩ (pr2 (by first | exact rfl | assumption | omega | (simp only [List.length_set];done)) rfl) (λ _=>rfl) ?_);clear hF);(rintro n ⟨_,_⟩ hF))
 | ((with_reducible refine zbs ?_);(with_reducible replace hF := toLp 1 2 hF);exact Lp.backI hF (_,()) ⟨_,rfl,rfl,rfl,rfl⟩ (pr2 (by first | exact rfl | assumption | omega | (simp only [List.length_set];done)) rfl))
 | ((with_reducible refine zbd ?_);(with_reducible replace hF := toLp 0 1 hF);exact Lp.headI hF () ⟨_,rfl,rfl,rfl,rfl⟩ rfl)
 | ((with_reducible refine zbr ?_);(with_reducible replace hF := toLp 0 2 hF);((refine Lp.loopI hF () rfl ⟨_,rfl,rfl,rfl,rfl⟩ rfl (λ _=>rfl) ?_);clear hF);(rintro n ⟨_,_⟩ hF))
 | ((with_reducible refine zbs ?_);(with_reducible replace hF := toLp 0 2 hF);exact Lp.backI hF () ⟨_,rfl,rfl,rfl,rfl⟩ rfl)
 | (revert hF;(with_reducible refine G83.step ?hx ?_);(case hx=>exact rfl);intro v hF;conv=>whnf)
 | (revert hF;(with_reducible refine G84.step ?hx ?_);(case hx=>exact rfl);intro v hF;conv=>whnf)
 | ((with_reducible have hI := zm9 hF);clear hI;revert hF;(refine ziC ?_);intro x hF;conv=>whnf)
 | ((with_reducible have hI := zkN hF);clear hI;revert hF;(refine zkM ?hn ?_);(case hn=>first | exact rfl | omega);intro hF;conv=>whnf)
 | ((with_reducible have hI := zm8 hF);clear hI;revert hF;(first | refine ziJ (λ _ h=>h) ?_ | refine zgL ?_);intro x hF;conv=>whnf)
 | ((with_reducible have hI := zkN hF);clear hI;revert hF;(refine zkL ?hn ?_);(case hn=>first | exact rfl | assumption | omega);intro hF;conv=>whnf)
 | (revert hF;(with_reducible refine idx1 ?hn ?_);(case hn=>first | exact rfl | exact (List.length_map _) | assumption | omega | simp);intro x hx hF;conv=>whnf)
 | ((with_reducible have hG := zc4 hF);clear hF;(first | ((refine zdq hG ?hn ?hs (λ q hF=>?_));(case hn=>first | exact rfl | assumption | omega);(case hs=>exact rfl)) | ((refine zdB (d := u8N) hG ?hs (λ q hF=>?_));(case hs=>exact rfl)) | ((refine zdC (d := u8N) hG ?ho ?hn ?hs (λ q hF=>?_));(case ho=>exact rfl);(case hn=>exact rfl);(case hs=>exact rfl)));clear hG;conv=>whnf)
 | ((refine zdr ?hn ?_);(case hn=>first | exact rfl | (simp;done) | (simp;omega));conv=>whnf)
 | ((with_reducible refine zcq ?_);conv=>whnf)
 | ((refine zae 1203 1204000000 rfl rfl (Nat.le_of_ble_eq_true rfl) rfl (λ R hR=>?_));(conv=>whnf);(with_reducible refine hR _ ?ha ?_);(case ha=>exact rfl);clear R hR)
 | ((refine zae 1400 1401000000 rfl rfl (Nat.le_of_ble_eq_true rfl) rfl (λ R hR=>?_));(conv=>whnf);(with_reducible refine hR _ ?ha ?_);(case ha=>exact rfl);clear R hR)
 | (show Kinl _ _ _ _ _ _ _;conv=>whnf)
 | ((with_reducible refine zbt ?ha ?hb ?_);(case ha=>exact rfl);(case hb=>exact rfl);conv=>whnf)
 | ((refine ⟨?hx,trivial⟩);(case hx=>(cases hF;exact rfl)))
 | ((refine ⟨?hx, ?_⟩);(case hx=>decide);conv=>whnf)
 | with_reducible refine zbe ?_)

end Go.Vc
namespace Go.Vc
open Go.Proofs
variable {N id : Nat} {ρ : Type} {q : ρ} {xs : List SV} {m : Nat -> Blk} {l : List Loc} {ds : List D} {K : Dl -> List Loc -> Prop} {k0 k1 k2 k3 k4 k5 k6 k7 k8 k9 k10 k11 k12 k13 k14 k15 m0 m1 m2 m3 m4 m5 : Nat}
def zf6 (s0 : LB) (s1 : LS) (s2 : LE) (s3 : LC) (b1300_1 : List Int) : Option (ByteArray) :=
 (neN b1300_1).bind λ _ =>
 (neN b1300_1).bind λ _ =>
 (some (strB b1300_1)).bind λ x6 =>
 some (x6)
def zhN (s0 : LB) (s1 : LS) (s2 : LE) (s3 : LC) : Lp ((List Int)) (Nat × Nat) (ByteArray) := lpm ⟨[3],[0,1,2,3,4,5,1300,91500],[(.cell 1300 1,91500,5,1)],[]⟩ (λ b1300_1=>zf6 s0 s1 s2 s3 b1300_1) (λ _ (_,_)=>[.ptr 1300 0]) (λ b1300_1 (m0,m1)=>[.box [.ptr 1 0, .rs 2 m0], .box [.mp 3, .mp 4, .mp 5],(rW s0),(sW [4] s1),(eW s2),(mW s3), .box [.slf 1300 106, .rs 91500 m1], .row 5 1 (List.map u8N b1300_1)]) λ b1300_1=>(List.length s0,List.length b1300_1)
instance Ef23_c10 {s0 s1 s2 s3 b1300_1} : IsLp 2 1 (zf6 s0 s1 s2 s3 b1300_1) (zhN s0 s1 s2 s3) b1300_1 := ⟨rfl⟩
instance Cf23_c10 {s0 s1 s2 s3} : IsCut 1 (zf6 s0 s1 s2 s3) (zhN s0 s1 s2 s3) 1000010 := ⟨⟩
def zo8 (r6 : Int -> (List Int) -> Option (ByteArray)) (s0 : LB) (s1 : LS) (s2 : LE) (s3 : LC) (N : Nat) (k0 : (List Int) -> Option (ByteArray)) (v22 : Int) (b1300_1 : List Int) : Option (ByteArray) :=
 bif decide (v22 < (List.length s0 : Int)) then ((ix s0 v22).bind λ x7 =>
 (addS x7 (strC [32])).bind λ x8 =>
 (f57 N x7).bind λ x9 =>
 (addS x8 x9).bind λ x10 =>
 (addS x10 (strC [10])).bind λ x11 =>
 (some (ziB x11)).bind λ x12 =>
 (app 1 b1300_1 x12).bind λ x13 =>
 r6 (W (v22 + (1 : Int))) x13)
 else (k0 b1300_1)
def znK (s0 : LB) (s1 : LS) (s2 : LE) (s3 : LC) (N : Nat) (k0 : (List Int) -> Option (ByteArray)) : Nat -> Int -> (List Int) -> Option (ByteArray)
 | 0,_,_=>none
 | n + 1,v22,b1300_1=>zo8 (znK s0 s1 s2 s3 N k0 n) s0 s1 s2 s3 N k0 v22 b1300_1
def zo9 (s0 : LB) (s1 : LS) (s2 : LE) (s3 : LC) (N : Nat) (k0 : (List Int) -> Option (ByteArray)) : Lp (Nat × Int × (List Int)) (Nat × Nat × Nat) (ByteArray) := lpm ⟨[3,20,21,22],[0,1,2,3,4,5,1300,91500],[(.cell 1300 1,91500,5,1)],[]⟩ (λ (n,v22,b1300_1)=>znK s0 s1 s2 s3 N k0 n v22 b1300_1) (λ (_,v22,_) (m0,_,_)=>[.ptr 1300 0, .rs 2 m0, .dat (iN (List.length s0 : Int)), .dat (iN v22)]) (λ (_,_,b1300_1) (_,m1,m2)=>[.box [.ptr 1 0, .rs 2 m1], .box [.mp 3, .mp 4, .mp 5],(rW s0),(sW [4] s1),(eW s2),(mW s3), .box [.slf 1300 106, .rs 91500 m2], .row 5 1 (List.map u8N b1300_1)]) λ (_,_,b1300_1)=>(List.length s0,List.length s0,List.length b1300_1)
instance Ef23_6 {s0 s1 s2 s3 N k0 n v22 b1300_1} : IsLp 3 2 (znK s0 s1 s2 s3 N k0 n v22 b1300_1) (zo9 s0 s1 s2 s3 N k0) (n,v22,b1300_1) := ⟨rfl⟩
def f23b (self : LB -> LS -> LE -> LC -> Option (ByteArray)) (N : Nat) (s0 : LB) (s1 : LS) (s2 : LE) (s3 : LC) : Option (ByteArray) :=
 (f30 N (List.length s0 : Int)).bind λ x1 =>
 (addS (strC [116,117,115,99,104,101,32]) x1).bind λ x2 =>
 (addS x2 (strC [10])).bind λ x3 =>
 (some (ziB x3)).bind λ x4 =>
 (app 1 [] x4).bind λ x5 =>
 zbM (zf6 s0 s1 s2 s3) λ k0 =>
 znK s0 s1 s2 s3 N k0 N (0 : Int) x5
def f23 : Nat -> LB -> LS -> LE -> LC -> Option (ByteArray)
 | 0,_,_,_,_=>none
 | N + 1,s0,s1,s2,s3=>f23b (f23 N) N s0 s1 s2 s3
def Af23 (s0 : LB) (s1 : LS) (s2 : LE) (s3 : LC) : List SV := [.ptr 0 0]
def Bf23 (s0 : LB) (s1 : LS) (s2 : LE) (s3 : LC) : List Blk := [.box [.ptr 1 0, .rs 2 (List.length s0)], .box [.mp 3, .mp 4, .mp 5],(rW s0),(sW [4] s1),(eW s2),(mW s3)]
def Rf23 (y : ByteArray) : List SV := [.dat (strN y)]
def B1f23 (s0 : LB) (s1 : LS) (s2 : LE) (s3 : LC) (y : ByteArray) : List Blk := [.box [.ptr 1 0, .rs 2 (List.length s0)], .box [.mp 3, .mp 4, .mp 5],(rW s0),(sW [4] s1),(eW s2),(mW s3)]
def BZf23 (y : ByteArray) : List Blk := []
def znL : Spec (LB × LS × LE × LC) (ByteArray) := ⟨6,[],λ x=>Af23 x.1 x.2.1 x.2.2.1 x.2.2.2,λ x=>Bf23 x.1 x.2.1 x.2.2.1 x.2.2.2,λ _ y=>Rf23 y,λ x y=>B1f23 x.1 x.2.1 x.2.2.1 x.2.2.2 y,λ _ y=>BZf23 y⟩
def H23 (N : Nat) (x : LB × LS × LE × LC) (y : ByteArray) : Prop := f23 N x.1 x.2.1 x.2.2.1 x.2.2.2 = some y
def G23 (x : LB × LS × LE × LC) (y : ByteArray) : Prop := ∃ N,H23 N x y
theorem G23.step {s0 s1 s2 s3} {A : _ -> Option ρ} (ha : xs = [.ptr k0 0]) (b0 : m k0 = .box [.ptr k1 0, .rs k2 m0]) (b1 : m k1 = .box [.mp k3, .mp k4, .mp k5]) (b2 : m k2 = (rW s0)) (b3 : m k3 = (sW [k4] s1)) (b4 : m k4 = (eW s2)) (b5 : m k5 = (mW s3)) (em0 : m0 = List.length s0) (hu : True) (hn : za6 [k0,k1,k2,k3,k4,k5] = true) (h : ∀ y,A y = some q -> K ⟨.dat (strN y),[(k0, .box [.ptr k1 0, .rs k2 (List.length s0)]),(k1, .box [.mp k3, .mp k4, .mp k5]),(k2,(rW s0)),(k3,(sW [k4] s1)),(k4,(eW s2)),(k5,(mW s3))]⟩ ([Loc.b k0,Loc.b k1,Loc.b k2,Loc.b k3,Loc.b k4,Loc.b k5] ++ l)) (hF : (f23 N s0 s1 s2 s3).bind A = some q) : effPg znL (G23) xs id (λ _=>SV.no) m l K := by
 subst em0;obtain ⟨y,hy,hA⟩ := bind_some hF;exact zaU [k0,k1,k2,k3,k4,k5] (s0,s1,s2,s3) y _ ⟨N,hy⟩ rfl hn ha (by simp only [List.map_cons,List.map_nil,b0,b1,b2,b3,b4,b5];rfl) rfl rfl rfl (h y hA)
def Srf23 : Ann := ⟨[0],[0,1,2,3,4,5],[],[]⟩
def zrW : Ann := ⟨[0],[0,1,2,3,4,5],[],[]⟩
set_option maxRecDepth 20000 in
set_option maxHeartbeats 4000000 in
theorem Q23 (N : Nat) : CallOK Tryz.prog 23 (effPg znL (H23 N)) := by
 induction N with
 | zero=>exact zaX λ x y h=>(by cases (show (none : Option (ByteArray)) = some y from h))
 | succ N ih =>
  refine zaF (c := zar zah [(23,true,effPg znL (H23 N)),(58,false,zba (zar zah []) Tryz.f58),(56,false,zba (zar zah [(82,true,copyPg 106)]) Tryz.f56),(53,false,zba (zar zah []) Tryz.f53),(57,true,lendPg [[0]] G57),(30,true,lendPg [[0]] G30)]) rfl tyOK (zao (zaa Tryz.func23 rfl rfl) ih (zaw (zaa Tryz.func58 rfl rfl) (CallOK.inl rfl tyOK (zac) Tryz.func58 (by kernel_rfl)) (zaw (zaa Tryz.func56 rfl rfl) (CallOK.inl rfl tyOK (zkP (zaa Tryz.func82 rfl rfl) (zac)) Tryz.func56 (by kernel_rfl)) (zaw (zaa Tryz.func53 rfl rfl) (CallOK.inl rfl tyOK (zac) Tryz.func53 (by kernel_rfl)) (zaJ (zaa Tryz.func57 rfl rfl) P57 (zaJ (zaa Tryz.func30 rfl rfl) P30 (zac))))))) 1000 Srf23 zrW Tryz.func23 rfl rfl (by kernel_rfl) rfl rfl rfl rfl rfl rfl rfl rfl (λ _=>rfl) (λ _=>rfl) (λ _ _=>⟨rfl,rfl⟩) ?_;rintro ⟨s0,s1,s2,s3⟩ y hF;have hF : f23b (f23 N) N s0 s1 s2 s3 = some y := hF;show vc _ _ _ _ ⟨[(0, .ptr 0 0)],[(0, .box [.ptr 1 0, .rs 2 (List.length s0)]),(1, .box [.mp 3, .mp 4, .mp 5]),(2,(rW s0)),(3,(sW [4] s1)),(4,(eW s2)),(5,(mW s3))]⟩ _;unfold f23b at hF
  repeat' (first
 | ((with_reducible first | refine q0 _ _ ?_ | refine q1 _ _ _ _ ?_ | refine q2 _ _ _ ?_);clear Q q0 q1 q2)
 | ((with_reducible first | refine zaI ?hx (λ Q q0 q1 q2=>?_) | refine za2 ?hx (λ Q q0 q1 q2=>?_) | refine zby ?hx (λ Q q0 q1 q2=>?_) | refine zbC ?hx (λ Q q0 q1 q2=>?_));(case hx=>exact rfl);conv=>whnf)
 | ((with_reducible refine zaP ?_);(first | ((refine zbb rfl ?hy ?_);(case hy=>first | assumption | exact notT (by assumption) | exact rfl)) | ((refine zbc rfl ?hy ?_);(case hy=>first | assumption | exact notF (by assumption) | exact rfl)) | (revert hF;(with_reducible refine zbP ?hx ?_ ?_);(case hx=>exact rfl);all_goals (intro hc hF))))
 | ((with_reducible refine zay ?_);(first | ((with_reducible refine hR _ ?_);clear R hR) | ((with_reducible refine hL _ ?_);clear L hL)))
 | ((with_reducible refine zaR ?_);(with_reducible refine hR _ _ ?hx ?_);(case hx=>kernel_rfl);clear R hR)
 | ((with_reducible first | refine zaK ?_ | refine zbm ?_ | refine idx2 (by assumption) ?_ | refine idx3 (by assumption) ?_);conv=>whnf)
 | (with_reducible first | refine zaB ?_ | refine zax ?_ | refine zaH ?_ | refine zaM ?_ | refine zak (λ R hR=>?_) | refine zaj ?_ | refine zan ?_ | refine zbO ?_ | refine zav ?_ | refine zap ?_ | refine zaW ?_ | refine zaN ?_)
 | ((with_reducible refine zaz [1000010] ?hx ?_);(case hx=>exact rfl))
 | ((with_reducible refine za4 ?hx (λ R L hL hR=>?_));(case hx=>exact rfl))
 | ((with_reducible replace hF := isE hF);(dsimp only [zhN,zo9,znK] at hF);first | rewrite [zf6] at hF | rewrite [zo8] at hF)
 | ((with_reducible refine zbn ?_);(with_reducible replace hF := zcA 1 hF);((refine Lp.cutI hF rfl rfl ?_ ?_) <;> clear hF);(intro hF);rotate_left;(rintro _ hF);rotate_right)
 | ((with_reducible refine zbd ?_);(with_reducible replace hF := toLp 2 1 hF);exact Lp.headI hF (_,_) ⟨_,rfl,rfl,rfl,rfl⟩ (pr2 (by first | exact rfl | assumption | omega | (simp only [List.length_set];done)) (by first | exact rfl | assumption | omega | (simp only [List.length_set];done))))
 | ((with_reducible refine zbr ?_);(with_reducible replace hF := toLp 3 2 hF);((refine Lp.loopI hF (_,_,_) rfl ⟨_,rfl,rfl,rfl,rfl⟩ (pr2 (by first | exact rfl | assumption | omega | (simp only [List.length_set];done)) (pr2 (by first | exact rfl | assumption | omega | (simp only [List.length_set];done)) (by first | exact rfl | assumption | omega | (simp only [List.length_set];done)))) (λ _=>rfl) ?_);clear hF);(rintro n ⟨_,_⟩ hF))
 | ((with_reducible refine zbs ?_);(with_reducible replace hF := toLp 3 2 hF);exact Lp.backI hF (_,_,_) ⟨_,rfl,rfl,rfl,rfl⟩ (pr2 (by first | exact rfl | assumption | omega | (simp only [List.length_set];done)) (pr2 (by first | exact rfl | assumption | omega | (simp only [List.length_set];done)) (by first | exact rfl | assumption | omega | (simp only [List.length_set];done)))))
 | (revert hF;(with_reducible refine G30.lend ?hx ?_);(case hx=>exact rfl);intro v hF;conv=>whnf)
 | (revert hF;(with_reducible refine G57.lend ?hx ?_);(case hx=>exact rfl);intro v hF;conv=>whnf)
 | (cases hF;(refine Or.inl ?_);(conv=>whnf);exact ⟨rfl,rfl,rfl⟩)
 | ((with_reducible have hI := zpL hF);clear hI;revert hF;(refine zmM ?_);intro x hF;conv=>whnf)
 | ((with_reducible have hI := zm7 hF);clear hI;revert hF;(refine zjZ ?_);intro x hF;conv=>whnf)
 | ((with_reducible have hI := zkN hF);clear hI;revert hF;(refine zkM ?hn ?_);(case hn=>first | exact rfl | omega);intro hF;conv=>whnf)
 | ((with_reducible have hI := zm8 hF);clear hI;revert hF;(first | refine ziJ (λ _ h=>h) ?_ | refine zgL ?_);intro x hF;conv=>whnf)
 | ((with_reducible have hI := zkN hF);clear hI;revert hF;(refine zkL ?hn ?_);(case hn=>first | exact rfl | assumption | omega);intro hF;conv=>whnf)
 | (revert hF;(with_reducible refine idx1 ?hn ?_);(case hn=>first | exact rfl | exact (List.length_map _) | assumption | omega | simp);intro x hx hF;conv=>whnf)
 | ((with_reducible have hG := zc4 hF);clear hF;(first | ((refine zdq hG ?hn ?hs (λ q hF=>?_));(case hn=>first | exact rfl | assumption | omega);(case hs=>exact rfl)) | ((refine zdB (d := u8N) hG ?hs (λ q hF=>?_));(case hs=>exact rfl)) | ((refine zdC (d := u8N) hG ?ho ?hn ?hs (λ q hF=>?_));(case ho=>exact rfl);(case hn=>exact rfl);(case hs=>exact rfl)));clear hG;conv=>whnf)
 | ((with_reducible refine zeO ?hn ?_);(case hn=>first | exact rfl | assumption | omega);conv=>whnf)
 | ((with_reducible refine zcq ?_);conv=>whnf)
 | ((with_reducible refine zbZ ?hx ?_);(case hx=>first | exact rfl | assumption | exact notF (by assumption));conv=>whnf)
 | ((refine zae 1101 1102000000 rfl rfl (Nat.le_of_ble_eq_true rfl) rfl (λ R hR=>?_));(conv=>whnf);(with_reducible refine hR _ ?ha ?_);(case ha=>exact rfl);clear R hR)
 | ((refine zae 1408 1409000000 rfl rfl (Nat.le_of_ble_eq_true rfl) rfl (λ R hR=>?_));(conv=>whnf);(with_reducible refine hR _ ?ha ?_);(case ha=>exact rfl);clear R hR)
 | ((refine zae 1806 1807000000 rfl rfl (Nat.le_of_ble_eq_true rfl) rfl (λ R hR=>?_));(conv=>whnf);(with_reducible refine hR _ ?ha ?_);(case ha=>exact rfl);clear R hR)
 | ((refine zae 2000 2001000000 rfl rfl (Nat.le_of_ble_eq_true rfl) rfl (λ R hR=>?_));(conv=>whnf);(with_reducible refine hR _ ?ha ?_);(case ha=>exact rfl);clear R hR)
 | (show Kinl _ _ _ _ _ _ _;conv=>whnf)
 | ((with_reducible refine zbt ?ha ?hb ?_);(case ha=>exact rfl);(case hb=>exact rfl);conv=>whnf)
 | with_reducible refine zbe ?_)
theorem P23 : CallOK Tryz.prog 23 (effPg znL G23) := zbE Q23

end Go.Vc
namespace Go.Vc
open Go.Proofs
variable {N id : Nat} {ρ : Type} {q : ρ} {xs : List SV} {m : Nat -> Blk} {l : List Loc} {ds : List D} {K : Dl -> List Loc -> Prop} {k0 k1 k2 k3 k4 k5 k6 k7 k8 k9 k10 k11 k12 k13 k14 k15 m0 m1 m2 m3 m4 m5 : Nat}
def zf7 (N : Nat) (x18 : Int × LS × LE × LC × LB) (x19 : Int × ByteArray × Int) (x20 : Tally × Int) (b106_1' : LB) : Option (Bool) :=
 bif decide (x19.2.2 = (0 : Int)) then (bif decide (x20.2 = (0 : Int)) then (bif decide (x19.1 = (8 : Int)) then (bif decide (x19.2.1 = zgI) then (bif (decide (x20.1.Paper = (100 : Int)) && (decide (x20.1.Delivered = (59 : Int)) && (decide (x20.1.Spoilt = (26 : Int)) && (decide (x20.1.Lost = (15 : Int)) && (decide (x20.1.Rest = (0 : Int)) && true))))) then ((f18 N (strC [101,100,105,116,105,111,110,32,77,97,112]) x18.2.2.2.2 x18.2.1 x18.2.2.1 x18.2.2.2.1).bind λ x21 =>
 bif decide (x21.1 = (8 : Int)) then ((f18 N (strC [115,116,111,110,101,32,99,32,48]) x21.2.2.2.2 x21.2.1 x21.2.2.1 x21.2.2.2.1).bind λ x22 =>
 bif decide (x22.1 = (4 : Int)) then ((f18 N (strC [112,114,105,110,116,32,98,32,49]) x22.2.2.2.2 x22.2.1 x22.2.2.1 x22.2.2.2.1).bind λ x23 =>
 bif decide (x23.1 = (9 : Int)) then ((f23 N (b106_1') [] [] []).bind λ x24 =>
 bif decide (x24 = (strC [116,117,115,99,104,101,32,48,10])) then ((f18 N (strC [101,100,105,116,105,111,110,32,97]) (b106_1') [] [] []).bind λ x25 =>
 bif decide (x25.1 = (0 : Int)) then ((f23 N x25.2.2.2.2 x25.2.1 x25.2.2.1 x25.2.2.2.1).bind λ x26 =>
 some (decide (x26 = (strC [116,117,115,99,104,101,32,49,10,101,100,105,116,105,111,110,32,97,32,52,49,55,48,54,10]))))
 else (some (false)))
 else (some (false)))
 else (some (false)))
 else (some (false)))
 else (some (false)))
 else (some (false)))
 else (some (false)))
 else (some (false)))
 else (some (false)))
 else (some (false))
def zhO (N : Nat) (x18 : Int × LS × LE × LC × LB) (x19 : Int × ByteArray × Int) (x20 : Tally × Int) : Lp (LB) (Nat × Nat) (Bool) := lpm ⟨[1,5,6,7,9,10,11],[905,1813,90520,zr3,zr1,zr4,zr5,zr2,2201000100,2201000101,2201000102,2201000104,2201000106],[(.cell 2201000106 1,90520,9,1)],[]⟩ (λ b106_1' => zf7 N x18 x19 x20 b106_1') (λ _ (_,_)=>[.ptr zr2 0, .dat (iN x19.2.2), .ptr 905 0, .dat (iN x20.2), .dat (iN x19.1), .dat (strN x19.2.1), .ptr 2201000106 0]) (λ b106_1' (m0,m1)=>[.box [.dat (iN x20.1.Paper), .dat (iN x20.1.Delivered), .dat (iN x20.1.Spoilt), .dat (iN x20.1.Lost), .dat (iN x20.1.Rest)],(rW x18.2.2.2.2),(rW b106_1'),(sW [zr1] x18.2.1),(eW x18.2.2.1),(mW x18.2.2.2.1), .box [.mp zr3, .mp zr1, .mp zr4], .box [.ptr zr5 0, .rs 1813 m0], .fam [2201000101] (encF strN StoneM.m []) [], .fam [] (encF strN EditionM.m []) [], .mp (encM strN bN []), .box [.mp 2201000100, .mp 2201000101, .mp 2201000102], .box [.ptr 2201000104 0, .rs 90520 m1]]) λ b106_1' => (List.length x18.2.2.2.2,List.length (b106_1'))
instance Ef14_c23 {N x18 x19 x20 b106_1'} : IsLp 2 1 (zf7 N x18 x19 x20 b106_1') (zhO N x18 x19 x20) b106_1' := ⟨rfl⟩
instance Cf14_c23 {N x18 x19 x20} : IsCut 1 (zf7 N x18 x19 x20) (zhO N x18 x19 x20) 23 := ⟨⟩
def zji (N : Nat) (b106_1 : LB) (b100 : LS) (b101 : LE) (b102 : LC) : Option (Bool) :=
 (f33 N (strC [109,97,112]) b106_1 b100 b101 b102).bind λ x2 =>
 (f34 N (strC [109,97,112]) b106_1 b100 b101 b102).bind λ x3 =>
 bif decide (¬ x2.2 = (0 : Int)) then (some (false))
 else (bif decide (¬ x3.2 = (0 : Int)) then (some (false))
 else ((f35 N x2.1 [(15 : Int),(28 : Int),(50 : Int)]).bind λ x4 =>
 bif !x4 then (some (false))
 else (bif !(decide (x3.1.Paper = (100 : Int)) && (decide (x3.1.Delivered = (0 : Int)) && (decide (x3.1.Spoilt = (7 : Int)) && (decide (x3.1.Lost = (0 : Int)) && (decide (x3.1.Rest = (93 : Int)) && true))))) then (some (false))
 else ((f18 N (strC [100,114,97,119,32,97,32,109,97,112]) b106_1 b100 b101 b102).bind λ x5 =>
 bif decide (¬ x5.1 = (20 : Int)) then (some (false))
 else ((f18 N (strC [112,114,105,110,116,32,98,32,50,57,32,48]) x5.2.2.2.2 x5.2.1 x5.2.2.1 x5.2.2.2.1).bind λ x6 =>
 bif decide (¬ x6.1 = (16 : Int)) then (some (false))
 else ((f18 N (strC [100,101,108,105,118,101,114,32,97,110,110,32,109,97,112,32,53,49]) x6.2.2.2.2 x6.2.1 x6.2.2.1 x6.2.2.2.1).bind λ x7 =>
 bif decide (¬ x7.1 = (16 : Int)) then (some (false))
 else ((f17 N (strC [103,114,105,110,100,32,98]) x7.2.2.2.2 x7.2.1 x7.2.2.1 x7.2.2.2.1).bind λ x8 =>
 bif decide (¬ x8 = (12 : Int)) then (some (false))
 else ((f18 N (strC [103,114,105,110,100,32,97]) x7.2.2.2.2 x7.2.1 x7.2.2.1 x7.2.2.2.1).bind λ x9 =>
 bif decide (¬ x9.1 = (0 : Int)) then (some (false))
 else ((f18 N (strC [112,114,105,110,116,32,97,32,49,32,48]) x9.2.2.2.2 x9.2.1 x9.2.2.1 x9.2.2.2.1).bind λ x10 =>
 bif decide (¬ x10.1 = (1 : Int)) then (some (false))
 else ((f18 N (strC [100,101,108,105,118,101,114,32,97,110,110,32,109,97,112,32,53,48]) x10.2.2.2.2 x10.2.1 x10.2.2.1 x10.2.2.2.1).bind λ x11 =>
 bif decide (¬ x11.1 = (0 : Int)) then (some (false))
 else ((f36 N (strC [97,110,110]) (strC [109,97,112]) x11.2.2.2.2 x11.2.1 x11.2.2.1 x11.2.2.2.1).bind λ x12 =>
 bif decide (¬ x12.2 = (0 : Int)) then (some (false))
 else (bif decide (¬ x12.1 = (10 : Int)) then (some (false))
 else ((f18 N (strC [112,114,105,110,116,32,98,32,57,32,49,56]) x11.2.2.2.2 x11.2.1 x11.2.2.1 x11.2.2.2.1).bind λ x13 =>
 bif decide (¬ x13.1 = (0 : Int)) then (some (false))
 else ((f18 N (strC [103,114,105,110,100,32,98]) x13.2.2.2.2 x13.2.1 x13.2.2.1 x13.2.2.2.1).bind λ x14 =>
 bif decide (¬ x14.1 = (12 : Int)) then (some (false))
 else ((f18 N (strC [112,114,105,110,116,32,98,32,48,32,49]) x14.2.2.2.2 x14.2.1 x14.2.2.1 x14.2.2.2.1).bind λ x15 =>
 bif decide (¬ x15.1 = (0 : Int)) then (some (false))
 else ((f40 N (strC [109,97,112]) x15.2.2.2.2 x15.2.1 x15.2.2.1 x15.2.2.2.1).bind λ x16 =>
 bif decide (¬ x16.2 = (0 : Int)) then (some (false))
 else (bif decide (¬ x16.1 = (1 : Int)) then (some (false))
 else ((f18 N (strC [103,114,105,110,100,32,98]) x15.2.2.2.2 x15.2.1 x15.2.2.1 x15.2.2.2.1).bind λ x17 =>
 bif decide (¬ x17.1 = (0 : Int)) then (some (false))
 else ((f18 N (strC [100,101,108,105,118,101,114,32,97,110,110,32,109,97,112,32,57]) x17.2.2.2.2 x17.2.1 x17.2.2.1 x17.2.2.2.1).bind λ x18 =>
 bif decide (¬ x18.1 = (0 : Int)) then (some (false))
 else ((f32 N (strC [98]) x18.2.2.2.2 x18.2.1 x18.2.2.1 x18.2.2.2.1).bind λ x19 =>
 (f34 N (strC [109,97,112]) x18.2.2.2.2 x18.2.1 x18.2.2.1 x18.2.2.2.1).bind λ x20 =>
 zbM (zf7 N x18 x19 x20) λ k0 =>
 k0 []))))))))))))))))))))
def zj9 (N : Nat) : Lp (LB × LS × LE × LC) (Nat × Unit) (Bool) := lpm ⟨[1],[90500,zr3,zr1,zr4,zr5,zr2],[(.cell zr2 1,90500,9,1)],[]⟩ (λ (b106_1,b100,b101,b102)=>zji N b106_1 b100 b101 b102) (λ (_,_,_,_) (_,_)=>[.ptr zr2 0]) (λ (b106_1,b100,b101,b102) (m0,_)=>[(rW b106_1),(sW [zr1] b100),(eW b101),(mW b102), .box [.mp zr3, .mp zr1, .mp zr4], .box [.ptr zr5 0, .rs 90500 m0]]) λ (b106_1,_,_,_)=>(List.length b106_1,())
instance Ef14_c8 {N b106_1 b100 b101 b102} : IsLp 1 4 (zji N b106_1 b100 b101 b102) (zj9 N) (b106_1,b100,b101,b102) := ⟨rfl⟩
instance Cf14_c8 {N} : IsCut 4 (zji N) (zj9 N) 8 := ⟨⟩
def zgV (N : Nat) (x1 : LB) (v3 : Int) (b106_1 : LB) (b100 : LS) (b101 : LE) (b102 : LC) (r4 : Int -> LB -> LS -> LE -> LC -> Option (Bool)) : Option (Bool) :=
 (ix x1 v3).bind λ x27 =>
 (f18 N x27 b106_1 b100 b101 b102).bind λ x28 =>
 bif decide (¬ x28.1 = (0 : Int)) then (some (false))
 else (r4 (W (v3 + (1 : Int))) x28.2.2.2.2 x28.2.1 x28.2.2.1 x28.2.2.2.1)
def zk (N : Nat) (x1 : LB) (v3 : Int) (b106_1 : LB) (b100 : LS) (b101 : LE) (b102 : LC) (r4 : Int -> LB -> LS -> LE -> LC -> Option (Bool)) : Lp (Unit) (Nat × Unit) (Bool) := lpm ⟨[1,2,3],[90500,zr3,zr1,zr4,zr5,zr2],[],[]⟩ (λ _=>zgV N x1 v3 b106_1 b100 b101 b102 r4) (λ _ (_,_)=>[.ptr zr2 0, .dat (zbA x1), .dat (iN v3)]) (λ _ (m0,_)=>[(rW b106_1),(sW [zr1] b100),(eW b101),(mW b102), .box [.mp zr3, .mp zr1, .mp zr4], .box [.ptr zr5 0, .rs 90500 m0]]) λ _=>(List.length b106_1,())
instance Ef14_c6 {N x1 v3 b106_1 b100 b101 b102 r4} : IsLp 1 0 (zgV N x1 v3 b106_1 b100 b101 b102 r4) (zk N x1 v3 b106_1 b100 b101 b102 r4) () := ⟨rfl⟩
instance Cf14_c6 {N x1 v3 b106_1 b100 b101 b102 r4} : IsCut 0 (zgV N x1 v3 b106_1 b100 b101 b102 r4) (zk N x1 v3 b106_1 b100 b101 b102 r4) 6 := ⟨⟩
def zp (r4 : Int -> LB -> LS -> LE -> LC -> Option (Bool)) (N : Nat) (x1 : LB) (k1 : LB -> LS -> LE -> LC -> Option (Bool)) (v3 : Int) (b106_1 : LB) (b100 : LS) (b101 : LE) (b102 : LC) : Option (Bool) :=
 zbM (zgV N x1 v3 b106_1 b100 b101 b102 r4) λ k2 =>
 bif decide (v3 < (List.length x1 : Int)) then k2
 else (k1 b106_1 b100 b101 b102)
def znM (N : Nat) (x1 : LB) (k1 : LB -> LS -> LE -> LC -> Option (Bool)) : Nat -> Int -> LB -> LS -> LE -> LC -> Option (Bool)
 | 0,_,_,_,_,_=>none
 | n + 1,v3,b106_1,b100,b101,b102=>zp (znM N x1 k1 n) N x1 k1 v3 b106_1 b100 b101 b102
def zpa (N : Nat) (x1 : LB) (k1 : LB -> LS -> LE -> LC -> Option (Bool)) : Lp (Nat × Int × LB × LS × LE × LC) (Nat × Unit) (Bool) := lpm ⟨[1,2,3],[90500,zr3,zr1,zr4,zr5,zr2],[(.cell zr2 1,90500,9,1)],[]⟩ (λ (n,v3,b106_1,b100,b101,b102)=>znM N x1 k1 n v3 b106_1 b100 b101 b102) (λ (_,v3,_,_,_,_) (_,_)=>[.ptr zr2 0, .dat (zbA x1), .dat (iN v3)]) (λ (_,_,b106_1,b100,b101,b102) (m0,_)=>[(rW b106_1),(sW [zr1] b100),(eW b101),(mW b102), .box [.mp zr3, .mp zr1, .mp zr4], .box [.ptr zr5 0, .rs 90500 m0]]) λ (_,_,b106_1,_,_,_)=>(List.length b106_1,())
instance Ef14_4 {N x1 k1 n v3 b106_1 b100 b101 b102} : IsLp 1 5 (znM N x1 k1 n v3 b106_1 b100 b101 b102) (zpa N x1 k1) (n,v3,b106_1,b100,b101,b102) := ⟨rfl⟩
def f14 (N : Nat) : Option (Bool) :=
 (f44 N ).bind λ x1 =>
 zbM (zji N) λ k1 =>
 znM N x1 k1 N (0 : Int) [] [] [] []
def G14 (ds : List D) (d : D) : Prop := ∃ (N : Nat) (r : Bool),ds = [] /\ f14 N  = some r /\ d = bN r
theorem G14.lend {A : _ -> Option ρ} {K : D -> Prop} (hd : ds = []) (h : ∀ r,A r = some q -> K (bN r)) (hF : (f14 N ).bind A = some q) : ∃ d,(G14 ds d /\ d.flatB = true) /\ K d := by
 obtain ⟨r,hr,hA⟩ := bind_some hF;exact ⟨_,⟨⟨N,r,hd,hr,rfl⟩,rfl⟩,h r hA⟩
set_option maxRecDepth 20000 in
set_option maxHeartbeats 4000000 in
theorem P14 : PureOK Tryz.prog 14 G14 := by
 refine zaE (c := zar zah [(15,false,zba (zar zah []) Tryz.f15),(40,true,effPg zny G40),(36,true,effPg znx G36),(34,true,effPg znw G34),(33,true,effPg znv G33),(32,true,effPg znu G32),(23,true,effPg znL G23),(18,true,effPg znE G18),(17,true,effPg znD G17),(44,true,zdt [] G44),(35,true,lendPg [[1],[1]] G35)]) rfl tyOK (zaw (zaa Tryz.func15 rfl rfl) (CallOK.inl rfl tyOK (zac) Tryz.func15 (by kernel_rfl)) (zao (zaa Tryz.func40 rfl rfl) P40 (zao (zaa Tryz.func36 rfl rfl) P36 (zao (zaa Tryz.func34 rfl rfl) P34 (zao (zaa Tryz.func33 rfl rfl) P33 (zao (zaa Tryz.func32 rfl rfl) P32 (zao (zaa Tryz.func23 rfl rfl) P23 (zao (zaa Tryz.func18 rfl rfl) P18 (zao (zaa Tryz.func17 rfl rfl) P17 (zcI (zaa Tryz.func44 rfl rfl) P44 (zaJ (zaa Tryz.func35 rfl rfl) P35 (zac)))))))))))) [[0]] 0 Tryz.func14 rfl rfl (by decide) (by kernel_rfl) ?_;rintro ds d ⟨N,r,rfl,hF,rfl⟩ hok;clear hok;refine ⟨rfl, ?_⟩;show vc _ _ _ _ ⟨[],[]⟩ _;unfold f14 at hF
 repeat' (first
 | ((with_reducible first | refine q0 _ _ ?_ | refine q1 _ _ _ _ ?_ | refine q2 _ _ _ ?_);clear Q q0 q1 q2)
 | ((with_reducible first | refine zaI ?hx (λ Q q0 q1 q2=>?_) | refine zby ?hx (λ Q q0 q1 q2=>?_));(case hx=>exact rfl);conv=>whnf)
 | ((with_reducible first | refine zbT ?hx ?_ | refine zbw ?hx ?_ | refine zbf ?hx ?_ | refine zbv ?hx ?_);(case hx=>exact rfl))
 | ((with_reducible refine zc5 ?_);(first | ((first | refine zcB rfl ?hy (λ Q q0 q1 q2=>?_) | refine zb4 rfl ?hy (λ Q q0 q1 q2=>?_));(case hy=>first | assumption | exact notT (by assumption) | exact rfl);conv=>whnf) | ((first | refine zb3 rfl ?hy ?_ | refine zbQ rfl ?hy ?_);(case hy=>first | assumption | exact notF (by assumption) | exact rfl)) | (revert hF;(with_reducible first | refine zcC ?hx ?_ ?_ | refine zb5 ?hx ?_ ?_);(case hx=>exact rfl);(intro hc hF Q q0 q1 q2;conv=>whnf);rotate_left;(intro hc hF);rotate_right) | (revert hF;(with_reducible first | refine zcD ?hx ?_ ?_ | refine zb6 ?hx ?_ ?_);(case hx=>exact rfl);(intro hc hF);rotate_left;(intro hc hF Q q0 q1 q2;conv=>whnf);rotate_right)))
 | ((with_reducible refine zaP ?_);(first | ((refine zbb rfl ?hy ?_);(case hy=>first | assumption | exact notT (by assumption) | exact rfl)) | ((refine zbc rfl ?hy ?_);(case hy=>first | assumption | exact notF (by assumption) | exact rfl)) | (revert hF;(with_reducible refine zbP ?hx ?_ ?_);(case hx=>exact rfl);all_goals (intro hc hF))))
 | ((with_reducible refine zc5 ?_);(refine zkl zr3 zr1 (ks := []) rfl rfl ?_);dsimp only [St.kid];(first | ((with_reducible refine hR _ ?_);clear R hR) | ((with_reducible refine hL _ ?_);clear L hL)))
 | ((with_reducible refine zc5 ?_);(refine zkl 2201000100 2201000101 (ks := []) rfl rfl ?_);dsimp only [St.kid];(first | ((with_reducible refine hR _ ?_);clear R hR) | ((with_reducible refine hL _ ?_);clear L hL)))
 | ((with_reducible refine zay ?_);(first | ((with_reducible refine hR _ ?_);clear R hR) | ((with_reducible refine hL _ ?_);clear L hL)))
 | ((with_reducible first | refine zaK ?_ | refine zbm ?_ | refine idx2 (by assumption) ?_ | refine idx3 (by assumption) ?_);conv=>whnf)
 | (with_reducible first | refine zaB ?_ | refine zax ?_ | refine zaH ?_ | refine zaM ?_ | refine zak (λ R hR=>?_) | refine zaj ?_ | refine zan ?_ | refine zbO ?_ | refine zav ?_ | refine zap ?_ | refine zaW ?_ | refine zaN ?_)
 | ((with_reducible refine zaz [23,8,6] ?hx ?_);(case hx=>exact rfl))
 | ((with_reducible replace hF := isE hF);(dsimp only [zhO,zj9,zk,zpa,znM] at hF);first | ((with_reducible replace hF := chkE (e := zgV ..) hF);rewrite [zgV] at hF) | rewrite [zf7] at hF | rewrite [zji] at hF | rewrite [zp] at hF)
 | ((with_reducible refine zbn ?_);(with_reducible replace hF := zcA 1 hF);((refine Lp.cutI hF rfl rfl ?_ ?_) <;> clear hF);(intro hF);rotate_left;(rintro _ hF);rotate_right)
 | ((with_reducible refine zbd ?_);(with_reducible replace hF := toLp 2 1 hF);exact Lp.headI hF (_,_) ⟨_,rfl,rfl,rfl,rfl⟩ (pr2 (by first | exact rfl | assumption | omega | (simp only [List.length_set];done)) (by first | exact rfl | assumption | omega | (simp only [List.length_set];done))))
 | ((with_reducible refine zbn ?_);(with_reducible replace hF := zcA 4 hF);((refine Lp.cutI hF rfl rfl ?_ ?_) <;> clear hF);(intro hF);rotate_left;(rintro ⟨_,_,_,_⟩ hF);rotate_right)
 | ((with_reducible refine zbd ?_);(with_reducible replace hF := toLp 1 4 hF);exact Lp.headI hF (_,()) ⟨_,rfl,rfl,rfl,rfl⟩ (pr2 (by first | exact rfl | assumption | omega | (simp only [List.length_set];done)) rfl))
 | ((with_reducible refine zbn ?_);(with_reducible replace hF := zcA 0 hF);((refine Lp.cutI hF rfl rfl ?_ ?_) <;> clear hF);(intro hF);rotate_left;(rintro _ hF);rotate_right)
 | ((with_reducible refine zbd ?_);(with_reducible replace hF := toLp 1 0 hF);exact Lp.headI hF (_,()) ⟨_,rfl,rfl,rfl,rfl⟩ (pr2 (by first | exact rfl | assumption | omega | (simp only [List.length_set];done)) rfl))
 | ((with_reducible refine zbr ?_);(with_reducible replace hF := toLp 1 5 hF);((refine Lp.loopI hF (_,()) rfl ⟨_,rfl,rfl,rfl,rfl⟩ (pr2 (by first | exact rfl | assumption | omega | (simp only [List.length_set];done)) rfl) (λ _=>rfl) ?_);clear hF);(rintro n ⟨_,_,_,_,_⟩ hF))
 | ((with_reducible refine zbs ?_);(with_reducible replace hF := toLp 1 5 hF);exact Lp.backI hF (_,()) ⟨_,rfl,rfl,rfl,rfl⟩ (pr2 (by first | exact rfl | assumption | omega | (simp only [List.length_set];done)) rfl))
 | (revert hF;(with_reducible refine G35.lend ?hx ?_);(case hx=>exact rfl);intro v hF;conv=>whnf)
 | (revert hF;(with_reducible refine G44.step ?hx ?_);(case hx=>exact rfl);intro v hF;conv=>whnf)
 | (revert hF;(refine G17.step rfl rfl rfl rfl rfl rfl rfl (by first | exact rfl | assumption | omega | (simp only [List.length_set];done)) (by first | exact trivial | exact rfl) ?hn ?_);(case hn=>exact rfl);intro v hF;conv=>whnf)
 | (revert hF;(refine G18.step rfl rfl rfl rfl rfl rfl rfl (by first | exact rfl | assumption | omega | (simp only [List.length_set];done)) (by first | exact trivial | exact rfl) ?hn ?_);(case hn=>exact rfl);intro v hF;conv=>whnf)
 | (revert hF;(refine G23.step rfl rfl rfl rfl rfl rfl rfl (by first | exact rfl | assumption | omega | (simp only [List.length_set];done)) (by first | exact trivial | exact rfl) ?hn ?_);(case hn=>exact rfl);intro v hF;conv=>whnf)
 | (revert hF;(refine G32.step rfl rfl rfl rfl rfl rfl rfl (by first | exact rfl | assumption | omega | (simp only [List.length_set];done)) (by first | exact trivial | exact rfl) ?hn ?_);(case hn=>exact rfl);intro v hF;conv=>whnf)
 | (revert hF;(refine G33.step rfl rfl rfl rfl rfl rfl rfl (by first | exact rfl | assumption | omega | (simp only [List.length_set];done)) (by first | exact trivial | exact rfl) ?hn ?_);(case hn=>exact rfl);intro v hF;conv=>whnf)
 | (revert hF;(refine G34.step rfl rfl rfl rfl rfl rfl rfl (by first | exact rfl | assumption | omega | (simp only [List.length_set];done)) (by first | exact trivial | exact rfl) ?hn ?_);(case hn=>exact rfl);intro v hF;conv=>whnf)
 | (revert hF;(refine G36.step rfl rfl rfl rfl rfl rfl rfl (by first | exact rfl | assumption | omega | (simp only [List.length_set];done)) (by first | exact trivial | exact rfl) ?hn ?_);(case hn=>exact rfl);intro v hF;conv=>whnf)
 | (revert hF;(refine G40.step rfl rfl rfl rfl rfl rfl rfl (by first | exact rfl | assumption | omega | (simp only [List.length_set];done)) (by first | exact trivial | exact rfl) ?hn ?_);(case hn=>exact rfl);intro v hF;conv=>whnf)
 | (revert hF;(with_reducible refine idx1 ?hn ?_);(case hn=>first | exact rfl | exact (List.length_map _) | assumption | omega | simp);intro x hx hF;conv=>whnf)
 | ((refine zdr ?hn ?_);(case hn=>first | exact rfl | (simp;done) | (simp;omega));conv=>whnf)
 | ((with_reducible refine zcR ?hx ?_);(case hx=>first | exact rfl | assumption | exact notT (by assumption));conv=>whnf)
 | ((with_reducible refine zbZ ?hx ?_);(case hx=>first | exact rfl | assumption | exact notF (by assumption));conv=>whnf)
 | ((refine zae 100 101000000 rfl rfl (Nat.le_of_ble_eq_true rfl) rfl (λ R hR=>?_));(conv=>whnf);(with_reducible refine hR _ ?ha ?_);(case ha=>exact rfl);clear R hR)
 | ((refine zae 2200 2201000000 rfl rfl (Nat.le_of_ble_eq_true rfl) rfl (λ R hR=>?_));(conv=>whnf);(with_reducible refine hR _ ?ha ?_);(case ha=>exact rfl);clear R hR)
 | (show Kinl _ _ _ _ _ _ _;conv=>whnf)
 | ((with_reducible refine zbt ?ha ?hb ?_);(case ha=>exact rfl);(case hb=>exact rfl);conv=>whnf)
 | ((refine ⟨?hx,trivial⟩);(case hx=>(cases hF;exact rfl)))
 | ((refine ⟨?hx, ?_⟩);(case hx=>decide);conv=>whnf)
 | with_reducible refine zbe ?_)

end Go.Vc
namespace Go.Vc
open Go.Proofs
variable {N id : Nat} {ρ : Type} {q : ρ} {xs : List SV} {m : Nat -> Blk} {l : List Loc} {ds : List D} {K : Dl -> List Loc -> Prop} {k0 k1 k2 k3 k4 k5 k6 k7 k8 k9 k10 k11 k12 k13 k14 k15 m0 m1 m2 m3 m4 m5 : Nat}
def zeC (N : Nat) : Option (Bool) :=
 (f14 N ).bind λ x3 =>
 some (x3)
def zka (N : Nat) : Lp (Unit) Unit (Bool) := lp0 ⟨[],[],[],[]⟩ (λ _=>[]) (λ _=>[]) (λ _=>zeC N)
instance Ef6_c19 {N} : IsLp 0 0 (zeC N) (zka N) () := ⟨rfl⟩
instance Cf6_c19 {N} : IsCut 0 (zeC N) (zka N) 19 := ⟨⟩
def zrX (r6 : Int -> Option (Bool)) (a0 : ByteArray) (a1 : ByteArray) (a2 : Int) (k0 : Option (Bool)) (v9 : Int) : Option (Bool) :=
 bif decide (v9 < (2 : Int)) then (bif decide (v9 = (1 : Int)) then (r6 (W (v9 + (1 : Int))))
 else (r6 (W (v9 + (1 : Int)))))
 else k0
def f6_6 (a0 : ByteArray) (a1 : ByteArray) (a2 : Int) (k0 : Option (Bool)) : Nat -> Int -> Option (Bool)
 | 0,_=>none
 | n + 1,v9=>zrX (f6_6 a0 a1 a2 k0 n) a0 a1 a2 k0 v9
def zrY (a0 : ByteArray) (a1 : ByteArray) (a2 : Int) (k0 : Option (Bool)) : Lp (Nat × Int) Unit (Bool) := lp0 ⟨[0,1,2,7,8,9],[401],[],[]⟩ (λ (_,v9)=>[.dat (strN a0), .dat (strN a1), .dat (iN a2), .dat (.v (.pointer none)), .ptr 401 0, .dat (iN v9)]) (λ (_,_)=>[.box [.dat (.v (.pointer none)), .nil]]) (λ (n,v9)=>f6_6 a0 a1 a2 k0 n v9)
instance Ef6_6 {a0 a1 a2 k0 n v9} : IsLp 0 1 (f6_6 a0 a1 a2 k0 n v9) (zrY a0 a1 a2 k0) (n,v9) := ⟨rfl⟩
def f6 (N : Nat) (a0 : ByteArray) (a1 : ByteArray) (a2 : Int) : Option (Bool) :=
 bif decide ((20000 : Int) < (ByteArray.size a0 : Int)) then ((f14 N ).bind λ x1 =>
 some (x1))
 else (bif decide ((20000 : Int) < (ByteArray.size a1 : Int)) then ((f14 N ).bind λ x2 =>
 some (x2))
 else (zbM (zeC N) λ k0 =>
 f6_6 a0 a1 a2 k0 N (0 : Int)))
def G6 (ds : List D) (d : D) : Prop := ∃ (N : Nat) (a0 : ByteArray) (a1 : ByteArray) (a2 : Int) (r : Bool),ds = [strN a0,strN a1,iN a2] /\ f6 N a0 a1 a2 = some r /\ d = bN r
set_option maxRecDepth 20000 in
set_option maxHeartbeats 4000000 in
theorem P6 : PureOK Tryz.prog 6 G6 := by
 refine zaE (c := zar zah [(40,false,zba (zar zah [(62,false,zba (zar zah [(53,false,zba (zar zah []) Tryz.f53)]) Tryz.f62)]) Tryz.f40),(38,false,zba (zar zah [(53,false,zba (zar zah []) Tryz.f53)]) Tryz.f38),(36,false,zba (zar zah [(53,false,zba (zar zah []) Tryz.f53)]) Tryz.f36),(34,false,zba (zar zah [(62,false,zba (zar zah [(53,false,zba (zar zah []) Tryz.f53)]) Tryz.f62)]) Tryz.f34),(33,false,zba (zar zah [(62,false,zba (zar zah [(53,false,zba (zar zah []) Tryz.f53)]) Tryz.f62)]) Tryz.f33),(32,false,zba (zar zah [(53,false,zba (zar zah []) Tryz.f53)]) Tryz.f32),(23,false,zba (zar zah [(53,false,zba (zar zah []) Tryz.f53)]) Tryz.f23),(21,false,zba (zar zah [(53,false,zba (zar zah []) Tryz.f53)]) Tryz.f21),(18,false,zba (zar zah [(51,false,zba (zar zah [(53,false,zba (zar zah []) Tryz.f53)]) Tryz.f51)]) Tryz.f18),(17,false,zba (zar zah [(51,false,zba (zar zah [(53,false,zba (zar zah []) Tryz.f53)]) Tryz.f51)]) Tryz.f17),(14,true,lendPg [] G14)]) rfl tyOK (zaw (zaa Tryz.func40 rfl rfl) (CallOK.inl rfl tyOK (zaw (zaa Tryz.func62 rfl rfl) (CallOK.inl rfl tyOK (zaw (zaa Tryz.func53 rfl rfl) (CallOK.inl rfl tyOK (zac) Tryz.func53 (by kernel_rfl)) (zac)) Tryz.func62 (by kernel_rfl)) (zac)) Tryz.func40 (by kernel_rfl)) (zaw (zaa Tryz.func38 rfl rfl) (CallOK.inl rfl tyOK (zaw (zaa Tryz.func53 rfl rfl) (CallOK.inl rfl tyOK (zac) Tryz.func53 (by kernel_rfl)) (zac)) Tryz.func38 (by kernel_rfl)) (zaw (zaa Tryz.func36 rfl rfl) (CallOK.inl rfl tyOK (zaw (zaa Tryz.func53 rfl rfl) (CallOK.inl rfl tyOK (zac) Tryz.func53 (by kernel_rfl)) (zac)) Tryz.func36 (by kernel_rfl)) (zaw (zaa Tryz.func34 rfl rfl) (CallOK.inl rfl tyOK (zaw (zaa Tryz.func62 rfl rfl) (CallOK.inl rfl tyOK (zaw (zaa Tryz.func53 rfl rfl) (CallOK.inl rfl tyOK (zac) Tryz.func53 (by kernel_rfl)) (zac)) Tryz.func62 (by kernel_rfl)) (zac)) Tryz.func34 (by kernel_rfl)) (zaw (zaa Tryz.func33 rfl rfl) (CallOK.inl rfl tyOK (zaw (zaa Tryz.func62 rfl rfl) (CallOK.inl rfl tyOK (zaw (zaa Tryz.func53 rfl rfl) (CallOK.inl rfl tyOK (zac) Tryz.func53 (by kernel_rfl)) (zac)) Tryz.func62 (by kernel_rfl)) (zac)) Tryz.func33 (by kernel_rfl)) (zaw (zaa Tryz.func32 rfl rfl) (CallOK.inl rfl tyOK (zaw (zaa Tryz.func53 rfl rfl) (CallOK.inl rfl tyOK (zac) Tryz.func53 (by kernel_rfl)) (zac)) Tryz.func32 (by kernel_rfl)) (zaw (zaa Tryz.func23 rfl rfl) (CallOK.inl rfl tyOK (zaw (zaa Tryz.func53 rfl rfl) (CallOK.inl rfl tyOK (zac) Tryz.func53 (by kernel_rfl)) (zac)) Tryz.func23 (by kernel_rfl)) (zaw (zaa Tryz.func21 rfl rfl) (CallOK.inl rfl tyOK (zaw (zaa Tryz.func53 rfl rfl) (CallOK.inl rfl tyOK (zac) Tryz.func53 (by kernel_rfl)) (zac)) Tryz.func21 (by kernel_rfl)) (zaw (zaa Tryz.func18 rfl rfl) (CallOK.inl rfl tyOK (zaw (zaa Tryz.func51 rfl rfl) (CallOK.inl rfl tyOK (zaw (zaa Tryz.func53 rfl rfl) (CallOK.inl rfl tyOK (zac) Tryz.func53 (by kernel_rfl)) (zac)) Tryz.func51 (by kernel_rfl)) (zac)) Tryz.func18 (by kernel_rfl)) (zaw (zaa Tryz.func17 rfl rfl) (CallOK.inl rfl tyOK (zaw (zaa Tryz.func51 rfl rfl) (CallOK.inl rfl tyOK (zaw (zaa Tryz.func53 rfl rfl) (CallOK.inl rfl tyOK (zac) Tryz.func53 (by kernel_rfl)) (zac)) Tryz.func51 (by kernel_rfl)) (zac)) Tryz.func17 (by kernel_rfl)) (zaJ (zaa Tryz.func14 rfl rfl) P14 (zac)))))))))))) [[0]] 3 Tryz.func6 rfl rfl (by decide) (by kernel_rfl) ?_
 rintro ds d ⟨N,a0,a1,a2,r,rfl,hF,rfl⟩ hok;clear hok;refine ⟨rfl, ?_⟩;show vc _ _ _ _ ⟨[(0, .dat (strN a0)),(1, .dat (strN a1)),(2, .dat (iN a2))],[]⟩ _;unfold f6 at hF
 repeat' (first
 | ((with_reducible first | refine q0 _ _ ?_ | refine q1 _ _ _ _ ?_ | refine q2 _ _ _ ?_);clear Q q0 q1 q2)
 | ((with_reducible first | refine zaI ?hx (λ Q q0 q1 q2=>?_) | refine za2 ?hx (λ Q q0 q1 q2=>?_) | refine zby ?hx (λ Q q0 q1 q2=>?_) | refine zbC ?hx (λ Q q0 q1 q2=>?_));(case hx=>exact rfl);conv=>whnf)
 | ((with_reducible first | refine zbT ?hx ?_ | refine zbw ?hx ?_ | refine zcF ?hx ?_ | refine zcf ?hx ?_ | refine zbf ?hx ?_ | refine zbv ?hx ?_);(case hx=>exact rfl))
 | ((with_reducible refine zc5 ?_);(first | ((first | refine zcB rfl ?hy (λ Q q0 q1 q2=>?_) | refine zb4 rfl ?hy (λ Q q0 q1 q2=>?_));(case hy=>first | assumption | exact notT (by assumption) | exact rfl);conv=>whnf) | ((first | refine zb3 rfl ?hy ?_ | refine zbQ rfl ?hy ?_);(case hy=>first | assumption | exact notF (by assumption) | exact rfl)) | (revert hF;(with_reducible first | refine zcC ?hx ?_ ?_ | refine zb5 ?hx ?_ ?_);(case hx=>exact rfl);(intro hc hF Q q0 q1 q2;conv=>whnf);rotate_left;(intro hc hF);rotate_right) | (revert hF;(with_reducible first | refine zcD ?hx ?_ ?_ | refine zb6 ?hx ?_ ?_);(case hx=>exact rfl);(intro hc hF);rotate_left;(intro hc hF Q q0 q1 q2;conv=>whnf);rotate_right)))
 | ((with_reducible refine zaP ?_);(first | ((refine zbb rfl ?hy ?_);(case hy=>first | assumption | exact notT (by assumption) | exact rfl)) | ((refine zbc rfl ?hy ?_);(case hy=>first | assumption | exact notF (by assumption) | exact rfl)) | (revert hF;(with_reducible refine zbP ?hx ?_ ?_);(case hx=>exact rfl);all_goals (intro hc hF))))
 | ((with_reducible refine zay ?_);(first | ((with_reducible refine hR _ ?_);clear R hR) | ((with_reducible refine hL _ ?_);clear L hL)))
 | ((with_reducible first | refine zaK ?_);conv=>whnf)
 | (with_reducible first | refine zaB ?_ | refine zax ?_ | refine zaH ?_ | refine zaM ?_ | refine zaj ?_ | refine zan ?_ | refine zbO ?_ | refine zav ?_ | refine zap ?_ | refine zaW ?_ | refine zaN ?_)
 | ((with_reducible refine zaz [19] ?hx ?_);(case hx=>exact rfl))
 | ((with_reducible refine zak (λ R hR=>?_));(try simp only [List.append_eq,List.cons_append,List.nil_append]))
 | ((with_reducible replace hF := isE hF);(dsimp only [zka,zrY,f6_6] at hF);first | ((with_reducible replace hF := chkE (e := zeC ..) hF);rewrite [zeC] at hF) | rewrite [zrX] at hF)
 | ((with_reducible refine zbn ?_);(with_reducible replace hF := zcA 0 hF);((refine Lp.cutI hF rfl rfl ?_ ?_) <;> clear hF);(intro hF);rotate_left;(rintro _ hF);rotate_right)
 | ((with_reducible refine zbd ?_);(with_reducible replace hF := toLp 0 0 hF);exact Lp.headI hF () ⟨_,rfl,rfl,rfl,rfl⟩ rfl)
 | ((with_reducible refine zbr ?_);(with_reducible replace hF := toLp 0 1 hF);((refine Lp.loopI hF () rfl ⟨_,rfl,rfl,rfl,rfl⟩ rfl (λ _=>rfl) ?_);clear hF);(rintro n _ hF))
 | ((with_reducible refine zbs ?_);(with_reducible replace hF := toLp 0 1 hF);exact Lp.backI hF () ⟨_,rfl,rfl,rfl,rfl⟩ rfl)
 | (revert hF;(with_reducible refine G14.lend ?hx ?_);(case hx=>exact rfl);intro v hF;conv=>whnf)
 | ((with_reducible refine zcq ?_);conv=>whnf)
 | ((with_reducible refine zcR ?hx ?_);(case hx=>first | exact rfl | assumption | exact notT (by assumption));conv=>whnf)
 | ((with_reducible refine zbZ ?hx ?_);(case hx=>first | exact rfl | assumption | exact notF (by assumption));conv=>whnf)
 | ((refine zae 1102 1103000000 rfl rfl (Nat.le_of_ble_eq_true rfl) rfl (λ R hR=>?_));(conv=>whnf);(with_reducible refine hR _ ?ha ?_);(case ha=>exact rfl);clear R hR)
 | ((refine zae 1202 1203000000 rfl rfl (Nat.le_of_ble_eq_true rfl) rfl (λ R hR=>?_));(conv=>whnf);(with_reducible refine hR _ ?ha ?_);(case ha=>exact rfl);clear R hR)
 | ((refine zae 1302 1303000000 rfl rfl (Nat.le_of_ble_eq_true rfl) rfl (λ R hR=>?_));(conv=>whnf);(with_reducible refine hR _ ?ha ?_);(case ha=>exact rfl);clear R hR)
 | ((refine zae 1403 1404000000 rfl rfl (Nat.le_of_ble_eq_true rfl) rfl (λ R hR=>?_));(conv=>whnf);(with_reducible refine hR _ ?ha ?_);(case ha=>exact rfl);clear R hR)
 | ((refine zae 1502 1503000000 rfl rfl (Nat.le_of_ble_eq_true rfl) rfl (λ R hR=>?_));(conv=>whnf);(with_reducible refine hR _ ?ha ?_);(case ha=>exact rfl);clear R hR)
 | ((refine zae 1602 1603000000 rfl rfl (Nat.le_of_ble_eq_true rfl) rfl (λ R hR=>?_));(conv=>whnf);(with_reducible refine hR _ ?ha ?_);(case ha=>exact rfl);clear R hR)
 | ((refine zae 1702 1703000000 rfl rfl (Nat.le_of_ble_eq_true rfl) rfl (λ R hR=>?_));(conv=>whnf);(with_reducible refine hR _ ?ha ?_);(case ha=>exact rfl);clear R hR)
 | ((refine zae 1707 1708000000 rfl rfl (Nat.le_of_ble_eq_true rfl) rfl (λ R hR=>?_));(conv=>whnf);(with_reducible refine hR _ ?ha ?_);(case ha=>exact rfl);clear R hR)
 | ((refine zae 1766 1767000000 rfl rfl (Nat.le_of_ble_eq_true rfl) rfl (λ R hR=>?_));(conv=>whnf);(with_reducible refine hR _ ?ha ?_);(case ha=>exact rfl);clear R hR)
 | ((refine zae 1772 1773000000 rfl rfl (Nat.le_of_ble_eq_true rfl) rfl (λ R hR=>?_));(conv=>whnf);(with_reducible refine hR _ ?ha ?_);(case ha=>exact rfl);clear R hR)
 | ((refine zae 1103000101 zr7 rfl rfl (Nat.le_of_ble_eq_true rfl) rfl (λ R hR=>?_));(conv=>whnf);(with_reducible refine hR _ ?ha ?_);(case ha=>exact rfl);clear R hR)
 | ((refine zae 1203000102 1203000103000000 rfl rfl (Nat.le_of_ble_eq_true rfl) rfl (λ R hR=>?_));(conv=>whnf);(with_reducible refine hR _ ?ha ?_);(case ha=>exact rfl);clear R hR)
 | ((refine zae 1303000102 1303000103000000 rfl rfl (Nat.le_of_ble_eq_true rfl) rfl (λ R hR=>?_));(conv=>whnf);(with_reducible refine hR _ ?ha ?_);(case ha=>exact rfl);clear R hR)
 | ((refine zae 1404000101 1404000102000000 rfl rfl (Nat.le_of_ble_eq_true rfl) rfl (λ R hR=>?_));(conv=>whnf);(with_reducible refine hR _ ?ha ?_);(case ha=>exact rfl);clear R hR)
 | ((refine zae 1503000102 1503000103000000 rfl rfl (Nat.le_of_ble_eq_true rfl) rfl (λ R hR=>?_));(conv=>whnf);(with_reducible refine hR _ ?ha ?_);(case ha=>exact rfl);clear R hR)
 | ((refine zae 1603000101 1603000102000000 rfl rfl (Nat.le_of_ble_eq_true rfl) rfl (λ R hR=>?_));(conv=>whnf);(with_reducible refine hR _ ?ha ?_);(case ha=>exact rfl);clear R hR)
 | ((refine zae 1703000102 1703000103000000 rfl rfl (Nat.le_of_ble_eq_true rfl) rfl (λ R hR=>?_));(conv=>whnf);(with_reducible refine hR _ ?ha ?_);(case ha=>exact rfl);clear R hR)
 | ((refine zae 1708000102 1708000103000000 rfl rfl (Nat.le_of_ble_eq_true rfl) rfl (λ R hR=>?_));(conv=>whnf);(with_reducible refine hR _ ?ha ?_);(case ha=>exact rfl);clear R hR)
 | ((refine zae 1767000101 1767000102000000 rfl rfl (Nat.le_of_ble_eq_true rfl) rfl (λ R hR=>?_));(conv=>whnf);(with_reducible refine hR _ ?ha ?_);(case ha=>exact rfl);clear R hR)
 | ((refine zae 1773000101 1773000102000000 rfl rfl (Nat.le_of_ble_eq_true rfl) rfl (λ R hR=>?_));(conv=>whnf);(with_reducible refine hR _ ?ha ?_);(case ha=>exact rfl);clear R hR)
 | ((refine zae 1203000103000101 1203000103000102000000 rfl rfl (Nat.le_of_ble_eq_true rfl) rfl (λ R hR=>?_));(conv=>whnf);(with_reducible refine hR _ ?ha ?_);(case ha=>exact rfl);clear R hR)
 | ((refine zae 1303000103000101 1303000103000102000000 rfl rfl (Nat.le_of_ble_eq_true rfl) rfl (λ R hR=>?_));(conv=>whnf);(with_reducible refine hR _ ?ha ?_);(case ha=>exact rfl);clear R hR)
 | ((refine zae 1503000103000101 1503000103000102000000 rfl rfl (Nat.le_of_ble_eq_true rfl) rfl (λ R hR=>?_));(conv=>whnf);(with_reducible refine hR _ ?ha ?_);(case ha=>exact rfl);clear R hR)
 | ((refine zae 1703000103000101 1703000103000102000000 rfl rfl (Nat.le_of_ble_eq_true rfl) rfl (λ R hR=>?_));(conv=>whnf);(with_reducible refine hR _ ?ha ?_);(case ha=>exact rfl);clear R hR)
 | ((refine zae 1708000103000101 1708000103000102000000 rfl rfl (Nat.le_of_ble_eq_true rfl) rfl (λ R hR=>?_));(conv=>whnf);(with_reducible refine hR _ ?ha ?_);(case ha=>exact rfl);clear R hR)
 | (show Kinl _ _ _ _ _ _ _;conv=>whnf)
 | ((with_reducible refine zbt ?ha ?hb ?_);(case ha=>exact rfl);(case hb=>exact rfl);conv=>whnf)
 | ((refine ⟨?hx,trivial⟩);(case hx=>(cases hF;exact rfl)))
 | ((refine ⟨?hx, ?_⟩);(case hx=>decide);conv=>whnf)
 | with_reducible refine zbe ?_)

end Go.Vc
namespace Go.Vc
open Go.Proofs
theorem zkU : f14 200 = some true := by kernel_rfl
end Go.Vc
namespace Go.Vc
theorem zqp (a0 a1 : ByteArray) (a2 : Int) : f6 200 a0 a1 a2 = some true := by
 have h : f6_6 a0 a1 a2 (zeC 200) 200 0 = some true := by
  have hk : zeC 200 = some true := by
   unfold zeC;rw [zkU];rfl
  rw [hk];rfl
 unfold f6;rw [zkU]
 cases decide ((20000 : Int) < (ByteArray.size a0 : Int))
 .cases decide ((20000 : Int) < (ByteArray.size a1 : Int))
  .simp only [cond_false,zbM];exact h
  .rfl
 .rfl
end Go.Vc
namespace Go.Vc
abbrev tS : Ty := .str
abbrev tI : Ty := .int .i64
def zrZ (n : Int) : Prop := -9223372036854775808 <= n /\ n <= 9223372036854775807
theorem zr0 {x : D} (h : tI.hasD x) : ∃ n,x = iN n /\ zrZ n := by
 have h : tI.has [x] := h;simp only [tI,Ty.has] at h;obtain ⟨n,h1,h⟩ := h;exact ⟨n,List.singleton_inj.1 h1,by simpa [IntKind.min,IntKind.max,IntKind.signed,IntKind.bits,zrZ] using h⟩
theorem zpb {x : D} (h : tS.hasD x) : ∃ s,x = strN s := by
 have h : tS.has [x] := h;simp only [tS,Ty.has] at h;obtain ⟨s,h1,_⟩ := h;exact ⟨s,List.singleton_inj.1 h1⟩
end Go.Vc
namespace Go.Vc
open Go.Proofs
theorem lx_of {l : List (String × DataW Unit)} (h1 : (l.filter λ x=>x.1 == "internal/strconv.uint64pow10") = [("internal/strconv.uint64pow10", Lib.tabData .u64 Lib.pow10Tab)]) {w : World} (h : laidMetH Tryz.prog l w.memory) : LX Tryz.prog w := by
 have h2 := laidMetH.filter (λ x=>x.1 == "internal/strconv.uint64pow10") h
 rw [h1,MakeChecks.laidMetH_plain _ _ _ (by rfl)] at h2;exact LX.heap (w := w.memory) (Lib.tabIs_of_head (g := 0) (t := 226) (e := 182) (n := 20) (by kernel_rfl) (by kernel_rfl) (by kernel_rfl) (by kernel_rfl) (by kernel_rfl) (by kernel_rfl) h2) rfl
end Go.Vc
