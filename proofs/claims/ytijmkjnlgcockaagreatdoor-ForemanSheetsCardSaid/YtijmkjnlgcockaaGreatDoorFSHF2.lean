/-
  A library for proofs about Go functions by symbolic evaluation,and plain Lean functions that the walked Go functions compute (written by a program of this claim).
-/
import Derived.Test.YtijmkjnlgcockaaGreatDoorFSHF1
set_option linter.unusedVariables false
set_option linter.unnecessarySimpa false
set_option linter.unusedSimpArgs false
namespace Go.Vc
open Go.Proofs
variable {N id:Nat} {ρ:Type} {q:ρ} {xs:List SV} {m:Nat->Blk} {l:List Loc} {ds:List D} {K:Dl->List Loc->Prop} {k0 k1 k2 k3 k4 k5 k6 k7 k8 k9 k10 k11 k12 k13 k14 k15 m0 m1 m2 m3 m4 m5:Nat}
def ze3 (N:Nat):Option (Bool) :=
 (f14 N ).bind λ x3 =>
 some (x3)
def zjU (N:Nat):Lp (Unit) Unit (Bool):=lp0 ⟨[],[],[],[]⟩ (λ _=>[]) (λ _=>[]) (λ _=>ze3 N)
instance Ef11_c40 {N}:IsLp 0 0 (ze3 N) (zjU N) ():=⟨rfl⟩
instance Cf11_c40 {N}:IsCut 0 (ze3 N) (zjU N) 40:=⟨⟩
def zf5 (r33:Int->Option (Bool))(N:Nat)(b106_1:LB)(b100:LS)(b101:LE)(b102:LC)(b200:List (ByteArray×A2strN))(k0:Option (Bool))(x4:LB)(v194:Int):Option (Bool) :=
 bif decide (v194<(List.length x4:Int)) then ((ix x4 v194).bind λ x5 =>
 (f32 N x5 b106_1 b100 b101 b102).bind λ x6 =>
 (some (zaA (A2strN.mk zan zan) x5 b200)).bind λ x7 =>
 bif !(x7.2 == (decide (x6.2.2=(0:Int)))) then (some (false))
 else (bif x7.2 then ((f49 N x7.1.e0).bind λ x8 =>
 bif decide (¬ x6.1=x8) then (some (false))
 else (bif decide (¬ x6.2.1=x7.1.e1) then (some (false))
 else (bif decide (x6.1<(1:Int)) then (some (false))
 else (r33 (W (v194+(1:Int)))))))
 else (r33 (W (v194+(1:Int))))))
 else k0
def zfG (N:Nat)(b106_1:LB)(b100:LS)(b101:LE)(b102:LC)(b200:List (ByteArray×A2strN))(k0:Option (Bool))(x4:LB):Nat->Int->Option (Bool)
 | 0,_=>none
 | n+1,v194=>zf5 (zfG N b106_1 b100 b101 b102 b200 k0 x4 n) N b106_1 b100 b101 b102 b200 k0 x4 v194
def zrk (N:Nat)(b106_1:LB)(b100:LS)(b101:LE)(b102:LC)(b200:List (ByteArray×A2strN))(k0:Option (Bool))(x4:LB):Lp (Nat×Int) (Nat×Nat) (Bool):=lpm ⟨[3,5,192,193,194],[zxB,zxC,zxA,zxD,zxE,zxG,zxH],[],[]⟩ (λ (n,v194)=>zfG N b106_1 b100 b101 b102 b200 k0 x4 n v194) (λ (_,v194) (m0,_)=>[.ptr zxG 0, .mp zxH, .dat (zaG x4), .dat (iN (m0:Int)), .dat (iN v194)]) (λ (_,_) (_,m1)=>[(rW b106_1),(sW [zxA] b100),(eW b101),(mW b102), .box [.mp zxC, .mp zxA, .mp zxD], .box [.ptr zxE 0, .rs zxB m1], .mp (encM strN A2strN.d b200)]) λ (_,_)=>(List.length x4,List.length b106_1)
instance Ef11_33 {N b106_1 b100 b101 b102 b200 k0 x4 n v194}:IsLp 2 1 (zfG N b106_1 b100 b101 b102 b200 k0 x4 n v194) (zrk N b106_1 b100 b101 b102 b200 k0 x4) (n,v194):=⟨rfl⟩
def zeg (N:Nat)(b106_1:LB)(b100:LS)(b101:LE)(b102:LC)(b200:List (ByteArray×A2strN)):Option (Bool) :=
 zaR (ze3 N) λ k0 =>
 (f27 N ).bind λ x4 =>
 zfG N b106_1 b100 b101 b102 b200 k0 x4 N (0:Int)
def zjV (N:Nat)(b106_1:LB)(b100:LS)(b101:LE)(b102:LC)(b200:List (ByteArray×A2strN)):Lp (Unit) (Nat×Unit) (Bool):=lpm ⟨[3,5],[zxB,zxC,zxA,zxD,zxE,zxG,zxH],[],[]⟩ (λ _=>zeg N b106_1 b100 b101 b102 b200) (λ _ (_,_)=>[.ptr zxG 0, .mp zxH]) (λ _ (m0,_)=>[(rW b106_1),(sW [zxA] b100),(eW b101),(mW b102), .box [.mp zxC, .mp zxA, .mp zxD], .box [.ptr zxE 0, .rs zxB m0], .mp (encM strN A2strN.d b200)]) λ _=>(List.length b106_1,())
instance Ef11_c32 {N b106_1 b100 b101 b102 b200}:IsLp 1 0 (zeg N b106_1 b100 b101 b102 b200) (zjV N b106_1 b100 b101 b102 b200) ():=⟨rfl⟩
instance Cf11_c32 {N b106_1 b100 b101 b102 b200}:IsCut 0 (zeg N b106_1 b100 b101 b102 b200) (zjV N b106_1 b100 b101 b102 b200) 32:=⟨⟩
def zf6 (r25:Int->Option (Bool))(N:Nat)(b106_1:LB)(b100:LS)(b101:LE)(b102:LC)(b100':List (ByteArray×RunM))(b200:List (ByteArray×A2strN))(p501:List Nat)(r6:(List Nat)->Option (Bool))(x9:Nat)(x10:ByteArray×RunM)(x19:LB)(v154:Int):Option (Bool) :=
 bif decide (v154<(List.length x19:Int)) then ((ix x19 v154).bind λ x20 =>
 (some (zaA (0:Int) x20 x10.2.claims)).bind λ x21 =>
 (f36 N x20 x10.1 b106_1 b100 b101 b102).bind λ x22 =>
 bif decide (¬ x22.1=x21.1) then (some (false))
 else (bif !(x21.2 == (decide (x22.2=(0:Int)))) then (some (false))
 else (bif !x21.2 then (bif decide (¬ x22.2=(5:Int)) then (some (false))
 else (r25 (W (v154+(1:Int)))))
 else (r25 (W (v154+(1:Int)))))))
 else (r6 (x9::p501))
def zfH (N:Nat)(b106_1:LB)(b100:LS)(b101:LE)(b102:LC)(b100':List (ByteArray×RunM))(b200:List (ByteArray×A2strN))(p501:List Nat)(r6:(List Nat)->Option (Bool))(x9:Nat)(x10:ByteArray×RunM)(x19:LB):Nat->Int->Option (Bool)
 | 0,_=>none
 | n+1,v154=>zf6 (zfH N b106_1 b100 b101 b102 b100' b200 p501 r6 x9 x10 x19 n) N b106_1 b100 b101 b102 b100' b200 p501 r6 x9 x10 x19 v154
def zrl (N:Nat)(b106_1:LB)(b100:LS)(b101:LE)(b102:LC)(b100':List (ByteArray×RunM))(b200:List (ByteArray×A2strN))(p501:List Nat)(r6:(List Nat)->Option (Bool))(x9:Nat)(x10:ByteArray×RunM)(x19:LB):Lp (Nat×Int) (Nat×Nat) (Bool):=lpm ⟨[3,5,7,8,44,152,153,154],[501,zxB,zxC,zxA,zxD,zxE,zxG,zxH],[],[]⟩ (λ (n,v154)=>zfH N b106_1 b100 b101 b102 b100' b200 p501 r6 x9 x10 x19 n v154) (λ (_,v154) (m0,_)=>[.ptr zxG 0, .mp zxH, .dat (strN x10.1), .ep [zbi x10.2.sheets,zaG x10.2.stones,iN x10.2.ground,bN x10.2.closed, .mp (encM strN iN x10.2.claims)], .ptr 501 0, .dat (zaG x19), .dat (iN (m0:Int)), .dat (iN v154)]) (λ (_,_) (_,m1)=>[.mit (encM strN RunM.pt (b100')) (x9::p501),(rW b106_1),(sW [zxA] b100),(eW b101),(mW b102), .box [.mp zxC, .mp zxA, .mp zxD], .box [.ptr zxE 0, .rs zxB m1], .mp (encM strN A2strN.d b200)]) λ (_,_)=>(List.length x19,List.length b106_1)
instance Ef11_25 {N b106_1 b100 b101 b102 b100' b200 p501 r6 x9 x10 x19 n v154}:IsLp 2 1 (zfH N b106_1 b100 b101 b102 b100' b200 p501 r6 x9 x10 x19 n v154) (zrl N b106_1 b100 b101 b102 b100' b200 p501 r6 x9 x10 x19) (n,v154):=⟨rfl⟩
def zeh (N:Nat)(b106_1:LB)(b100:LS)(b101:LE)(b102:LC)(b100':List (ByteArray×RunM))(b200:List (ByteArray×A2strN))(p501:List Nat)(r6:(List Nat)->Option (Bool))(x9:Nat)(x10:ByteArray×RunM)(x12:Tally×Int)(v15:Int):Option (Bool) :=
 (f48 N x10.2 (-2:Int)).bind λ x16 =>
 (f48 N x10.2 (-1:Int)).bind λ x17 =>
 (f47 N x10.2).bind λ x18 =>
 bif !(decide (x12.1.Paper=(List.length x10.2.sheets:Int))&&(decide (x12.1.Delivered=x16)&&(decide (x12.1.Spoilt=x17)&&(decide (x12.1.Lost=v15)&&(decide (x12.1.Rest=x18)&&true))))) then (some (false))
 else (bif decide (¬ x12.1.Paper=(W ((W ((W (x12.1.Delivered+x12.1.Spoilt))+x12.1.Lost))+x12.1.Rest))) then (some (false))
 else ((f29 N ).bind λ x19 =>
 zfH N b106_1 b100 b101 b102 b100' b200 p501 r6 x9 x10 x19 N (0:Int)))
def zjW (N:Nat)(b106_1:LB)(b100:LS)(b101:LE)(b102:LC)(b100':List (ByteArray×RunM))(b200:List (ByteArray×A2strN))(p501:List Nat)(r6:(List Nat)->Option (Bool))(x9:Nat)(x10:ByteArray×RunM)(x12:Tally×Int):Lp (Int) (Nat×Unit) (Bool):=lpm ⟨[3,5,7,8,11,15,44],[501,906,zxB,zxC,zxA,zxD,zxE,zxG,zxH],[],[]⟩ (λ v15=>zeh N b106_1 b100 b101 b102 b100' b200 p501 r6 x9 x10 x12 v15) (λ v15 (_,_)=>[.ptr zxG 0, .mp zxH, .dat (strN x10.1), .ep [zbi x10.2.sheets,zaG x10.2.stones,iN x10.2.ground,bN x10.2.closed, .mp (encM strN iN x10.2.claims)], .ptr 906 0, .dat (iN v15), .ptr 501 0]) (λ _ (m0,_)=>[.mit (encM strN RunM.pt (b100')) (x9::p501), .box [.dat (iN x12.1.Paper), .dat (iN x12.1.Delivered), .dat (iN x12.1.Spoilt), .dat (iN x12.1.Lost), .dat (iN x12.1.Rest)],(rW b106_1),(sW [zxA] b100),(eW b101),(mW b102), .box [.mp zxC, .mp zxA, .mp zxD], .box [.ptr zxE 0, .rs zxB m0], .mp (encM strN A2strN.d b200)]) λ _=>(List.length b106_1,())
instance Ef11_c22 {N b106_1 b100 b101 b102 b100' b200 p501 r6 x9 x10 x12 v15}:IsLp 1 1 (zeh N b106_1 b100 b101 b102 b100' b200 p501 r6 x9 x10 x12 v15) (zjW N b106_1 b100 b101 b102 b100' b200 p501 r6 x9 x10 x12) v15:=⟨rfl⟩
instance Cf11_c22 {N b106_1 b100 b101 b102 b100' b200 p501 r6 x9 x10 x12}:IsCut 1 (zeh N b106_1 b100 b101 b102 b100' b200 p501 r6 x9 x10 x12) (zjW N b106_1 b100 b101 b102 b100' b200 p501 r6 x9 x10 x12) 22:=⟨⟩
def zjX (r15:Int->Int->Option (Bool))(N:Nat)(b106_1:LB)(b100:LS)(b101:LE)(b102:LC)(b100':List (ByteArray×RunM))(b200:List (ByteArray×A2strN))(p501:List Nat)(x9:Nat)(x10:ByteArray×RunM)(x11:(List Int)×Int)(x12:Tally×Int)(k2:Int->Option (Bool))(v15:Int)(v101:Int):Option (Bool) :=
 bif decide (v101<(List.length x11.1:Int)) then ((ix x11.1 v101).bind λ x23 =>
 (f48 N x10.2 v101).bind λ x24 =>
 bif decide (¬ x23=x24) then (some (false))
 else (bif decide (v101<x10.2.ground) then (r15 (W (v15+x23)) (W (v101+(1:Int))))
 else (r15 v15 (W (v101+(1:Int))))))
 else (k2 v15)
def zfI (N:Nat)(b106_1:LB)(b100:LS)(b101:LE)(b102:LC)(b100':List (ByteArray×RunM))(b200:List (ByteArray×A2strN))(p501:List Nat)(x9:Nat)(x10:ByteArray×RunM)(x11:(List Int)×Int)(x12:Tally×Int)(k2:Int->Option (Bool)):Nat->Int->Int->Option (Bool)
 | 0,_,_=>none
 | n+1,v15,v101=>zjX (zfI N b106_1 b100 b101 b102 b100' b200 p501 x9 x10 x11 x12 k2 n) N b106_1 b100 b101 b102 b100' b200 p501 x9 x10 x11 x12 k2 v15 v101
def zrm (N:Nat)(b106_1:LB)(b100:LS)(b101:LE)(b102:LC)(b100':List (ByteArray×RunM))(b200:List (ByteArray×A2strN))(p501:List Nat)(x9:Nat)(x10:ByteArray×RunM)(x11:(List Int)×Int)(x12:Tally×Int)(k2:Int->Option (Bool)):Lp (Nat×Int×Int) (Nat×Nat) (Bool):=lpm ⟨[3,5,7,8,11,15,44,99,100,101],[501,802,906,zxB,zxC,zxA,zxD,zxE,zxG,zxH],[],[]⟩ (λ (n,v15,v101)=>zfI N b106_1 b100 b101 b102 b100' b200 p501 x9 x10 x11 x12 k2 n v15 v101) (λ (_,v15,v101) (m0,_)=>[.ptr zxG 0, .mp zxH, .dat (strN x10.1), .ep [zbi x10.2.sheets,zaG x10.2.stones,iN x10.2.ground,bN x10.2.closed, .mp (encM strN iN x10.2.claims)], .ptr 906 0, .dat (iN v15), .ptr 501 0, .rs 802 m0, .dat (iN (List.length x11.1:Int)), .dat (iN v101)]) (λ (_,_,_) (_,m1)=>[.mit (encM strN RunM.pt (b100')) (x9::p501), .row 3 1 (List.map iN x11.1), .box [.dat (iN x12.1.Paper), .dat (iN x12.1.Delivered), .dat (iN x12.1.Spoilt), .dat (iN x12.1.Lost), .dat (iN x12.1.Rest)],(rW b106_1),(sW [zxA] b100),(eW b101),(mW b102), .box [.mp zxC, .mp zxA, .mp zxD], .box [.ptr zxE 0, .rs zxB m1], .mp (encM strN A2strN.d b200)]) λ (_,_,_)=>(List.length x11.1,List.length b106_1)
instance Ef11_15 {N b106_1 b100 b101 b102 b100' b200 p501 x9 x10 x11 x12 k2 n v15 v101}:IsLp 2 2 (zfI N b106_1 b100 b101 b102 b100' b200 p501 x9 x10 x11 x12 k2 n v15 v101) (zrm N b106_1 b100 b101 b102 b100' b200 p501 x9 x10 x11 x12 k2) (n,v15,v101):=⟨rfl⟩
def zrn (r6:(List Nat)->Option (Bool))(N:Nat)(b106_1:LB)(b100:LS)(b101:LE)(b102:LC)(b100':List (ByteArray×RunM))(b200:List (ByteArray×A2strN))(k1:Option (Bool))(p501:List Nat):Option (Bool) :=
 rgN (b100') p501 (λ x9 x10 =>
 (f33 N x10.1 b106_1 b100 b101 b102).bind λ x11 =>
 (f34 N x10.1 b106_1 b100 b101 b102).bind λ x12 =>
 (f40 N x10.1 b106_1 b100 b101 b102).bind λ x13 =>
 bif decide (¬ x11.2=(0:Int)) then (some (false))
 else (bif decide (¬ x12.2=(0:Int)) then (some (false))
 else (bif decide (¬ x13.2=(0:Int)) then (some (false))
 else (bif decide (¬ (List.length x11.1:Int)=(W ((List.length x10.2.stones:Int)+(1:Int)))) then (some (false))
 else ((f46 N x10.2).bind λ x14 =>
 (f47 N x10.2).bind λ x15 =>
 bif decide (¬ x13.1=(max (0:Int) (W (x14-x15)))) then (some (false))
 else (zaR (zeh N b106_1 b100 b101 b102 b100' b200 p501 r6 x9 x10 x12) λ k2 =>
 zfI N b106_1 b100 b101 b102 b100' b200 p501 x9 x10 x11 x12 k2 N (0:Int) (0:Int)))))))
 k1
def zm5 (N:Nat)(b106_1:LB)(b100:LS)(b101:LE)(b102:LC)(b100':List (ByteArray×RunM))(b200:List (ByteArray×A2strN))(k1:Option (Bool)):Nat->(List Nat)->Option (Bool)
 | 0,_=>none
 | n+1,p501=>zrn (zm5 N b106_1 b100 b101 b102 b100' b200 k1 n) N b106_1 b100 b101 b102 b100' b200 k1 p501
def zua (N:Nat)(b106_1:LB)(b100:LS)(b101:LE)(b102:LC)(b100':List (ByteArray×RunM))(b200:List (ByteArray×A2strN))(k1:Option (Bool)):Lp (Nat×(List Nat)) (Nat×Unit) (Bool):=lpm ⟨[3,5,44],[501,zxB,zxC,zxA,zxD,zxE,zxG,zxH],[],[]⟩ (λ (n,p501)=>zm5 N b106_1 b100 b101 b102 b100' b200 k1 n p501) (λ (_,_) (_,_)=>[.ptr zxG 0, .mp zxH, .ptr 501 0]) (λ (_,p501) (m0,_)=>[.mit (encM strN RunM.pt (b100')) p501,(rW b106_1),(sW [zxA] b100),(eW b101),(mW b102), .box [.mp zxC, .mp zxA, .mp zxD], .box [.ptr zxE 0, .rs zxB m0], .mp (encM strN A2strN.d b200)]) λ (_,_)=>(List.length b106_1,())
instance Ef11_6 {N b106_1 b100 b101 b102 b100' b200 k1 n p501}:IsLp 1 1 (zm5 N b106_1 b100 b101 b102 b100' b200 k1 n p501) (zua N b106_1 b100 b101 b102 b100' b200 k1) (n,p501):=⟨rfl⟩
def zbS (N:Nat)(b106_1:LB)(b100:LS)(b101:LE)(b102:LC)(x2:LB)(b100':List (ByteArray×RunM))(b200:List (ByteArray×A2strN)):Option (Bool) :=
 zaR (zeg N b106_1 b100 b101 b102 b200) λ k1 =>
 zm5 N b106_1 b100 b101 b102 b100' b200 k1 N []
def zdZ (N:Nat)(b106_1:LB)(b100:LS)(b101:LE)(b102:LC)(x2:LB):Lp ((List (ByteArray×RunM))×(List (ByteArray×A2strN))) (Nat×Unit) (Bool):=lpm ⟨[5,6],[201,zxB,zxC,zxA,zxD,zxE,zxG,zxF,zxH],[],[]⟩ (λ (b100',b200)=>zbS N b106_1 b100 b101 b102 x2 b100' b200) (λ (_,_) (_,_)=>[.mp zxF, .mp zxH]) (λ (b100',b200) (m0,_)=>[(rW x2),(rW b106_1),(sW [zxA] b100),(eW b101),(mW b102), .box [.mp zxC, .mp zxA, .mp zxD], .box [.ptr zxE 0, .rs zxB m0], .fam [] (encF strN RunM.m (b100')) [], .mp (encM strN A2strN.d b200)]) λ (_,_)=>(List.length b106_1,())
instance zte {N b106_1 b100 b101 b102 x2 b100' b200}:IsLp 1 2 (zbS N b106_1 b100 b101 b102 x2 b100' b200) (zdZ N b106_1 b100 b101 b102 x2) (b100',b200):=⟨rfl⟩
instance ztf {N b106_1 b100 b101 b102 x2}:IsCut 2 (zbS N b106_1 b100 b101 b102 x2) (zdZ N b106_1 b100 b101 b102 x2) 103000101000107000000063:=⟨⟩
def zbd (b106_1:LB)(b100:LS)(b101:LE)(b102:LC)(x2:LB)(v20:Int)(r4:Int->(List (ByteArray×RunM))->(List (ByteArray×A2strN))->Option (Bool))(b100'':List (ByteArray×RunM))(b200':List (ByteArray×A2strN)):Option (Bool) :=
 r4 (W (v20+(1:Int))) (b100'') (b200')
def zd0 (b106_1:LB)(b100:LS)(b101:LE)(b102:LC)(x2:LB)(v20:Int)(r4:Int->(List (ByteArray×RunM))->(List (ByteArray×A2strN))->Option (Bool)):Lp ((List (ByteArray×RunM))×(List (ByteArray×A2strN))) (Nat×Nat×Nat) (Bool):=lpm ⟨[5,6,18,19,20],[201,zxB,zxC,zxA,zxD,zxE,zxG,zxF,zxH],[],[]⟩ (λ (b100'',b200')=>zbd b106_1 b100 b101 b102 x2 v20 r4 b100'' b200') (λ (_,_) (m0,m1,_)=>[.mp zxF, .mp zxH, .rs 201 m0, .dat (iN (m1:Int)), .dat (iN v20)]) (λ (b100'',b200') (_,_,m2)=>[(rW x2),(rW b106_1),(sW [zxA] b100),(eW b101),(mW b102), .box [.mp zxC, .mp zxA, .mp zxD], .box [.ptr zxE 0, .rs zxB m2], .fam [] (encF strN RunM.m (b100'')) [], .mp (encM strN A2strN.d (b200'))]) λ (_,_)=>(List.length x2,List.length x2,List.length b106_1)
instance ztg {b106_1 b100 b101 b102 x2 v20 r4 b100'' b200'}:IsLp 3 2 (zbd b106_1 b100 b101 b102 x2 v20 r4 b100'' b200') (zd0 b106_1 b100 b101 b102 x2 v20 r4) (b100'',b200'):=⟨rfl⟩
instance zth {b106_1 b100 b101 b102 x2 v20 r4}:IsCut 2 (zbd b106_1 b100 b101 b102 x2 v20 r4) (zd0 b106_1 b100 b101 b102 x2 v20 r4) 103000101000107000000062:=⟨⟩
def zdp (r23:Int->(List (ByteArray×RunM))->Option (Bool))(b106_1:LB)(b100:LS)(b101:LE)(b102:LC)(x2:LB)(v20:Int)(b200:List (ByteArray×A2strN))(k4:(List (ByteArray×RunM))->(List (ByteArray×A2strN))->Option (Bool))(x27:LB)(x44:ByteArray)(x46:Int)(v122:Int)(b100'':List (ByteArray×RunM)):Option (Bool) :=
 bif decide (v122<(min x46 (100:Int))) then (onO (zat x44 (b100'')) none λ x47 =>
 (getF (b100'') x47).bind λ x48 =>
 (app 8 x48.sheets [(0:Int)]).bind λ x49 =>
 (some (setF (b100'') x47 ({ x48 with sheets:=x49 }))).bind λ x50 =>
 r23 (W (v122+(1:Int))) x50)
 else (k4 (b100'') b200)
def zbT (b106_1:LB)(b100:LS)(b101:LE)(b102:LC)(x2:LB)(v20:Int)(b200:List (ByteArray×A2strN))(k4:(List (ByteArray×RunM))->(List (ByteArray×A2strN))->Option (Bool))(x27:LB)(x44:ByteArray)(x46:Int):Nat->Int->(List (ByteArray×RunM))->Option (Bool)
 | 0,_,_=>none
 | n+1,v122,b100'' => zdp (zbT b106_1 b100 b101 b102 x2 v20 b200 k4 x27 x44 x46 n) b106_1 b100 b101 b102 x2 v20 b200 k4 x27 x44 x46 v122 b100''
def zgp (b106_1:LB)(b100:LS)(b101:LE)(b102:LC)(x2:LB)(v20:Int)(b200:List (ByteArray×A2strN))(k4:(List (ByteArray×RunM))->(List (ByteArray×A2strN))->Option (Bool))(x27:LB)(x44:ByteArray)(x46:Int):Lp (Nat×Int×(List (ByteArray×RunM))) (Nat×Nat×Nat×Nat) (Bool):=lpm ⟨[5,6,9,18,19,20,121,122],[201,zxB,zxC,zxA,zxD,zxE,zxG,zxF,zxH,zxI],[],[]⟩ (λ (n,v122,b100'')=>zbT b106_1 b100 b101 b102 x2 v20 b200 k4 x27 x44 x46 n v122 b100'') (λ (_,v122,_) (m0,m1,m2,_)=>[.mp zxF, .mp zxH, .rs zxI m0, .rs 201 m1, .dat (iN (m2:Int)), .dat (iN v20), .dat (iN (min x46 (100:Int))), .dat (iN v122)]) (λ (_,_,b100'') (_,_,_,m3)=>[(rW x2),(rW b106_1),(sW [zxA] b100),(eW b101),(mW b102), .box [.mp zxC, .mp zxA, .mp zxD], .box [.ptr zxE 0, .rs zxB m3], .fam [] (encF strN RunM.m (b100'')) [], .mp (encM strN A2strN.d b200),(rW x27)]) λ (_,_,_)=>(List.length x27,List.length x2,List.length x2,List.length b106_1)
instance zub {b106_1 b100 b101 b102 x2 v20 b200 k4 x27 x44 x46 n v122 b100''}:IsLp 4 2 (zbT b106_1 b100 b101 b102 x2 v20 b200 k4 x27 x44 x46 n v122 b100'') (zgp b106_1 b100 b101 b102 x2 v20 b200 k4 x27 x44 x46) (n,v122,b100''):=⟨rfl⟩
def zaN (r1x:Int->Int->(List Int)->Option (Bool))(b106_1:LB)(b100:LS)(b101:LE)(b102:LC)(x2:LB)(b200:List (ByteArray×A2strN))(k4:(List (ByteArray×RunM))->(List (ByteArray×A2strN))->Option (Bool))(x27:LB)(x54:Nat)(v12:Int)(x73:List Int)(x74:List (ByteArray×RunM))(n3':Int)(v15':Int)(b3':List Int):Option (Bool) :=
 bif decide ((v15')<(List.length x73:Int)) then ((ix (b3') (v15')).bind λ x76 =>
 bif decide (x76=v12) then (bif decide ((0:Int)<(n3')) then ((getF x74 x54).bind λ x77 =>
 (zfY x77.sheets (b3')).bind λ x78 =>
 (setx (b3') (v15') (W (v12+(1:Int)))).bind λ x79 =>
 r1x (W ((n3')-(1:Int))) (W ((v15')+(1:Int))) x79)
 else (r1x (n3') (W ((v15')+(1:Int))) (b3')))
 else (r1x (n3') (W ((v15')+(1:Int))) (b3')))
 else ((getF x74 x54).bind λ x80 =>
 (zfY x80.sheets (b3')).bind λ x81 =>
 (some (setF x74 x54 ({ x80 with sheets:=x81 }))).bind λ x82 =>
 k4 x82 b200)
def zal (b106_1:LB)(b100:LS)(b101:LE)(b102:LC)(x2:LB)(b200:List (ByteArray×A2strN))(k4:(List (ByteArray×RunM))->(List (ByteArray×A2strN))->Option (Bool))(x27:LB)(x54:Nat)(v12:Int)(x73:List Int)(x74:List (ByteArray×RunM)):Nat->Int->Int->(List Int)->Option (Bool)
 | 0,_,_,_=>none
 | n+1,n3',v15',b3' => zaN (zal b106_1 b100 b101 b102 x2 b200 k4 x27 x54 v12 x73 x74 n) b106_1 b100 b101 b102 x2 b200 k4 x27 x54 v12 x73 x74 n3' v15' b3'
def zbm (b106_1:LB)(b100:LS)(b101:LE)(b102:LC)(x2:LB)(b200:List (ByteArray×A2strN))(k4:(List (ByteArray×RunM))->(List (ByteArray×A2strN))->Option (Bool))(x27:LB)(x54:Nat)(v12:Int)(x73:List Int)(x74:List (ByteArray×RunM)):Lp (Nat×Int×Int×(List Int)) (Nat×Nat×Nat) (Bool):=lpm ⟨[0,1,2,3,13,14,15],[201,zxB,zxC,zxA,zxD,zxE,zxG,zxF,zxH,zxI,zxJ,zxQ,zxR],[],[]⟩ (λ (n,n3',v15',b3')=>zal b106_1 b100 b101 b102 x2 b200 k4 x27 x54 v12 x73 x74 n n3' v15' b3') (λ (_,n3',v15',_) (m0,m1,_)=>[.po zxF x54 0, .dat (iN v12), .dat (iN (W (v12+(1:Int)))), .dat (iN (n3')), .rs zxR m0, .dat (iN (m1:Int)), .dat (iN (v15'))]) (λ (_,_,_,b3') (_,_,m2)=>[(rW x2),(rW b106_1),(sW [zxA] b100),(eW b101),(mW b102), .box [.mp zxC, .mp zxA, .mp zxD], .box [.ptr zxE 0, .rs zxB m2], .fam [] (encF strN RunM.m x74) [(x54,0,zxR)], .mp (encM strN A2strN.d b200),(rW x27), .dead, .dead, .row 3 1 (List.map iN (b3'))]) λ (_,_,_,b3')=>(List.length (b3'),List.length x73,List.length b106_1)
instance ze6 {b106_1 b100 b101 b102 x2 b200 k4 x27 x54 v12 x73 x74 n n3' v15' b3'}:IsLp 3 3 (zal b106_1 b100 b101 b102 x2 b200 k4 x27 x54 v12 x73 x74 n n3' v15' b3') (zbm b106_1 b100 b101 b102 x2 b200 k4 x27 x54 v12 x73 x74) (n,n3',v15',b3'):=⟨rfl⟩
def zaO (r1:Int->Int->(List Int)->Option (Bool))(N:Nat)(b106_1:LB)(b100:LS)(b101:LE)(b102:LC)(x2:LB)(b200:List (ByteArray×A2strN))(k4:(List (ByteArray×RunM))->(List (ByteArray×A2strN))->Option (Bool))(x27:LB)(x28:ByteArray)(x54:Nat)(v12:Int)(x55:RunM)(x57:List (ByteArray×RunM))(n3:Int)(v15:Int)(b3:List Int):Option (Bool) :=
 bif decide (v15<(List.length x55.sheets:Int)) then ((ix b3 v15).bind λ x68 =>
 bif decide (x68=v12) then (bif decide ((0:Int)<n3) then ((getF x57 x54).bind λ x69 =>
 (zfY x69.sheets b3).bind λ x70 =>
 (setx b3 v15 (-1:Int)).bind λ x71 =>
 r1 (W (n3-(1:Int))) (W (v15+(1:Int))) x71)
 else (r1 n3 (W (v15+(1:Int))) b3))
 else (r1 n3 (W (v15+(1:Int))) b3))
 else ((getF x57 x54).bind λ x72 =>
 (zfY x72.sheets b3).bind λ x73 =>
 (some (setF x57 x54 ({ x72 with sheets:=x73 }))).bind λ x74 =>
 (f49 N x28).bind λ x75 =>
 zal b106_1 b100 b101 b102 x2 b200 k4 x27 x54 v12 x73 x74 N x75 (0:Int) x73)
def zar (N:Nat)(b106_1:LB)(b100:LS)(b101:LE)(b102:LC)(x2:LB)(b200:List (ByteArray×A2strN))(k4:(List (ByteArray×RunM))->(List (ByteArray×A2strN))->Option (Bool))(x27:LB)(x28:ByteArray)(x54:Nat)(v12:Int)(x55:RunM)(x57:List (ByteArray×RunM)):Nat->Int->Int->(List Int)->Option (Bool)
 | 0,_,_,_=>none
 | n+1,n3,v15,b3=>zaO (zar N b106_1 b100 b101 b102 x2 b200 k4 x27 x28 x54 v12 x55 x57 n) N b106_1 b100 b101 b102 x2 b200 k4 x27 x28 x54 v12 x55 x57 n3 v15 b3
def zbn (N:Nat)(b106_1:LB)(b100:LS)(b101:LE)(b102:LC)(x2:LB)(b200:List (ByteArray×A2strN))(k4:(List (ByteArray×RunM))->(List (ByteArray×A2strN))->Option (Bool))(x27:LB)(x28:ByteArray)(x54:Nat)(v12:Int)(x55:RunM)(x57:List (ByteArray×RunM)):Lp (Nat×Int×Int×(List Int)) (Nat×Nat) (Bool):=lpm ⟨[0,1,2,3,13,14,15],[201,zxB,zxC,zxA,zxD,zxE,zxG,zxF,zxH,zxI,zxJ,zxQ],[],[]⟩ (λ (n,n3,v15,b3)=>zar N b106_1 b100 b101 b102 x2 b200 k4 x27 x28 x54 v12 x55 x57 n n3 v15 b3) (λ (_,n3,v15,_) (m0,_)=>[.po zxF x54 0, .dat (iN v12), .dat (iN (-1:Int)), .dat (iN n3), .rs zxQ m0, .dat (iN (List.length x55.sheets:Int)), .dat (iN v15)]) (λ (_,_,_,b3) (_,m1)=>[(rW x2),(rW b106_1),(sW [zxA] b100),(eW b101),(mW b102), .box [.mp zxC, .mp zxA, .mp zxD], .box [.ptr zxE 0, .rs zxB m1], .fam [] (encF strN RunM.m x57) [(x54,0,zxQ)], .mp (encM strN A2strN.d b200),(rW x27), .dead, .row 3 1 (List.map iN b3)]) λ (_,_,_,b3)=>(List.length b3,List.length b106_1)
instance ze7 {N b106_1 b100 b101 b102 x2 b200 k4 x27 x28 x54 v12 x55 x57 n n3 v15 b3}:IsLp 2 3 (zar N b106_1 b100 b101 b102 x2 b200 k4 x27 x28 x54 v12 x55 x57 n n3 v15 b3) (zbn N b106_1 b100 b101 b102 x2 b200 k4 x27 x28 x54 v12 x55 x57) (n,n3,v15,b3):=⟨rfl⟩
def zbv (N:Nat)(b106_1:LB)(b100:LS)(b101:LE)(b102:LC)(x2:LB)(v20:Int)(b100':List (ByteArray×RunM))(b200:List (ByteArray×A2strN))(k4:(List (ByteArray×RunM))->(List (ByteArray×A2strN))->Option (Bool))(x27:LB)(x28:ByteArray)(x30:ByteArray)(x51:ByteArray)(x54:Nat)(v12:Int)(b3203:LB):Option (Bool) :=
 (getF (b100') x54).bind λ x55 =>
 (zfY x55.stones b3203).bind λ x56 =>
 (some (setF (b100') x54 ({ x55 with stones:=x56 }))).bind λ x57 =>
 bif decide (v12<(0:Int)) then (some (false))
 else (bif decide (x30=(strC [103,114,105,110,100])) then ((some (setF x57 x54 ({ x55 with stones:=x56,ground:=max x55.ground (W (v12+(1:Int))) }))).bind λ x58 =>
 (some (zaA (A2strN.mk zan zan) x51 b200)).bind λ x59 =>
 (f49 N x59.1.e0).bind λ x60 =>
 (f30 N (W (x60-(1:Int)))).bind λ x61 =>
 (some (setK x51 (A2strN.mk x61 zan) b200)).bind λ x62 =>
 k4 x58 x62)
 else ((f49 N x28).bind λ x63 =>
 (ix x27 (3:Int)).bind λ x64 =>
 (f49 N x64).bind λ x65 =>
 (f48 N ({ x55 with stones:=x56 }) v12).bind λ x66 =>
 bif decide (x66<(W (x63+x65))) then (some (false))
 else ((f49 N x64).bind λ x67 =>
 zar N b106_1 b100 b101 b102 x2 b200 k4 x27 x28 x54 v12 x55 x57 N x67 (0:Int) x55.sheets)))
def zcR (N:Nat)(b106_1:LB)(b100:LS)(b101:LE)(b102:LC)(x2:LB)(v20:Int)(b100':List (ByteArray×RunM))(b200:List (ByteArray×A2strN))(k4:(List (ByteArray×RunM))->(List (ByteArray×A2strN))->Option (Bool))(x27:LB)(x28:ByteArray)(x30:ByteArray)(x51:ByteArray)(x54:Nat):Lp (Int×LB) (Nat×Nat×Nat×Nat) (Bool):=lpm ⟨[5,6,9,11,12,18,19,20],[201,zxB,zxC,zxA,zxD,zxE,zxG,zxF,zxH,zxI,zxJ],[],[]⟩ (λ (v12,b3203)=>zbv N b106_1 b100 b101 b102 x2 v20 b100' b200 k4 x27 x28 x30 x51 x54 v12 b3203) (λ (v12,_) (m0,m1,m2,_)=>[.mp zxF, .mp zxH, .rs zxI m0, .pn zxF (some x54), .dat (iN v12), .rs 201 m1, .dat (iN (m2:Int)), .dat (iN v20)]) (λ (_,b3203) (_,_,_,m3)=>[(rW x2),(rW b106_1),(sW [zxA] b100),(eW b101),(mW b102), .box [.mp zxC, .mp zxA, .mp zxD], .box [.ptr zxE 0, .rs zxB m3], .fam [] (encF strN RunM.m (b100')) [(x54,1,zxJ)], .mp (encM strN A2strN.d b200),(rW x27),(rW b3203)]) λ (_,_)=>(List.length x27,List.length x2,List.length x2,List.length b106_1)
instance zti {N b106_1 b100 b101 b102 x2 v20 b100' b200 k4 x27 x28 x30 x51 x54 v12 b3203}:IsLp 4 2 (zbv N b106_1 b100 b101 b102 x2 v20 b100' b200 k4 x27 x28 x30 x51 x54 v12 b3203) (zcR N b106_1 b100 b101 b102 x2 v20 b100' b200 k4 x27 x28 x30 x51 x54) (v12,b3203):=⟨rfl⟩
instance ztj {N b106_1 b100 b101 b102 x2 v20 b100' b200 k4 x27 x28 x30 x51 x54}:IsCut 2 (zbv N b106_1 b100 b101 b102 x2 v20 b100' b200 k4 x27 x28 x30 x51 x54) (zcR N b106_1 b100 b101 b102 x2 v20 b100' b200 k4 x27 x28 x30 x51 x54) zxS:=⟨⟩
def zgq (r33:Int->Int->Option (Bool))(b106_1:LB)(b100:LS)(b101:LE)(b102:LC)(x2:LB)(v20:Int)(b100':List (ByteArray×RunM))(b200:List (ByteArray×A2strN))(x27:LB)(x51:ByteArray)(x54:Nat)(k5:Int->LB->Option (Bool))(x83:RunM)(v12:Int)(v160:Int):Option (Bool) :=
 bif decide (v160<(List.length x83.stones:Int)) then ((ix x83.stones v160).bind λ x84 =>
 bif decide (x84=x51) then (r33 v160 (W (v160+(1:Int))))
 else (r33 v12 (W (v160+(1:Int)))))
 else (k5 v12 x83.stones)
def zcs (b106_1:LB)(b100:LS)(b101:LE)(b102:LC)(x2:LB)(v20:Int)(b100':List (ByteArray×RunM))(b200:List (ByteArray×A2strN))(x27:LB)(x51:ByteArray)(x54:Nat)(k5:Int->LB->Option (Bool))(x83:RunM):Nat->Int->Int->Option (Bool)
 | 0,_,_=>none
 | n+1,v12,v160=>zgq (zcs b106_1 b100 b101 b102 x2 v20 b100' b200 x27 x51 x54 k5 x83 n) b106_1 b100 b101 b102 x2 v20 b100' b200 x27 x51 x54 k5 x83 v12 v160
def zgr (b106_1:LB)(b100:LS)(b101:LE)(b102:LC)(x2:LB)(v20:Int)(b100':List (ByteArray×RunM))(b200:List (ByteArray×A2strN))(x27:LB)(x51:ByteArray)(x54:Nat)(k5:Int->LB->Option (Bool))(x83:RunM):Lp (Nat×Int×Int) (Nat×Nat×Nat×Nat×Nat) (Bool):=lpm ⟨[5,6,9,11,12,18,19,20,158,159,160],[201,zxB,zxC,zxA,zxD,zxE,zxG,zxF,zxH,zxI,zxJ],[],[]⟩ (λ (n,v12,v160)=>zcs b106_1 b100 b101 b102 x2 v20 b100' b200 x27 x51 x54 k5 x83 n v12 v160) (λ (_,v12,v160) (m0,m1,m2,m3,_)=>[.mp zxF, .mp zxH, .rs zxI m0, .pn zxF (some x54), .dat (iN v12), .rs 201 m1, .dat (iN (m2:Int)), .dat (iN v20), .rs zxJ m3, .dat (iN (List.length x83.stones:Int)), .dat (iN v160)]) (λ (_,_,_) (_,_,_,_,m4)=>[(rW x2),(rW b106_1),(sW [zxA] b100),(eW b101),(mW b102), .box [.mp zxC, .mp zxA, .mp zxD], .box [.ptr zxE 0, .rs zxB m4], .fam [] (encF strN RunM.m (b100')) [(x54,1,zxJ)], .mp (encM strN A2strN.d b200),(rW x27),(rW x83.stones)]) λ (_,_,_)=>(List.length x27,List.length x2,List.length x2,List.length x83.stones,List.length b106_1)
instance zuc {b106_1 b100 b101 b102 x2 v20 b100' b200 x27 x51 x54 k5 x83 n v12 v160}:IsLp 5 2 (zcs b106_1 b100 b101 b102 x2 v20 b100' b200 x27 x51 x54 k5 x83 n v12 v160) (zgr b106_1 b100 b101 b102 x2 v20 b100' b200 x27 x51 x54 k5 x83) (n,v12,v160):=⟨rfl⟩
def zbc (N:Nat)(b106_1:LB)(b100:LS)(b101:LE)(b102:LC)(x2:LB)(v20:Int)(b100':List (ByteArray×RunM))(b200:List (ByteArray×A2strN))(k4:(List (ByteArray×RunM))->(List (ByteArray×A2strN))->Option (Bool))(x27:LB)(x85:ByteArray)(x88:Nat)(v12:Int)(b3203:LB):Option (Bool) :=
 (getF (b100') x88).bind λ x89 =>
 (zfY x89.stones b3203).bind λ x90 =>
 (some (setF (b100') x88 ({ x89 with stones:=x90 }))).bind λ x91 =>
 bif decide (v12<(0:Int)) then (some (false))
 else ((some (setF x91 x88 ({ x89 with stones:=x90,ground:=max x89.ground (W (v12+(1:Int))) }))).bind λ x92 =>
 (some (zaA (A2strN.mk zan zan) x85 b200)).bind λ x93 =>
 (f49 N x93.1.e0).bind λ x94 =>
 (f30 N (W (x94-(1:Int)))).bind λ x95 =>
 (some (setK x85 (A2strN.mk x95 zan) b200)).bind λ x96 =>
 k4 x92 x96)
def zck (N:Nat)(b106_1:LB)(b100:LS)(b101:LE)(b102:LC)(x2:LB)(v20:Int)(b100':List (ByteArray×RunM))(b200:List (ByteArray×A2strN))(k4:(List (ByteArray×RunM))->(List (ByteArray×A2strN))->Option (Bool))(x27:LB)(x85:ByteArray)(x88:Nat):Lp (Int×LB) (Nat×Nat×Nat×Nat) (Bool):=lpm ⟨[5,6,9,11,12,18,19,20],[201,zxB,zxC,zxA,zxD,zxE,zxG,zxF,zxH,zxI,zxJ],[],[]⟩ (λ (v12,b3203)=>zbc N b106_1 b100 b101 b102 x2 v20 b100' b200 k4 x27 x85 x88 v12 b3203) (λ (v12,_) (m0,m1,m2,_)=>[.mp zxF, .mp zxH, .rs zxI m0, .pn zxF (some x88), .dat (iN v12), .rs 201 m1, .dat (iN (m2:Int)), .dat (iN v20)]) (λ (_,b3203) (_,_,_,m3)=>[(rW x2),(rW b106_1),(sW [zxA] b100),(eW b101),(mW b102), .box [.mp zxC, .mp zxA, .mp zxD], .box [.ptr zxE 0, .rs zxB m3], .fam [] (encF strN RunM.m (b100')) [(x88,1,zxJ)], .mp (encM strN A2strN.d b200),(rW x27),(rW b3203)]) λ (_,_)=>(List.length x27,List.length x2,List.length x2,List.length b106_1)
instance zro {N b106_1 b100 b101 b102 x2 v20 b100' b200 k4 x27 x85 x88 v12 b3203}:IsLp 4 2 (zbc N b106_1 b100 b101 b102 x2 v20 b100' b200 k4 x27 x85 x88 v12 b3203) (zck N b106_1 b100 b101 b102 x2 v20 b100' b200 k4 x27 x85 x88) (v12,b3203):=⟨rfl⟩
instance zrp {N b106_1 b100 b101 b102 x2 v20 b100' b200 k4 x27 x85 x88}:IsCut 2 (zbc N b106_1 b100 b101 b102 x2 v20 b100' b200 k4 x27 x85 x88) (zck N b106_1 b100 b101 b102 x2 v20 b100' b200 k4 x27 x85 x88) zxS:=⟨⟩
def zeF (r33:Int->Int->Option (Bool))(b106_1:LB)(b100:LS)(b101:LE)(b102:LC)(x2:LB)(v20:Int)(b100':List (ByteArray×RunM))(b200:List (ByteArray×A2strN))(x27:LB)(x85:ByteArray)(x88:Nat)(k6:Int->LB->Option (Bool))(x97:RunM)(v12:Int)(v160:Int):Option (Bool) :=
 bif decide (v160<(List.length x97.stones:Int)) then ((ix x97.stones v160).bind λ x98 =>
 bif decide (x98=x85) then (r33 v160 (W (v160+(1:Int))))
 else (r33 v12 (W (v160+(1:Int)))))
 else (k6 v12 x97.stones)
def zbW (b106_1:LB)(b100:LS)(b101:LE)(b102:LC)(x2:LB)(v20:Int)(b100':List (ByteArray×RunM))(b200:List (ByteArray×A2strN))(x27:LB)(x85:ByteArray)(x88:Nat)(k6:Int->LB->Option (Bool))(x97:RunM):Nat->Int->Int->Option (Bool)
 | 0,_,_=>none
 | n+1,v12,v160=>zeF (zbW b106_1 b100 b101 b102 x2 v20 b100' b200 x27 x85 x88 k6 x97 n) b106_1 b100 b101 b102 x2 v20 b100' b200 x27 x85 x88 k6 x97 v12 v160
def zeG (b106_1:LB)(b100:LS)(b101:LE)(b102:LC)(x2:LB)(v20:Int)(b100':List (ByteArray×RunM))(b200:List (ByteArray×A2strN))(x27:LB)(x85:ByteArray)(x88:Nat)(k6:Int->LB->Option (Bool))(x97:RunM):Lp (Nat×Int×Int) (Nat×Nat×Nat×Nat×Nat) (Bool):=lpm ⟨[5,6,9,11,12,18,19,20,158,159,160],[201,zxB,zxC,zxA,zxD,zxE,zxG,zxF,zxH,zxI,zxJ],[],[]⟩ (λ (n,v12,v160)=>zbW b106_1 b100 b101 b102 x2 v20 b100' b200 x27 x85 x88 k6 x97 n v12 v160) (λ (_,v12,v160) (m0,m1,m2,m3,_)=>[.mp zxF, .mp zxH, .rs zxI m0, .pn zxF (some x88), .dat (iN v12), .rs 201 m1, .dat (iN (m2:Int)), .dat (iN v20), .rs zxJ m3, .dat (iN (List.length x97.stones:Int)), .dat (iN v160)]) (λ (_,_,_) (_,_,_,_,m4)=>[(rW x2),(rW b106_1),(sW [zxA] b100),(eW b101),(mW b102), .box [.mp zxC, .mp zxA, .mp zxD], .box [.ptr zxE 0, .rs zxB m4], .fam [] (encF strN RunM.m (b100')) [(x88,1,zxJ)], .mp (encM strN A2strN.d b200),(rW x27),(rW x97.stones)]) λ (_,_,_)=>(List.length x27,List.length x2,List.length x2,List.length x97.stones,List.length b106_1)
instance zrR {b106_1 b100 b101 b102 x2 v20 b100' b200 x27 x85 x88 k6 x97 n v12 v160}:IsLp 5 2 (zbW b106_1 b100 b101 b102 x2 v20 b100' b200 x27 x85 x88 k6 x97 n v12 v160) (zeG b106_1 b100 b101 b102 x2 v20 b100' b200 x27 x85 x88 k6 x97) (n,v12,v160):=⟨rfl⟩
def zbo (r1:Int->Int->(List Int)->Option (Bool))(b106_1:LB)(b100:LS)(b101:LE)(b102:LC)(x2:LB)(b100':List (ByteArray×RunM))(b200:List (ByteArray×A2strN))(k4:(List (ByteArray×RunM))->(List (ByteArray×A2strN))->Option (Bool))(x27:LB)(x103:Nat)(x105:Int)(x106:RunM)(x109:ByteArray)(x111:Nat)(n3:Int)(v15:Int)(b3:List Int):Option (Bool) :=
 bif decide (v15<(List.length x106.sheets:Int)) then ((ix b3 v15).bind λ x112 =>
 bif decide (x112=(x111:Int)) then (bif decide ((0:Int)<n3) then ((zfY x106.sheets b3).bind λ x113 =>
 (setx b3 v15 (-2:Int)).bind λ x114 =>
 r1 (W (n3-(1:Int))) (W (v15+(1:Int))) x114)
 else (r1 n3 (W (v15+(1:Int))) b3))
 else (r1 n3 (W (v15+(1:Int))) b3))
 else ((zfY x106.sheets b3).bind λ x115 =>
 (some (setF (b100') x103 ({ x106 with sheets:=x115 }))).bind λ x116 =>
 (some (zaA (0:Int) x109 x106.claims)).bind λ x117 =>
 (some (setK x109 (W (x117.1+(W (0-x105)))) x106.claims)).bind λ x118 =>
 (some (setF x116 x103 ({ x106 with sheets:=x115,claims:=x118 }))).bind λ x119 =>
 k4 x119 b200)
def zaF (b106_1:LB)(b100:LS)(b101:LE)(b102:LC)(x2:LB)(b100':List (ByteArray×RunM))(b200:List (ByteArray×A2strN))(k4:(List (ByteArray×RunM))->(List (ByteArray×A2strN))->Option (Bool))(x27:LB)(x103:Nat)(x105:Int)(x106:RunM)(x109:ByteArray)(x111:Nat):Nat->Int->Int->(List Int)->Option (Bool)
 | 0,_,_,_=>none
 | n+1,n3,v15,b3=>zbo (zaF b106_1 b100 b101 b102 x2 b100' b200 k4 x27 x103 x105 x106 x109 x111 n) b106_1 b100 b101 b102 x2 b100' b200 k4 x27 x103 x105 x106 x109 x111 n3 v15 b3
def zbp (b106_1:LB)(b100:LS)(b101:LE)(b102:LC)(x2:LB)(b100':List (ByteArray×RunM))(b200:List (ByteArray×A2strN))(k4:(List (ByteArray×RunM))->(List (ByteArray×A2strN))->Option (Bool))(x27:LB)(x103:Nat)(x105:Int)(x106:RunM)(x109:ByteArray)(x111:Nat):Lp (Nat×Int×Int×(List Int)) (Nat×Nat) (Bool):=lpm ⟨[0,1,2,3,13,14,15],[201,zxB,zxC,zxA,zxD,zxE,zxG,zxF,zxH,103000101000107000601,103000101000107000602,zxI,zxT,zxP],[],[]⟩ (λ (n,n3,v15,b3)=>zaF b106_1 b100 b101 b102 x2 b100' b200 k4 x27 x103 x105 x106 x109 x111 n n3 v15 b3) (λ (_,n3,v15,_) (m0,_)=>[.po zxF x103 0, .dat (iN (x111:Int)), .dat (iN (-2:Int)), .dat (iN n3), .rs zxP m0, .dat (iN (List.length x106.sheets:Int)), .dat (iN v15)]) (λ (_,_,_,b3) (_,m1)=>[(rW x2),(rW b106_1),(sW [zxA] b100),(eW b101),(mW b102), .box [.mp zxC, .mp zxA, .mp zxD], .box [.ptr zxE 0, .rs zxB m1], .fam [] (encF strN RunM.m (b100')) [(x103,0,zxP)], .mp (encM strN A2strN.d b200), .dead, .row 9 1 (List.map strN [zan,zan,zan]),(rW x27), .dead, .row 3 1 (List.map iN b3)]) λ (_,_,_,b3)=>(List.length b3,List.length b106_1)
instance ze8 {b106_1 b100 b101 b102 x2 b100' b200 k4 x27 x103 x105 x106 x109 x111 n n3 v15 b3}:IsLp 2 3 (zaF b106_1 b100 b101 b102 x2 b100' b200 k4 x27 x103 x105 x106 x109 x111 n n3 v15 b3) (zbp b106_1 b100 b101 b102 x2 b100' b200 k4 x27 x103 x105 x106 x109 x111) (n,n3,v15,b3):=⟨rfl⟩
def zaI (r1:Int->Int->(List Int)->Option (Bool))(b106_1:LB)(b100:LS)(b101:LE)(b102:LC)(x2:LB)(b100':List (ByteArray×RunM))(b200:List (ByteArray×A2strN))(k4:(List (ByteArray×RunM))->(List (ByteArray×A2strN))->Option (Bool))(x27:LB)(x125:Nat)(x127:Int)(x128:RunM)(x131:ByteArray)(x133:Nat)(n3:Int)(v15:Int)(b3:List Int):Option (Bool) :=
 bif decide (v15<(List.length x128.sheets:Int)) then ((ix b3 v15).bind λ x134 =>
 bif decide (x134=(x133:Int)) then (bif decide ((0:Int)<n3) then ((zfY x128.sheets b3).bind λ x135 =>
 (setx b3 v15 (-2:Int)).bind λ x136 =>
 r1 (W (n3-(1:Int))) (W (v15+(1:Int))) x136)
 else (r1 n3 (W (v15+(1:Int))) b3))
 else (r1 n3 (W (v15+(1:Int))) b3))
 else ((zfY x128.sheets b3).bind λ x137 =>
 (some (setF (b100') x125 ({ x128 with sheets:=x137 }))).bind λ x138 =>
 (some (zaA (0:Int) x131 x128.claims)).bind λ x139 =>
 (some (setK x131 (W (x139.1+(W (0-x127)))) x128.claims)).bind λ x140 =>
 (some (setF x138 x125 ({ x128 with sheets:=x137,claims:=x140 }))).bind λ x141 =>
 k4 x141 b200)
def zap (b106_1:LB)(b100:LS)(b101:LE)(b102:LC)(x2:LB)(b100':List (ByteArray×RunM))(b200:List (ByteArray×A2strN))(k4:(List (ByteArray×RunM))->(List (ByteArray×A2strN))->Option (Bool))(x27:LB)(x125:Nat)(x127:Int)(x128:RunM)(x131:ByteArray)(x133:Nat):Nat->Int->Int->(List Int)->Option (Bool)
 | 0,_,_,_=>none
 | n+1,n3,v15,b3=>zaI (zap b106_1 b100 b101 b102 x2 b100' b200 k4 x27 x125 x127 x128 x131 x133 n) b106_1 b100 b101 b102 x2 b100' b200 k4 x27 x125 x127 x128 x131 x133 n3 v15 b3
def zbh (b106_1:LB)(b100:LS)(b101:LE)(b102:LC)(x2:LB)(b100':List (ByteArray×RunM))(b200:List (ByteArray×A2strN))(k4:(List (ByteArray×RunM))->(List (ByteArray×A2strN))->Option (Bool))(x27:LB)(x125:Nat)(x127:Int)(x128:RunM)(x131:ByteArray)(x133:Nat):Lp (Nat×Int×Int×(List Int)) (Nat×Nat) (Bool):=lpm ⟨[0,1,2,3,13,14,15],[201,zxB,zxC,zxA,zxD,zxE,zxG,zxF,zxH,103000101000107000601,103000101000107000602,zxI,zxT,zxP],[],[]⟩ (λ (n,n3,v15,b3)=>zap b106_1 b100 b101 b102 x2 b100' b200 k4 x27 x125 x127 x128 x131 x133 n n3 v15 b3) (λ (_,n3,v15,_) (m0,_)=>[.po zxF x125 0, .dat (iN (x133:Int)), .dat (iN (-2:Int)), .dat (iN n3), .rs zxP m0, .dat (iN (List.length x128.sheets:Int)), .dat (iN v15)]) (λ (_,_,_,b3) (_,m1)=>[(rW x2),(rW b106_1),(sW [zxA] b100),(eW b101),(mW b102), .box [.mp zxC, .mp zxA, .mp zxD], .box [.ptr zxE 0, .rs zxB m1], .fam [] (encF strN RunM.m (b100')) [(x125,0,zxP)], .mp (encM strN A2strN.d b200), .dead, .row 9 1 (List.map strN [zan,zan,zan]),(rW x27), .dead, .row 3 1 (List.map iN b3)]) λ (_,_,_,b3)=>(List.length b3,List.length b106_1)
instance zeH {b106_1 b100 b101 b102 x2 b100' b200 k4 x27 x125 x127 x128 x131 x133 n n3 v15 b3}:IsLp 2 3 (zap b106_1 b100 b101 b102 x2 b100' b200 k4 x27 x125 x127 x128 x131 x133 n n3 v15 b3) (zbh b106_1 b100 b101 b102 x2 b100' b200 k4 x27 x125 x127 x128 x131 x133) (n,n3,v15,b3):=⟨rfl⟩
def zaC (r4:Int->(List (ByteArray×RunM))->(List (ByteArray×A2strN))->Option (Bool))(N:Nat)(b106_1:LB)(b100:LS)(b101:LE)(b102:LC)(x2:LB)(k3:(List (ByteArray×RunM))->(List (ByteArray×A2strN))->Option (Bool))(v20:Int)(b100':List (ByteArray×RunM))(b200:List (ByteArray×A2strN)):Option (Bool) :=
 bif decide (v20<(List.length x2:Int)) then (zaR (zbd b106_1 b100 b101 b102 x2 v20 r4) λ k4 =>
 (ix x2 v20).bind λ x25 =>
 (f31 N x25).bind λ x26 =>
 (app 16 x26 [zan,zan,zan]).bind λ x27 =>
 (ix x27 (2:Int)).bind λ x28 =>
 (zo1 x28 (b100')).bind λ x29 =>
 (ix x27 (0:Int)).bind λ x30 =>
 bif decide (x30=(strC [115,116,111,110,101])) then ((ix x27 (1:Int)).bind λ x31 =>
 (some (setK x31 (A2strN.mk x28 zan) b200)).bind λ x32 =>
 k4 (b100') x32)
 else (bif decide (x30=(strC [101,100,105,116,105,111,110])) then ((ix x27 (1:Int)).bind λ x33 =>
 (insF x33 (RunM.mk [] [] (0:Int) false []) (b100')).bind λ x34 =>
 k4 x34 b200)
 else (bif decide (x30=(strC [100,114,97,119])) then (onO x29 (some (false)) λ x35 =>
 (getF (b100') x35).bind λ x36 =>
 bif x36.closed then (some (false))
 else ((ix x27 (1:Int)).bind λ x37 =>
 (some (zaA (A2strN.mk zan zan) x37 b200)).bind λ x38 =>
 bif decide (x38.1.e0=zan) then (some (false))
 else ((some (zaA (A2strN.mk zan zan) x37 b200)).bind λ x39 =>
 bif decide (¬ x39.1.e1=zan) then (some (false))
 else ((some (zaA (A2strN.mk zan zan) x37 b200)).bind λ x40 =>
 (some (setK x37 (A2strN.mk x40.1.e0 x28) b200)).bind λ x41 =>
 (app 16 x36.stones [x37]).bind λ x42 =>
 (some (setF (b100') x35 ({ x36 with stones:=x42 }))).bind λ x43 =>
 k4 x43 x41))))
 else (bif decide (x30=(strC [112,97,112,101,114])) then ((ix x27 (1:Int)).bind λ x44 =>
 onO (zat x44 (b100')) (some (false)) λ x45 =>
 (f49 N x28).bind λ x46 =>
 zbT b106_1 b100 b101 b102 x2 v20 b200 k4 x27 x44 x46 N (0:Int) (b100'))
 else (bif decide (x30=(strC [112,114,105,110,116])) then ((ix x27 (1:Int)).bind λ x51 =>
 (some (zaA (A2strN.mk zan zan) x51 b200)).bind λ x52 =>
 (zo1 x52.1.e1 (b100')).bind λ x53 =>
 onO x53 (some (false)) λ x54 =>
 zaR (zbv N b106_1 b100 b101 b102 x2 v20 b100' b200 k4 x27 x28 x30 x51 x54) λ k5 =>
 (getF (b100') x54).bind λ x83 =>
 zcs b106_1 b100 b101 b102 x2 v20 b100' b200 x27 x51 x54 k5 x83 N (-1:Int) (0:Int))
 else (bif decide (x30=(strC [103,114,105,110,100])) then ((ix x27 (1:Int)).bind λ x85 =>
 (some (zaA (A2strN.mk zan zan) x85 b200)).bind λ x86 =>
 (zo1 x86.1.e1 (b100')).bind λ x87 =>
 onO x87 (some (false)) λ x88 =>
 zaR (zbc N b106_1 b100 b101 b102 x2 v20 b100' b200 k4 x27 x85 x88) λ k6 =>
 (getF (b100') x88).bind λ x97 =>
 zbW b106_1 b100 b101 b102 x2 v20 b100' b200 x27 x85 x88 k6 x97 N (-1:Int) (0:Int))
 else (bif decide (x30=(strC [99,108,111,115,101])) then ((ix x27 (1:Int)).bind λ x99 =>
 onO (zat x99 (b100')) (some (false)) λ x100 =>
 (getF (b100') x100).bind λ x101 =>
 (some (setF (b100') x100 ({ x101 with closed:=true }))).bind λ x102 =>
 k4 x102 b200)
 else (bif decide (x30=(strC [99,108,97,105,109])) then (onO x29 (some (false)) λ x103 =>
 (ix x27 (3:Int)).bind λ x104 =>
 (f49 N x104).bind λ x105 =>
 bif decide (x30=(strC [100,101,108,105,118,101,114])) then ((getF (b100') x103).bind λ x106 =>
 (lnL x106.stones).bind λ x107 =>
 (f48 N x106 (x107:Int)).bind λ x108 =>
 bif decide (x108<x105) then (some (false))
 else ((ix x27 (1:Int)).bind λ x109 =>
 (some (zaA (0:Int) x109 x106.claims)).bind λ x110 =>
 (some ()).bind λ _ =>
 bif decide (x110.1<x105) then (some (false))
 else ((lnL x106.stones).bind λ x111 =>
 zaF b106_1 b100 b101 b102 x2 b100' b200 k4 x27 x103 x105 x106 x109 x111 N x105 (0:Int) x106.sheets)))
 else ((getF (b100') x103).bind λ x120 =>
 (ix x27 (1:Int)).bind λ x121 =>
 (some (zaA (0:Int) x121 x120.claims)).bind λ x122 =>
 (some (setK x121 (W (x122.1+x105)) x120.claims)).bind λ x123 =>
 (some (setF (b100') x103 ({ x120 with claims:=x123 }))).bind λ x124 =>
 k4 x124 b200))
 else (bif decide (x30=(strC [100,101,108,105,118,101,114])) then (onO x29 (some (false)) λ x125 =>
 (ix x27 (3:Int)).bind λ x126 =>
 (f49 N x126).bind λ x127 =>
 (getF (b100') x125).bind λ x128 =>
 (lnL x128.stones).bind λ x129 =>
 (f48 N x128 (x129:Int)).bind λ x130 =>
 bif decide (x130<x127) then (some (false))
 else ((ix x27 (1:Int)).bind λ x131 =>
 (some (zaA (0:Int) x131 x128.claims)).bind λ x132 =>
 (some ()).bind λ _ =>
 bif decide (x132.1<x127) then (some (false))
 else ((lnL x128.stones).bind λ x133 =>
 zap b106_1 b100 b101 b102 x2 b100' b200 k4 x27 x125 x127 x128 x131 x133 N x127 (0:Int) x128.sheets)))
 else (some (false)))))))))))
 else (k3 (b100') b200)
def zb8 (N:Nat)(b106_1:LB)(b100:LS)(b101:LE)(b102:LC)(x2:LB)(k3:(List (ByteArray×RunM))->(List (ByteArray×A2strN))->Option (Bool)):Nat->Int->(List (ByteArray×RunM))->(List (ByteArray×A2strN))->Option (Bool)
 | 0,_,_,_=>none
 | n+1,v20,b100',b200=>zaC (zb8 N b106_1 b100 b101 b102 x2 k3 n) N b106_1 b100 b101 b102 x2 k3 v20 b100' b200
def zhR (N:Nat)(b106_1:LB)(b100:LS)(b101:LE)(b102:LC)(x2:LB)(k3:(List (ByteArray×RunM))->(List (ByteArray×A2strN))->Option (Bool)):Lp (Nat×Int×(List (ByteArray×RunM))×(List (ByteArray×A2strN))) (Nat×Nat×Nat) (Bool):=lpm ⟨[5,6,18,19,20],[201,zxB,zxC,zxA,zxD,zxE,zxG,zxF,zxH],[],[]⟩ (λ (n,v20,b100',b200)=>zb8 N b106_1 b100 b101 b102 x2 k3 n v20 b100' b200) (λ (_,v20,_,_) (m0,m1,_)=>[.mp zxF, .mp zxH, .rs 201 m0, .dat (iN (m1:Int)), .dat (iN v20)]) (λ (_,_,b100',b200) (_,_,m2)=>[(rW x2),(rW b106_1),(sW [zxA] b100),(eW b101),(mW b102), .box [.mp zxC, .mp zxA, .mp zxD], .box [.ptr zxE 0, .rs zxB m2], .fam [] (encF strN RunM.m (b100')) [], .mp (encM strN A2strN.d b200)]) λ (_,_,_,_)=>(List.length x2,List.length x2,List.length b106_1)
instance zvm {N b106_1 b100 b101 b102 x2 k3 n v20 b100' b200}:IsLp 3 3 (zb8 N b106_1 b100 b101 b102 x2 k3 n v20 b100' b200) (zhR N b106_1 b100 b101 b102 x2 k3) (n,v20,b100',b200):=⟨rfl⟩
def zbU (N:Nat)(b106_1:LB)(b100:LS)(b101:LE)(b102:LC):Option (Bool) :=
 (f21 N b106_1 b100 b101 b102).bind λ x2 =>
 zaR (zbS N b106_1 b100 b101 b102 x2) λ k3 =>
 zb8 N b106_1 b100 b101 b102 x2 k3 N (0:Int) [] []
def zei (N:Nat):Lp (LB×LS×LE×LC) (Nat×Unit) (Bool):=lpm ⟨[3],[zxB,zxC,zxA,zxD,zxE,zxG],[(.cell zxG 1,zxB,9,1)],[]⟩ (λ (b106_1,b100,b101,b102)=>zbU N b106_1 b100 b101 b102) (λ (_,_,_,_) (_,_)=>[.ptr zxG 0]) (λ (b106_1,b100,b101,b102) (m0,_)=>[(rW b106_1),(sW [zxA] b100),(eW b101),(mW b102), .box [.mp zxC, .mp zxA, .mp zxD], .box [.ptr zxE 0, .rs zxB m0]]) λ (b106_1,_,_,_)=>(List.length b106_1,())
instance zud {N b106_1 b100 b101 b102}:IsLp 1 4 (zbU N b106_1 b100 b101 b102) (zei N) (b106_1,b100,b101,b102):=⟨rfl⟩
instance zue {N}:IsCut 4 (zbU N) (zei N) 103000000007:=⟨⟩
def zct (N:Nat)(x1:LB)(v9:Int)(b106_1:LB)(b100:LS)(b101:LE)(b102:LC)(r3:Int->LB->LS->LE->LC->Option (Bool))(x5:ByteArray):Option (Bool) :=
 (f18 N x5 b106_1 b100 b101 b102).bind λ x142 =>
 r3 (W (v9+(1:Int))) x142.2.2.2.2 x142.2.1 x142.2.2.1 x142.2.2.2.1
def zej (N:Nat)(x1:LB)(v9:Int)(b106_1:LB)(b100:LS)(b101:LE)(b102:LC)(r3:Int->LB->LS->LE->LC->Option (Bool)):Lp (ByteArray) (Nat×Nat) (Bool):=lpm ⟨[3,5,7,8,9],[zxB,zxC,zxA,zxD,zxE,zxG],[],[]⟩ (λ x5=>zct N x1 v9 b106_1 b100 b101 b102 r3 x5) (λ x5 (m0,_)=>[.ptr zxG 0, .dat (strN x5), .dat (zaG x1), .dat (iN (m0:Int)), .dat (iN v9)]) (λ _ (_,m1)=>[(rW b106_1),(sW [zxA] b100),(eW b101),(mW b102), .box [.mp zxC, .mp zxA, .mp zxD], .box [.ptr zxE 0, .rs zxB m1]]) λ _=>(List.length x1,List.length b106_1)
instance zuf {N x1 v9 b106_1 b100 b101 b102 r3 x5}:IsLp 2 1 (zct N x1 v9 b106_1 b100 b101 b102 r3 x5) (zej N x1 v9 b106_1 b100 b101 b102 r3) x5:=⟨rfl⟩
instance zug {N x1 v9 b106_1 b100 b101 b102 r3}:IsCut 1 (zct N x1 v9 b106_1 b100 b101 b102 r3) (zej N x1 v9 b106_1 b100 b101 b102 r3) 103000000005:=⟨⟩
def zcu (r3:Int->LB->LS->LE->LC->Option (Bool))(N:Nat)(x1:LB)(k7:LB->LS->LE->LC->Option (Bool))(v9:Int)(b106_1:LB)(b100:LS)(b101:LE)(b102:LC):Option (Bool) :=
 bif decide (v9<(List.length x1:Int)) then (zaR (zct N x1 v9 b106_1 b100 b101 b102 r3) λ k8 =>
 (ix x1 v9).bind λ x143 =>
 k8 x143)
 else (k7 b106_1 b100 b101 b102)
def zcU (N:Nat)(x1:LB)(k7:LB->LS->LE->LC->Option (Bool)):Nat->Int->LB->LS->LE->LC->Option (Bool)
 | 0,_,_,_,_,_=>none
 | n+1,v9,b106_1,b100,b101,b102=>zcu (zcU N x1 k7 n) N x1 k7 v9 b106_1 b100 b101 b102
def zhS (N:Nat)(x1:LB)(k7:LB->LS->LE->LC->Option (Bool)):Lp (Nat×Int×LB×LS×LE×LC) (Nat×Nat) (Bool):=lpm ⟨[3,7,8,9],[zxB,zxC,zxA,zxD,zxE,zxG],[(.cell zxG 1,zxB,9,1)],[]⟩ (λ (n,v9,b106_1,b100,b101,b102)=>zcU N x1 k7 n v9 b106_1 b100 b101 b102) (λ (_,v9,_,_,_,_) (m0,_)=>[.ptr zxG 0, .dat (zaG x1), .dat (iN (m0:Int)), .dat (iN v9)]) (λ (_,_,b106_1,b100,b101,b102) (_,m1)=>[(rW b106_1),(sW [zxA] b100),(eW b101),(mW b102), .box [.mp zxC, .mp zxA, .mp zxD], .box [.ptr zxE 0, .rs zxB m1]]) λ (_,_,b106_1,_,_,_)=>(List.length x1,List.length b106_1)
instance zvn {N x1 k7 n v9 b106_1 b100 b101 b102}:IsLp 2 5 (zcU N x1 k7 n v9 b106_1 b100 b101 b102) (zhS N x1 k7) (n,v9,b106_1,b100,b101,b102):=⟨rfl⟩
def f11 (N:Nat)(a0:List A4u8N):Option (Bool) :=
 (f26 N a0).bind λ x1 =>
 zaR (zbU N) λ k7 =>
 zcU N x1 k7 N (0:Int) [] [] [] []
def G11 (ds:List D)(d:D):Prop:=∃ (N:Nat) (a0:List A4u8N) (r:Bool),ds=[zdX a0]/\f11 N a0=some r/\d=bN r

end Go.Vc
namespace Go.Vc
open Go.Proofs
set_option maxRecDepth 20000 in
theorem wk2 {P:Prop}(h:P:=by repeat' (first
  | ((with_reducible first|refine q0 _ _ ?_|refine q1 _ _ _ _ ?_|refine q2 _ _ _ ?_);clear Q q0 q1 q2)
  | ((with_reducible first|refine zd5 ?hx (λ Q q0 q1 q2=>?_)|refine ze ?hx (λ Q q0 q1 q2=>?_)|refine zdH ?hx (λ Q q0 q1 q2=>?_)|refine zfi ?hx (λ Q q0 q1 q2=>?_));(case hx=>exact rfl);conv=>whnf)
  | ((with_reducible refine zdu ?_);(first|((refine zeD rfl ?hy ?_);(case hy=>first|assumption|exact notT (by assumption)|exact rfl))|((refine zeE rfl ?hy ?_);(case hy=>first|assumption|exact notF (by assumption)|exact rfl))|(revert hF;(with_reducible refine zih ?hx ?_ ?_);(case hx=>exact rfl);all_goals (intro hc hF))))
  | ((with_reducible refine zcI ?_);(first|((with_reducible refine hR _ ?_);clear R hR)|((with_reducible refine hL _ ?_);clear L hL)))
  | ((with_reducible refine zcN ?_);(with_reducible refine hR _ _ ?hx ?_);(case hx=>kernel_rfl);clear R hR)
  | ((with_reducible first|refine zcQ ?_|refine zdm ?_|refine idx2 (by assumption) ?_|refine idx3 (by assumption) ?_);conv=>whnf)
  | (with_reducible first|refine zca ?_|refine zcH ?_|refine zd4 ?_|refine zcY ?_|refine zbL (λ R hR=>?_)|refine zbK ?_|refine zbz ?_|refine zh5 ?_|refine zbY ?_|refine zbN ?_|refine zcS ?_|refine zcq ?_|refine zrV ?_|refine zrU ?_)
  | ((with_reducible refine zdF ?hx (λ R L hL hR=>?_));(case hx=>exact rfl))
  | ((with_reducible replace hF:=isE hF);(dsimp only[zhu,znW,zhw,zjD,zqQ,zhv,zlv,zhy,zhz,zqS,zqU,zlw,zlx,zmW,zt0,zq1,zhF,zhG,zn0,zq7,zhH,zlI,zjQ,zrd,zlM,zjR,zrf,zm2,zt6,zlN,zrg,zjS,zt8,zrh] at hF);first|rewrite[zfA] at hF|rewrite[znV] at hF|rewrite[zfB] at hF|rewrite[zhx] at hF|rewrite[zqP] at hF|rewrite[zfC] at hF|rewrite[zfD] at hF|rewrite[zqR] at hF|rewrite[zqT] at hF|rewrite[zlA] at hF|rewrite[ztZ] at hF|rewrite[zfE] at hF|rewrite[zfF] at hF|rewrite[znZ] at hF|rewrite[zq6] at hF|rewrite[zhN] at hF|rewrite[zrc] at hF|rewrite[zhO] at hF|rewrite[zre] at hF|rewrite[zlO] at hF|rewrite[zt5] at hF|rewrite[zhP] at hF|rewrite[zt7] at hF)
  | ((with_reducible refine zeX ?_);first|((with_reducible replace hF:=toLp 0 2 hF);exact Lp.backI hF () ⟨_,rfl,rfl,rfl,rfl⟩ rfl)|((with_reducible replace hF:=toLp 0 4 hF);exact Lp.backI hF () ⟨_,rfl,rfl,rfl,rfl⟩ rfl)|((with_reducible replace hF:=toLp 1 2 hF);exact Lp.backI hF (_,()) ⟨_,rfl,rfl,rfl,rfl⟩ (pr2 (by first|exact rfl|assumption|omega|(simp only[List.length_set];done)) rfl))|((with_reducible replace hF:=toLp 1 3 hF);exact Lp.backI hF (_,()) ⟨_,rfl,rfl,rfl,rfl⟩ (pr2 (by first|exact rfl|assumption|omega|(simp only[List.length_set];done)) rfl))|((with_reducible replace hF:=toLp 3 2 hF);exact Lp.backI hF (_,_,_) ⟨_,rfl,rfl,rfl,rfl⟩ (pr2 (by first|exact rfl|assumption|omega|(simp only[List.length_set];done)) (pr2 (by first|exact rfl|assumption|omega|(simp only[List.length_set];done)) (by first|exact rfl|assumption|omega|(simp only[List.length_set];done))))))
  | ((with_reducible refine zcK ?_);first|((with_reducible replace hF:=toLp 0 1 hF);exact Lp.headI hF () ⟨_,rfl,rfl,rfl,rfl⟩ rfl)|((with_reducible replace hF:=toLp 1 1 hF);exact Lp.headI hF (_,()) ⟨_,rfl,rfl,rfl,rfl⟩ (pr2 (by first|exact rfl|assumption|omega|(simp only[List.length_set];done)) rfl))|((with_reducible replace hF:=toLp 1 2 hF);exact Lp.headI hF (_,()) ⟨_,rfl,rfl,rfl,rfl⟩ (pr2 (by first|exact rfl|assumption|omega|(simp only[List.length_set];done)) rfl))|((with_reducible replace hF:=toLp 2 1 hF);exact Lp.headI hF (_,_) ⟨_,rfl,rfl,rfl,rfl⟩ (pr2 (by first|exact rfl|assumption|omega|(simp only[List.length_set];done)) (by first|exact rfl|assumption|omega|(simp only[List.length_set];done)))))
  | ((with_reducible refine zeW ?_);first|((with_reducible replace hF:=toLp 0 2 hF);((refine Lp.loopI hF () rfl ⟨_,rfl,rfl,rfl,rfl⟩ rfl (λ _=>rfl) ?_);clear hF);(rintro n ⟨_,_⟩ hF))|((with_reducible replace hF:=toLp 0 4 hF);((refine Lp.loopI hF () rfl ⟨_,rfl,rfl,rfl,rfl⟩ rfl (λ _=>rfl) ?_);clear hF);(rintro n ⟨_,_,_,_⟩ hF))|((with_reducible replace hF:=toLp 1 2 hF);((refine Lp.loopI hF (_,()) rfl ⟨_,rfl,rfl,rfl,rfl⟩ (pr2 (by first|exact rfl|assumption|omega|(simp only[List.length_set];done)) rfl) (λ _=>rfl) ?_);clear hF);(rintro n ⟨_,_⟩ hF))|((with_reducible replace hF:=toLp 1 3 hF);((refine Lp.loopI hF (_,()) rfl ⟨_,rfl,rfl,rfl,rfl⟩ (pr2 (by first|exact rfl|assumption|omega|(simp only[List.length_set];done)) rfl) (λ _=>rfl) ?_);clear hF);(rintro n ⟨_,_,_⟩ hF))|((with_reducible replace hF:=toLp 3 2 hF);((refine Lp.loopI hF (_,_,_) rfl ⟨_,rfl,rfl,rfl,rfl⟩ (pr2 (by first|exact rfl|assumption|omega|(simp only[List.length_set];done)) (pr2 (by first|exact rfl|assumption|omega|(simp only[List.length_set];done)) (by first|exact rfl|assumption|omega|(simp only[List.length_set];done)))) (λ _=>rfl) ?_);clear hF);(rintro n ⟨_,_⟩ hF)))
  | ((with_reducible refine zc6 ?_);first|((with_reducible replace hF:=zeA 1 hF);((refine Lp.cutI hF rfl rfl ?_ ?_) <;> clear hF);(intro hF);rotate_left;(rintro _ hF);rotate_right)|((with_reducible replace hF:=zeA 2 hF);((refine Lp.cutI hF rfl rfl ?_ ?_) <;> clear hF);(intro hF);rotate_left;(rintro⟨_,_⟩ hF);rotate_right))
  | ((with_reducible refine zcJ [] ?hx ?_);(case hx=>exact rfl))
  | with_reducible refine zhm ?_
  | ((with_reducible have hJ:=isB hF);clear hJ;revert hF;(with_reducible first|refine G117.lend ?hx ?_|refine G148.lend ?hx ?_|refine G116.lend ?hx ?_|refine G118.lend ?hx ?_|refine G83.step ?hx ?_|refine G84.step ?hx ?_|refine G30.lend ?hx ?_|refine G57.lend ?hx ?_);(case hx=>exact rfl);intro v hF;conv=>whnf)
  | (revert hF;(refine zuO (d:=iN) ?hz ?_);(case hz=>exact rfl);intro x hF;conv=>whnf)
  | (revert hF;(refine zsC (d:=iN) ?_);intro x hF;conv=>whnf)
  | ((with_reducible refine Or.inr ?_);(conv=>whnf);(with_reducible refine ztP (.bool false) ?hg ?_);(case hg=>exact rfl);(with_reducible refine ziD (List.map bN (List.replicate 10 false)) ?hx ?_);(case hx=>(unfold zkf;kernel_rfl));conv=>whnf)
  | (revert hF;(refine zuP (d:=iN) ?hz ?_);(case hz=>exact rfl);intro x hF;conv=>whnf)
  | (cases hF;(refine Or.inl ?_);(conv=>whnf);exact⟨rfl,rfl,rfl⟩)
  | ((refine zqn (d:=iN) (by assumption) ?_);conv=>whnf)
  | ((with_reducible refine zqp hF ?_);(clear hF;intro hF;conv=>whnf))
  | ((with_reducible have hI:=zqI hF);clear hI;revert hF;(refine zk0 ?_);intro x hF;conv=>whnf)
  | ((with_reducible have hG:=zfu hF);clear hF;(refine zuQ (d:=iN) hG ?hn ?ho (λ q hl hF=>?_));(case hn=>first|exact rfl|assumption|omega);(case ho=>(rintro p h;first|cases h;done|(cases h;rfl)));clear hG;conv=>whnf)
  | ((with_reducible have hG:=znC hF);clear hF;(first|(refine zqq hG (by(try simp only[W]);omega) (λ x hF=>?_))|(refine zqr hG (λ _=>rfl) (by(try simp only[W]);omega) (λ x hF=>?_)));clear hG;conv=>whnf)
  | ((with_reducible have hI:=zuY hF);clear hI;revert hF;(refine zql ?_);intro x hF;conv=>whnf)
  | ((refine zsD (e:=zbi) (d:=iN) (λ _=>rfl) ?hn ?_);(case hn=>first|exact rfl|assumption|omega);conv=>whnf)
  | ((with_reducible have hG:=zk3 hF);clear hF;(first|(refine znD hG (by(try simp only[W]);omega) rfl rfl (λ q hF=>?_))|(refine znE hG (λ _=>rfl) (by(try simp only[W]);omega) rfl rfl (λ q hF=>?_)));clear hG;conv=>whnf)
  | ((with_reducible have hI:=zqG hF);clear hI;revert hF;(refine zk1 ?_);intro x hF;conv=>whnf)
  | (revert hF;(refine zkZ ?_);intro x hF;conv=>whnf)
  | ((with_reducible have hI:=zqH hF);clear hI;revert hF;(refine zmM ?_);intro x hF;conv=>whnf)
  | ((with_reducible have hI:=ztS hF);clear hI;revert hF;(refine zsO ?hn ?_);(case hn=>first|exact rfl|omega);intro hF;conv=>whnf)
  | ((with_reducible have hI:=zuX hF);clear hI;revert hF;(first|refine zqE (λ _ h=>h) ?_|refine zo3 ?_);intro x hF;conv=>whnf)
  | ((with_reducible have hI:=ztS hF);clear hI;revert hF;(refine zsN ?hn ?_);(case hn=>first|exact rfl|assumption|omega);intro hF;conv=>whnf)
  | ((with_reducible first|refine zeI ?hx ?_|refine zdG ?hx ?_|refine zgw ?hx ?_|refine zfj ?hx ?_|refine zcB ?hx ?_|refine zdg ?hx ?_);(case hx=>exact rfl))
  | (revert hF;(with_reducible refine idx1 ?hn ?_);(case hn=>first|exact rfl|exact(List.length_map _)|assumption|omega|simp);intro x hx hF;conv=>whnf)
  | ((with_reducible refine zfx ?_);(first|((first|refine zeY rfl ?hy (λ Q q0 q1 q2=>?_)|refine zdU rfl ?hy (λ Q q0 q1 q2=>?_));(case hy=>first|assumption|exact notT (by assumption)|exact rfl);conv=>whnf)|((first|refine zdT rfl ?hy ?_|refine zc8 rfl ?hy ?_);(case hy=>first|assumption|exact notF (by assumption)|exact rfl))|(revert hF;(with_reducible first|refine zeZ ?hx ?_ ?_|refine zdV ?hx ?_ ?_);(case hx=>exact rfl);(intro hc hF Q q0 q1 q2;conv=>whnf);rotate_left;(intro hc hF);rotate_right)|(revert hF;(with_reducible first|refine ze0 ?hx ?_ ?_|refine zdW ?hx ?_ ?_);(case hx=>exact rfl);(intro hc hF);rotate_left;(intro hc hF Q q0 q1 q2;conv=>whnf);rotate_right)))
  | ((with_reducible have hG:=zqi hF);clear hF;(refine Or.inl (Or.inl ?_));(conv=>whnf);(refine zmL hG ?hn (λ q hF=>?_);(case hn=>first|exact rfl|assumption|omega));clear hG;conv=>whnf)
  | ((with_reducible have hG:=zdn hF);clear hF;(first|((refine zdR hG ?hn ?hs (λ q hF=>?_));(case hn=>first|exact rfl|assumption|omega);(case hs=>exact rfl))|((refine zdQ (d:=strN) hG ?hs (λ q hF=>?_));(case hs=>exact rfl))|((refine zdS (d:=strN) hG ?ho ?hn ?hs (λ q hF=>?_));(case ho=>exact rfl);(case hn=>exact rfl);(case hs=>exact rfl)));clear hG;conv=>whnf)
  | ((with_reducible have hG:=zdn hF);clear hF;(first|((refine zdR hG ?hn ?hs (λ q hF=>?_));(case hn=>first|exact rfl|assumption|omega);(case hs=>exact rfl))|((refine zdQ (d:=u8N) hG ?hs (λ q hF=>?_));(case hs=>exact rfl))|((refine zdS (d:=u8N) hG ?ho ?hn ?hs (λ q hF=>?_));(case ho=>exact rfl);(case hn=>exact rfl);(case hs=>exact rfl)));clear hG;conv=>whnf)
  | ((with_reducible have hG:=zdn hF);clear hF;(first|((refine zdR hG ?hn ?hs (λ q hF=>?_));(case hn=>first|exact rfl|assumption|omega);(case hs=>exact rfl))|((refine zdQ (d:=iN) hG ?hs (λ q hF=>?_));(case hs=>exact rfl))|((refine zdS (d:=iN) hG ?ho ?hn ?hs (λ q hF=>?_));(case ho=>exact rfl);(case hn=>exact rfl);(case hs=>exact rfl)));clear hG;conv=>whnf)
  | ((refine zeV ?hn ?_);(case hn=>first|exact rfl|(simp;done)|(simp;omega));conv=>whnf)
  | ((with_reducible refine zhj ?hn ?_);(case hn=>first|exact rfl|assumption|omega);conv=>whnf)
  | ((with_reducible have hG:=zfu hF);clear hF;(refine zhh hG ?hs (λ q hl hF=>?_));(case hs=>exact rfl);clear hG;conv=>whnf)
  | ((refine⟨?hx, ?_⟩);(case hx=>exact⟨rfl,Nat.le_of_ble_eq_true rfl,rfl⟩);conv=>whnf)
  | ((with_reducible refine zeT ?_);conv=>whnf)
  | ((with_reducible have hG:=znF hF);clear hF;(refine⟨?hx, ?_⟩);(case hx=>(first|exact of_decide_eq_true hG.1|exact hG.1));have hF:=hG.2;clear hG;conv=>whnf)
  | ((with_reducible refine zhk ?hx ?_);(case hx=>first|exact rfl|assumption|exact notT (by assumption));conv=>whnf)
  | ((with_reducible refine zgl ?hx ?_);(case hx=>first|exact rfl|assumption|exact notF (by assumption));conv=>whnf)
  | (revert hF;(with_reducible refine zbe ?_ ?_) <;> (intro hc hF;conv=>whnf))
  | ((refine zax 901 902000000 rfl rfl (Nat.le_of_ble_eq_true rfl) rfl (λ R hR=>?_));(conv=>whnf);(with_reducible refine hR _ ?ha ?_);(case ha=>exact rfl);clear R hR)
  | ((refine zax 1203 1204000000 rfl rfl (Nat.le_of_ble_eq_true rfl) rfl (λ R hR=>?_));(conv=>whnf);(with_reducible refine hR _ ?ha ?_);(case ha=>exact rfl);clear R hR)
  | ((refine zax 1101 1102000000 rfl rfl (Nat.le_of_ble_eq_true rfl) rfl (λ R hR=>?_));(conv=>whnf);(with_reducible refine hR _ ?ha ?_);(case ha=>exact rfl);clear R hR)
  | ((refine zax 1400 1401000000 rfl rfl (Nat.le_of_ble_eq_true rfl) rfl (λ R hR=>?_));(conv=>whnf);(with_reducible refine hR _ ?ha ?_);(case ha=>exact rfl);clear R hR)
  | ((refine zax 1408 1409000000 rfl rfl (Nat.le_of_ble_eq_true rfl) rfl (λ R hR=>?_));(conv=>whnf);(with_reducible refine hR _ ?ha ?_);(case ha=>exact rfl);clear R hR)
  | ((refine zax 1806 1807000000 rfl rfl (Nat.le_of_ble_eq_true rfl) rfl (λ R hR=>?_));(conv=>whnf);(with_reducible refine hR _ ?ha ?_);(case ha=>exact rfl);clear R hR)
  | ((refine zax 2000 2001000000 rfl rfl (Nat.le_of_ble_eq_true rfl) rfl (λ R hR=>?_));(conv=>whnf);(with_reducible refine hR _ ?ha ?_);(case ha=>exact rfl);clear R hR)
  | (show Kinl _ _ _ _ _ _ _;conv=>whnf)
  | ((with_reducible refine zc7 ?ha ?hb ?_);(case ha=>exact rfl);(case hb=>exact rfl);conv=>whnf)
  | ((refine⟨?hx,trivial⟩);(case hx=>(cases hF;exact rfl)))
  | ((refine⟨?hx, ?_⟩);(case hx=>decide);conv=>whnf)
  | with_reducible refine zfO ?_
  | (have hF:(none:Option _)=some _:=hF;cases hF))):P:=h
set_option maxRecDepth 20000 in
theorem wk3 {P:Prop}(h:P:=by repeat' (first
  | ((with_reducible first|refine q0 _ _ ?_|refine q1 _ _ _ _ ?_|refine q2 _ _ _ ?_);clear Q q0 q1 q2)
  | ((with_reducible first|refine zd5 ?hx (λ Q q0 q1 q2=>?_));(case hx=>exact rfl);conv=>whnf)
  | ((with_reducible refine zcI ?_);(first|((with_reducible refine hR _ ?_);clear R hR)|((with_reducible refine hL _ ?_);clear L hL)))
  | (with_reducible first|refine zcH ?_|refine zd4 ?_|refine zbL (λ R hR=>?_)|refine zbK ?_)
  | ((with_reducible refine zcJ [] ?hx ?_);(case hx=>exact rfl))
  | with_reducible refine zhm ?_
  | ((with_reducible have hJ:=isB hF);clear hJ;revert hF;(with_reducible first|refine G88.lend ?hx ?_|refine G61.lend ?hx ?_|refine G119.step ?hx ?_);(case hx=>exact rfl);intro v hF;conv=>whnf)
  | ((refine zeV ?hn ?_);(case hn=>first|exact rfl|(simp;done)|(simp;omega));conv=>whnf)
  | ((refine⟨?hx,trivial⟩);(case hx=>(cases hF;exact rfl)))
  | with_reducible refine zfO ?_)):P:=h
set_option maxRecDepth 20000 in
theorem wk4 {P:Prop}(h:P:=by repeat' (first
  | ((with_reducible first|refine q0 _ _ ?_|refine q1 _ _ _ _ ?_|refine q2 _ _ _ ?_);clear Q q0 q1 q2)
  | ((with_reducible first|refine zd5 ?hx (λ Q q0 q1 q2=>?_)|refine zdH ?hx (λ Q q0 q1 q2=>?_)|refine ze ?hx (λ Q q0 q1 q2=>?_)|refine zfi ?hx (λ Q q0 q1 q2=>?_));(case hx=>exact rfl);conv=>whnf)
  | ((with_reducible refine zdu ?_);(first|((refine zeD rfl ?hy ?_);(case hy=>first|assumption|exact notT (by assumption)|exact rfl))|((refine zeE rfl ?hy ?_);(case hy=>first|assumption|exact notF (by assumption)|exact rfl))|(revert hF;(with_reducible refine zih ?hx ?_ ?_);(case hx=>exact rfl);all_goals (intro hc hF))))
  | ((with_reducible refine zcI ?_);(first|((with_reducible refine hR _ ?_);clear R hR)|((with_reducible refine hL _ ?_);clear L hL)))
  | ((with_reducible refine zcJ [] ?hx ?_);(case hx=>exact rfl))
  | with_reducible refine zhm ?_
  | ((with_reducible refine zcN ?_);(with_reducible refine hR _ _ ?hx ?_);(case hx=>kernel_rfl);clear R hR)
  | (with_reducible first|refine zcH ?_|refine zd4 ?_|refine zbL (λ R hR=>?_)|refine zbK ?_|refine zca ?_|refine zcY ?_|refine zbz ?_|refine zh5 ?_|refine zbY ?_|refine zbN ?_)
  | ((with_reducible refine zdF ?hx (λ R L hL hR=>?_));(case hx=>exact rfl))
  | ((with_reducible have hJ:=isB hF);clear hJ;revert hF;(first|refine G51.step rfl rfl rfl rfl rfl rfl rfl (by first|exact rfl|assumption|omega|(simp only[List.length_set];done)) (by first|exact trivial|exact rfl) ?hn ?_);(case hn=>exact rfl);intro v hF;(obtain⟨v,ve⟩:=v);(try dsimp only at hF);(conv=>whnf))
  | ((with_reducible have hJ:=isB hF);clear hJ;revert hF;(first|refine G197.step rfl rfl rfl rfl rfl  (by first|exact trivial|exact rfl) ?hn ?_|refine G199.step rfl rfl rfl rfl rfl  (by first|exact trivial|exact rfl) ?hn ?_|refine G201.step rfl rfl rfl rfl rfl  (by first|exact trivial|exact rfl) ?hn ?_|refine G203.step rfl rfl rfl rfl rfl  (by first|exact trivial|exact rfl) ?hn ?_|refine G205.step rfl rfl rfl rfl rfl  (by first|exact trivial|exact rfl) ?hn ?_|refine G207.step rfl rfl rfl rfl rfl  (by first|exact trivial|exact rfl) ?hn ?_|refine G209.step rfl rfl rfl rfl rfl  (by first|exact trivial|exact rfl) ?hn ?_|refine G211.step rfl rfl rfl rfl rfl  (by first|exact trivial|exact rfl) ?hn ?_|refine G214.step rfl rfl rfl rfl rfl  (by first|exact trivial|exact rfl) ?hn ?_);(case hn=>exact rfl);intro v hF;conv=>whnf)
  | (cases hF;(refine Or.inl ?_);(conv=>whnf);exact⟨rfl,rfl,rfl⟩)
  | ((with_reducible have hG:=zho hF);clear hF;(refine zhp (eM:=StoneM.m) hG zbf ?hk ?hd ?he [.d default, .p 0 none, .d default] rfl ?_);(case hk=>exact λ _=>rfl);(case hd=>exact rfl);(case he=>exact rfl);(conv=>whnf);(refine⟨⟨rfl,rfl,(by decide)⟩, ?_⟩);(refine zmO hG rfl rfl rfl (λ q hq hF=>?_));clear hG;conv=>whnf)
  | ((with_reducible have hG:=zho hF);clear hF;(refine zhp (eM:=EditionM.m) hG zbf ?hk ?hd ?he [.d default, .d default, .r 3 1 [], .d default, .d default, .d default, .d default, .m [], .d default] rfl ?_);(case hk=>exact λ _=>rfl);(case hd=>exact rfl);(case he=>exact rfl);(conv=>whnf);(refine⟨⟨rfl,rfl,(by decide)⟩, ?_⟩);(refine zmO hG rfl rfl rfl (λ q hq hF=>?_));clear hG;conv=>whnf)
  | ((refine zeV ?hn ?_);(case hn=>first|exact rfl|(simp;done)|(simp;omega));conv=>whnf)
  | with_reducible refine zfO ?_
  | (have hF:(none:Option _)=some _:=hF;cases hF)
  | (revert hF;(refine I97.on_step ?_ ?_ ?_ ?_ ?_ ?_ ?_ ?_ ?_ ?_) <;> ((intros);(rename_i hx hF);(first|(cases hx;done)|(subst hx;(conv=>whnf))|(cases hx;(conv=>whnf))|(simp only[hx];(conv=>whnf)))))
  | ((with_reducible have hG:=zdn hF);clear hF;(first|((refine zdR hG ?hn ?hs (λ q hF=>?_));(case hn=>first|exact rfl|assumption|omega);(case hs=>exact rfl))|((refine zdQ (d:=strN) hG ?hs (λ q hF=>?_));(case hs=>exact rfl))|((refine zdS (d:=strN) hG ?ho ?hn ?hs (λ q hF=>?_));(case ho=>exact rfl);(case hn=>exact rfl);(case hs=>exact rfl)));clear hG;conv=>whnf)
  | ((refine I97.fp (K:=λ x=>Q ⟨x,[]⟩ _) ?_);conv=>whnf)
  | ((refine I97.fp (K:=λ x=>mvPg x _ _ _ _) ?_);conv=>whnf))):P:=h
set_option maxRecDepth 20000 in
theorem wk5 {P:Prop}(h:P:=by repeat' (first
  | ((with_reducible first|refine q0 _ _ ?_|refine q1 _ _ _ _ ?_|refine q2 _ _ _ ?_);clear Q q0 q1 q2)
  | ((with_reducible first|refine zd5 ?hx (λ Q q0 q1 q2=>?_)|refine zdH ?hx (λ Q q0 q1 q2=>?_));(case hx=>exact rfl);conv=>whnf)
  | ((with_reducible refine zcN ?_);(with_reducible refine hR _ _ ?hx ?_);(case hx=>kernel_rfl);clear R hR)
  | ((with_reducible first|refine zcQ ?_|refine idx2 (by assumption) ?_|refine idx3 (by assumption) ?_);conv=>whnf)
  | ((with_reducible refine zcJ [] ?hx ?_);(case hx=>exact rfl))
  | with_reducible refine zhm ?_
  | (with_reducible first|refine zca ?_|refine zcH ?_|refine zd4 ?_|refine zcY ?_|refine zbL (λ R hR=>?_)|refine zbK ?_|refine zbz ?_|refine zh5 ?_|refine zbY ?_|refine zbN ?_)
  | ((with_reducible refine zdF ?hx (λ R L hL hR=>?_));(case hx=>exact rfl))
  | ((with_reducible have hJ:=isB hF);clear hJ;revert hF;(with_reducible first|refine G64.lend ?hx ?_|refine G132.lend ?hx ?_|refine G158.lend ?hx ?_|refine G146.lend ?hx ?_|refine G147.lend ?hx ?_);(case hx=>exact rfl);intro v hF;conv=>whnf)
  | (cases hF;(refine Or.inl ?_);(conv=>whnf);exact⟨rfl,rfl,rfl⟩)
  | ((with_reducible have hJ:=zv0 hF);clear hJ;revert hF;(refine zqm ?_);intro x hF;conv=>whnf)
  | ((with_reducible have hJ:=isO hF);clear hJ;revert hF;(refine zdC (eK:=strN) (eM:=StoneM.m) zbf ?hk ?hd ?he ?_ ?_);(case hk=>exact λ _=>rfl);(case hd=>exact rfl);(case he=>exact rfl);(intro hl hF;conv=>whnf);rotate_left;(intro i hl hF;conv=>whnf);rotate_right)
  | ((with_reducible have hJ:=isSm hF);clear hJ;revert hF;(refine zfv (eK:=strN) (eV:=bN) zbf ?hk ?hz ?hd ?he ?_);(case hk=>exact λ _=>rfl);(case hz=>exact rfl);(case hd=>exact rfl);(case he=>exact rfl);intro x hF;conv=>whnf)
  | ((with_reducible have hJ:=isO hF);clear hJ;revert hF;(refine zdC (eK:=strN) (eM:=EditionM.m) zbf ?hk ?hd ?he ?_ ?_);(case hk=>exact λ _=>rfl);(case hd=>exact rfl);(case he=>exact rfl);(intro hl hF;conv=>whnf);rotate_left;(intro i hl hF;conv=>whnf);rotate_right)
  | ((with_reducible have hG:=zdD hF);clear hF;(obtain⟨⟨x,hx,hF⟩⟩:=hG);first|((with_reducible refine isMc ?_);(refine ze2 rfl hx (by exact rfl) ?_);conv=>whnf)|skip)
  | ((with_reducible refine isMc ?_);(refine ze2 rfl (by assumption) (by exact rfl) ?_);conv=>whnf)
  | ((with_reducible refine Or.inr ?_);(conv=>whnf);(with_reducible refine isTk ?_);(refine zjz (by first|exact zaj|exact za1 (by decide) zaj) ?_);conv=>whnf)
  | ((with_reducible have hJ:=isO hF);clear hJ;revert hF;(refine zhn ?_ ?_);(intro ho hF;conv=>whnf);rotate_left;(intro j ho hF;conv=>whnf);rotate_right)
  | ((with_reducible refine isOP ?_);(refine znN (by assumption) ?_);conv=>whnf)
  | ((with_reducible refine isLd ?_);(refine zf0 rfl (by assumption) (λ key=>?_));conv=>whnf)
  | ((with_reducible have hJ:=zv0 hF);clear hJ;revert hF;(refine zqB rfl ?_);intro x hF;conv=>whnf)
  | ((with_reducible first|refine zeI ?hx ?_|refine zdG ?hx ?_|refine zgw ?hx ?_|refine zfj ?hx ?_|refine zcB ?hx ?_|refine zdg ?hx ?_);(case hx=>exact rfl))
  | (revert hF;(with_reducible refine idx1 ?hn ?_);(case hn=>first|exact rfl|exact(List.length_map _)|assumption|omega|simp);intro x hx hF;conv=>whnf)
  | ((with_reducible refine zfx ?_);(first|((first|refine zeY rfl ?hy (λ Q q0 q1 q2=>?_)|refine zdU rfl ?hy (λ Q q0 q1 q2=>?_));(case hy=>first|assumption|exact notT (by assumption)|exact rfl);conv=>whnf)|((first|refine zdT rfl ?hy ?_|refine zc8 rfl ?hy ?_);(case hy=>first|assumption|exact notF (by assumption)|exact rfl))|(revert hF;(with_reducible first|refine zeZ ?hx ?_ ?_|refine zdV ?hx ?_ ?_);(case hx=>exact rfl);(intro hc hF Q q0 q1 q2;conv=>whnf);rotate_left;(intro hc hF);rotate_right)|(revert hF;(with_reducible first|refine ze0 ?hx ?_ ?_|refine zdW ?hx ?_ ?_);(case hx=>exact rfl);(intro hc hF);rotate_left;(intro hc hF Q q0 q1 q2;conv=>whnf);rotate_right)))
  | ((with_reducible refine zqu ?_);(first|((first|refine znG rfl ?hy (λ Q q0 q1 q2=>?_)|refine zk5 rfl ?hy (λ Q q0 q1 q2=>?_));(case hy=>first|assumption|exact notT (by assumption)|exact rfl);conv=>whnf)|((first|refine zk4 rfl ?hy ?_|refine ziF rfl ?hy ?_);(case hy=>first|assumption|exact notF (by assumption)|exact rfl))|(revert hF;(with_reducible first|refine znH ?hx ?_ ?_|refine zk6 ?hx ?_ ?_);(case hx=>exact rfl);(intro hc hF Q q0 q1 q2;conv=>whnf);rotate_left;(intro hc hF);rotate_right)|(revert hF;(with_reducible first|refine znI ?hx ?_ ?_|refine zk7 ?hx ?_ ?_);(case hx=>exact rfl);(intro hc hF);rotate_left;(intro hc hF Q q0 q1 q2;conv=>whnf);rotate_right)))
  | ((with_reducible refine zdu ?_);(first|((refine zeD rfl ?hy ?_);(case hy=>first|assumption|exact notT (by assumption)|exact rfl))|((refine zeE rfl ?hy ?_);(case hy=>first|assumption|exact notF (by assumption)|exact rfl))|(revert hF;(with_reducible refine zih ?hx ?_ ?_);(case hx=>exact rfl);all_goals (intro hc hF))))
  | ((with_reducible refine zhj ?hn ?_);(case hn=>first|exact rfl|assumption|omega);conv=>whnf)
  | ((with_reducible refine zaW ?_);(with_reducible refine zaW ?_);(with_reducible have hG:=zcC hF);(refine gZ 2 1611 rfl ?_);(refine zed 2 1611 rfl rfl rfl (by first|exact zaj|exact za1 (by decide) zaj) (by assumption) (by exact rfl) ?_);(have hF:=hG);clear hG;dsimp only[St.settledF];(first|((with_reducible refine hR _ ?_);clear R hR)|((with_reducible refine hL _ ?_);clear L hL)))
  | ((with_reducible refine zaW ?_);(with_reducible refine zaW ?_);(with_reducible have hG:=zcC hF);(refine gZ 2 1603 rfl ?_);(refine zed 2 1603 rfl rfl rfl (by first|exact zaj|exact za1 (by decide) zaj) (by assumption) (by exact rfl) ?_);(have hF:=hG);clear hG;dsimp only[St.settledF];(first|((with_reducible refine hR _ ?_);clear R hR)|((with_reducible refine hL _ ?_);clear L hL)))
  | ((with_reducible refine zcI ?_);(first|((with_reducible refine hR _ ?_);clear R hR)|((with_reducible refine hL _ ?_);clear L hL)))
  | ((with_reducible refine zeT ?_);conv=>whnf)
  | ((with_reducible refine zhk ?hx ?_);(case hx=>first|exact rfl|assumption|exact notT (by assumption));conv=>whnf)
  | ((with_reducible refine zgl ?hx ?_);(case hx=>first|exact rfl|assumption|exact notF (by assumption));conv=>whnf)
  | ((refine⟨?hx,trivial⟩);(case hx=>(cases hF;exact rfl)))
  | ((refine⟨?hx, ?_⟩);(case hx=>decide);conv=>whnf)
  | with_reducible refine zfO ?_)):P:=h
set_option maxRecDepth 20000 in
theorem wk6 {P:Prop}(h:P:=by repeat' (first
  | ((with_reducible first|refine q0 _ _ ?_|refine q1 _ _ _ _ ?_|refine q2 _ _ _ ?_);clear Q q0 q1 q2)
  | ((with_reducible first|refine zd5 ?hx (λ Q q0 q1 q2=>?_)|refine zdH ?hx (λ Q q0 q1 q2=>?_)|refine ze ?hx (λ Q q0 q1 q2=>?_));(case hx=>exact rfl);conv=>whnf)
  | ((with_reducible refine zfx ?_);(first|((first|refine zeY rfl ?hy (λ Q q0 q1 q2=>?_)|refine zdU rfl ?hy (λ Q q0 q1 q2=>?_));(case hy=>first|assumption|exact notT (by assumption)|exact rfl);conv=>whnf)|((first|refine zdT rfl ?hy ?_|refine zc8 rfl ?hy ?_);(case hy=>first|assumption|exact notF (by assumption)|exact rfl))|(revert hF;(with_reducible first|refine zeZ ?hx ?_ ?_|refine zdV ?hx ?_ ?_);(case hx=>exact rfl);(intro hc hF Q q0 q1 q2;conv=>whnf);rotate_left;(intro hc hF);rotate_right)|(revert hF;(with_reducible first|refine ze0 ?hx ?_ ?_|refine zdW ?hx ?_ ?_);(case hx=>exact rfl);(intro hc hF);rotate_left;(intro hc hF Q q0 q1 q2;conv=>whnf);rotate_right)))
  | ((with_reducible refine zdu ?_);(first|((refine zeD rfl ?hy ?_);(case hy=>first|assumption|exact notT (by assumption)|exact rfl))|((refine zeE rfl ?hy ?_);(case hy=>first|assumption|exact notF (by assumption)|exact rfl))|(revert hF;(with_reducible refine zih ?hx ?_ ?_);(case hx=>exact rfl);all_goals (intro hc hF))))
  | ((with_reducible refine zcI ?_);(first|((with_reducible refine hR _ ?_);clear R hR)|((with_reducible refine hL _ ?_);clear L hL)))
  | ((with_reducible refine zcN ?_);(with_reducible refine hR _ _ ?hx ?_);(case hx=>kernel_rfl);clear R hR)
  | ((with_reducible first|refine zcQ ?_|refine zdm ?_|refine idx2 (by assumption) ?_|refine idx3 (by assumption) ?_);conv=>whnf)
  | (with_reducible first|refine zca ?_|refine zcH ?_|refine zd4 ?_|refine zcY ?_|refine zbL (λ R hR=>?_)|refine zbK ?_|refine zbz ?_|refine zh5 ?_|refine zbY ?_|refine zbN ?_|refine zcS ?_|refine zcq ?_)
  | ((with_reducible refine zdF ?hx (λ R L hL hR=>?_));(case hx=>exact rfl))
  | ((with_reducible replace hF:=isE hF);(dsimp only[zjB,zqN,zjC,zle,zmR,ztU,zqO,zmS,ztV,zll,zdY,zgo,zdb,zjE,zqW,zly,zjF,zqY,zlz,zmV,ztY,zqZ,zmX,zt1,zmY,zmZ,zt2,zlB,zm0,zt3,zlC,zjG,zq5,zlD,zbD,zcf,zbE,zbq,zb1,zch,za8,za4,za9,zbF,zcj,zba] at hF);first|((with_reducible replace hF:=chkE (e:=zf1 ..) hF);rewrite[zf1] at hF)|((with_reducible replace hF:=chkE (e:=ziJ ..) hF);rewrite[ziJ] at hF)|((with_reducible replace hF:=chkE (e:=zf2) hF);rewrite[zf2] at hF)|((with_reducible replace hF:=chkE (e:=ziK) hF);rewrite[ziK] at hF)|((with_reducible replace hF:=chkE (e:=zaX ..) hF);rewrite[zaX] at hF)|((with_reducible replace hF:=chkE (e:=zaY ..) hF);rewrite[zaY] at hF)|((with_reducible replace hF:=chkE (e:=zaP ..) hF);rewrite[zaP] at hF)|((with_reducible replace hF:=chkE (e:=zaZ ..) hF);rewrite[zaZ] at hF)|rewrite[zhs] at hF|rewrite[zqM] at hF|rewrite[ztT] at hF|rewrite[zht] at hF|rewrite[znU] at hF|rewrite[zcE] at hF|rewrite[zgn] at hF|rewrite[zqV] at hF|rewrite[zhA] at hF|rewrite[zqX] at hF|rewrite[ztX] at hF|rewrite[zhB] at hF|rewrite[zq3] at hF|rewrite[zhC] at hF|rewrite[znX] at hF|rewrite[zhD] at hF|rewrite[znY] at hF|rewrite[zhE] at hF|rewrite[zq4] at hF|rewrite[zce] at hF|rewrite[zb0] at hF|rewrite[zcg] at hF|rewrite[zci] at hF)
  | ((with_reducible refine zeX ?_);first|((with_reducible replace hF:=toLp 0 1 hF);exact Lp.backI hF () ⟨_,rfl,rfl,rfl,rfl⟩ rfl)|((with_reducible replace hF:=toLp 0 2 hF);exact Lp.backI hF () ⟨_,rfl,rfl,rfl,rfl⟩ rfl))
  | ((with_reducible refine zcK ?_);first|((with_reducible replace hF:=toLp 0 0 hF);exact Lp.headI hF () ⟨_,rfl,rfl,rfl,rfl⟩ rfl)|((with_reducible replace hF:=toLp 0 1 hF);exact Lp.headI hF () ⟨_,rfl,rfl,rfl,rfl⟩ rfl))
  | ((with_reducible refine zeW ?_);first|((with_reducible replace hF:=toLp 0 1 hF);((refine Lp.loopI hF () rfl ⟨_,rfl,rfl,rfl,rfl⟩ rfl (λ _=>rfl) ?_);clear hF);(rintro n _ hF))|((with_reducible replace hF:=toLp 0 2 hF);((refine Lp.loopI hF () rfl ⟨_,rfl,rfl,rfl,rfl⟩ rfl (λ _=>rfl) ?_);clear hF);(rintro n ⟨_,_⟩ hF)))
  | ((with_reducible refine zc6 ?_);first|((with_reducible replace hF:=zeA 0 hF);((refine Lp.cutI hF rfl rfl ?_ ?_) <;> clear hF);(intro hF);rotate_left;(rintro _ hF);rotate_right)|((with_reducible replace hF:=zeA 1 hF);((refine Lp.cutI hF rfl rfl ?_ ?_) <;> clear hF);(intro hF);rotate_left;(rintro _ hF);rotate_right))
  | ((with_reducible refine zcJ [] ?hx ?_);(case hx=>exact rfl))
  | with_reducible refine zhm ?_
  | ((with_reducible have hI:=zqI hF);clear hI;revert hF;(refine zk0 ?_);intro x hF;conv=>whnf)
  | ((with_reducible have hJ:=isRg hF);clear hJ;(refine znP (eK:=strN) (eV:=iN) hF rfl ?_ ?_);(clear hF;intro i p hx hF;conv=>whnf);rotate_left;(clear hF;intro hF;conv=>whnf);rotate_right)
  | ((with_reducible have hJ:=isB hF);clear hJ;revert hF;(with_reducible first|refine G73.step ?hx ?_|refine G117.lend ?hx ?_|refine G143.step ?hx ?_|refine G145.lend ?hx ?_|refine G116.lend ?hx ?_);(case hx=>exact rfl);intro v hF;conv=>whnf)
  | ((with_reducible refine isEn ?_);(refine ziH (eK:=strN) (eV:=iN) (by assumption) ?_);conv=>whnf)
  | (revert hF;(refine zkZ ?_);intro x hF;conv=>whnf)
  | ((with_reducible first|refine zeI ?hx ?_|refine zdG ?hx ?_|refine zcB ?hx ?_|refine zdg ?hx ?_);(case hx=>exact rfl))
  | (revert hF;(with_reducible refine idx1 ?hn ?_);(case hn=>first|exact rfl|exact(List.length_map _)|assumption|omega|simp);intro x hx hF;conv=>whnf)
  | ((with_reducible have hG:=zjw hF);clear hF;(refine znB hG (λ q hF=>?_));clear hG;conv=>whnf)
  | ((with_reducible refine zeT ?_);conv=>whnf)
  | ((with_reducible have hG:=znF hF);clear hF;(refine⟨?hx, ?_⟩);(case hx=>(first|exact of_decide_eq_true hG.1|exact hG.1));have hF:=hG.2;clear hG;conv=>whnf)
  | ((with_reducible refine zhk ?hx ?_);(case hx=>first|exact rfl|assumption|exact notT (by assumption));conv=>whnf)
  | ((with_reducible refine zgl ?hx ?_);(case hx=>first|exact rfl|assumption|exact notF (by assumption));conv=>whnf)
  | (revert hF;(with_reducible refine zbe ?_ ?_) <;> (intro hc hF;conv=>whnf))
  | ((refine zax 103 104000000 rfl rfl (Nat.le_of_ble_eq_true rfl) rfl (λ R hR=>?_));(conv=>whnf);(with_reducible refine hR _ ?ha ?_);(case ha=>exact rfl);clear R hR)
  | ((refine zax 206 207000000 rfl rfl (Nat.le_of_ble_eq_true rfl) rfl (λ R hR=>?_));(conv=>whnf);(with_reducible refine hR _ ?ha ?_);(case ha=>exact rfl);clear R hR)
  | ((refine zax 602 603000000 rfl rfl (Nat.le_of_ble_eq_true rfl) rfl (λ R hR=>?_));(conv=>whnf);(with_reducible refine hR _ ?ha ?_);(case ha=>exact rfl);clear R hR)
  | ((refine zax 104000403 104000404000000 rfl rfl (Nat.le_of_ble_eq_true rfl) rfl (λ R hR=>?_));(conv=>whnf);(with_reducible refine hR _ ?ha ?_);(case ha=>exact rfl);clear R hR)
  | ((refine zax 403 404000000 rfl rfl (Nat.le_of_ble_eq_true rfl) rfl (λ R hR=>?_));(conv=>whnf);(with_reducible refine hR _ ?ha ?_);(case ha=>exact rfl);clear R hR)
  | ((refine zax 603000102 603000103000000 rfl rfl (Nat.le_of_ble_eq_true rfl) rfl (λ R hR=>?_));(conv=>whnf);(with_reducible refine hR _ ?ha ?_);(case ha=>exact rfl);clear R hR)
  | ((refine zax 207000102 207000103000000 rfl rfl (Nat.le_of_ble_eq_true rfl) rfl (λ R hR=>?_));(conv=>whnf);(with_reducible refine hR _ ?ha ?_);(case ha=>exact rfl);clear R hR)
  | ((refine zax 603000103000405 603000103000406000000 rfl rfl (Nat.le_of_ble_eq_true rfl) rfl (λ R hR=>?_));(conv=>whnf);(with_reducible refine hR _ ?ha ?_);(case ha=>exact rfl);clear R hR)
  | ((refine zax 404000102 404000103000000 rfl rfl (Nat.le_of_ble_eq_true rfl) rfl (λ R hR=>?_));(conv=>whnf);(with_reducible refine hR _ ?ha ?_);(case ha=>exact rfl);clear R hR)
  | ((refine zax 207000103000405 207000103000406000000 rfl rfl (Nat.le_of_ble_eq_true rfl) rfl (λ R hR=>?_));(conv=>whnf);(with_reducible refine hR _ ?ha ?_);(case ha=>exact rfl);clear R hR)
  | ((refine zax 404000103000405 404000103000406000000 rfl rfl (Nat.le_of_ble_eq_true rfl) rfl (λ R hR=>?_));(conv=>whnf);(with_reducible refine hR _ ?ha ?_);(case ha=>exact rfl);clear R hR)
  | (show Kinl _ _ _ _ _ _ _;conv=>whnf)
  | ((with_reducible refine zc7 ?ha ?hb ?_);(case ha=>exact rfl);(case hb=>exact rfl);conv=>whnf)
  | ((refine⟨?hx,trivial⟩);(case hx=>(cases hF;exact rfl)))
  | with_reducible refine zfO ?_)):P:=h
set_option maxRecDepth 20000 in
theorem wk7 {P:Prop}(h:P:=by repeat' (first
  | ((with_reducible first|refine q0 _ _ ?_|refine q1 _ _ _ _ ?_|refine q2 _ _ _ ?_);clear Q q0 q1 q2)
  | ((with_reducible first|refine zd5 ?hx (λ Q q0 q1 q2=>?_)|refine zdH ?hx (λ Q q0 q1 q2=>?_)|refine ze ?hx (λ Q q0 q1 q2=>?_)|refine zfi ?hx (λ Q q0 q1 q2=>?_));(case hx=>exact rfl);conv=>whnf)
  | ((with_reducible refine zaW ?_);(with_reducible refine zaW ?_);(with_reducible have hG:=zcC hF);(refine gZ 2 1206 rfl ?_);(refine zed 2 1206 rfl rfl rfl (by first|exact zaj|exact za1 (by decide) zaj) (by assumption) (by exact rfl) ?_);(have hF:=hG);clear hG;dsimp only[St.settledF];(first|((with_reducible refine hR _ ?_);clear R hR)|((with_reducible refine hL _ ?_);clear L hL)))
  | ((with_reducible refine zaW ?_);(with_reducible refine zaW ?_);(with_reducible have hJ:=ze1 hF);clear hJ;(refine gZ 2 1303 rfl ?_);(refine zdo 2 1303 hF rfl rfl rfl (by first|exact zaj|exact za1 (by decide) zaj) (by assumption) (by exact rfl) (by first|exact rfl|assumption|(symm;assumption)|omega) (by exact rfl) (λ q hq hF1=>?_));clear hF;(have hF:=hF1);clear hF1;dsimp only[St.settledF];(first|((with_reducible refine hR _ ?_);clear R hR)|((with_reducible refine hL _ ?_);clear L hL)))
  | ((with_reducible refine zcJ [] ?hx ?_);(case hx=>exact rfl))
  | with_reducible refine zhm ?_
  | ((with_reducible refine zaW ?_);(with_reducible refine zaW ?_);(with_reducible have hJ:=ze1 hF);clear hJ;(refine gZ 2 1206 rfl ?_);(refine zdo 2 1206 hF rfl rfl rfl (by first|exact zaj|exact za1 (by decide) zaj) (by assumption) (by exact rfl) (by first|exact rfl|assumption|(symm;assumption)|omega) (by exact rfl) (λ q hq hF1=>?_));clear hF;(have hF:=hF1);clear hF1;dsimp only[St.settledF];(first|((with_reducible refine hR _ ?_);clear R hR)|((with_reducible refine hL _ ?_);clear L hL)))
  | ((with_reducible refine zaW ?_);(with_reducible refine zaW ?_);(with_reducible have hJ:=ze1 hF);clear hJ;(refine gZ 2 1303 rfl ?_);(refine zjA 2 1303 hF rfl rfl rfl (by first|exact zaj|exact za1 (by decide) zaj) (by assumption) (by exact rfl) (by exact rfl) (λ q hq hF1=>?_));clear hF;(have hF:=hF1);clear hF1;dsimp only[St.settledF];(first|((with_reducible refine hR _ ?_);clear R hR)|((with_reducible refine hL _ ?_);clear L hL)))
  | ((with_reducible refine zaW ?_);(with_reducible refine zaW ?_);(with_reducible have hJ:=ze1 hF);clear hJ;(refine gZ 2 1203 rfl ?_);(refine zjA 2 1203 hF rfl rfl rfl (by first|exact zaj|exact za1 (by decide) zaj) (by assumption) (by exact rfl) (by exact rfl) (λ q hq hF1=>?_));clear hF;(have hF:=hF1);clear hF1;dsimp only[St.settledF];(first|((with_reducible refine hR _ ?_);clear R hR)|((with_reducible refine hL _ ?_);clear L hL)))
  | ((with_reducible refine zaW ?_);(with_reducible refine zaW ?_);(with_reducible have hJ:=ze1 hF);clear hJ;(refine gZ 2 1306 rfl ?_);(refine zdo 2 1306 hF rfl rfl rfl (by first|exact zaj|exact za1 (by decide) zaj) (by assumption) (by exact rfl) (by first|exact rfl|assumption|(symm;assumption)|omega) (by exact rfl) (λ q hq hF1=>?_));clear hF;(have hF:=hF1);clear hF1;dsimp only[St.settledF];(first|((with_reducible refine hR _ ?_);clear R hR)|((with_reducible refine hL _ ?_);clear L hL)))
  | ((with_reducible refine zaW ?_);(with_reducible refine zaW ?_);(with_reducible have hJ:=ze1 hF);clear hJ;(refine gZ 2 1501 rfl ?_);(refine zdo 2 1501 hF rfl rfl rfl (by first|exact zaj|exact za1 (by decide) zaj) (by assumption) (by exact rfl) (by first|exact rfl|assumption|(symm;assumption)|omega) (by exact rfl) (λ q hq hF1=>?_));clear hF;(have hF:=hF1);clear hF1;dsimp only[St.settledF];(first|((with_reducible refine hR _ ?_);clear R hR)|((with_reducible refine hL _ ?_);clear L hL)))
  | ((with_reducible refine zcN ?_);(with_reducible refine hR _ _ ?hx ?_);(case hx=>kernel_rfl);clear R hR)
  | ((with_reducible first|refine zcQ ?_|refine zdm ?_|refine idx2 (by assumption) ?_|refine idx3 (by assumption) ?_);conv=>whnf)
  | (with_reducible first|refine zcH ?_|refine zd4 ?_|refine zbL (λ R hR=>?_)|refine zbK ?_|refine zca ?_|refine zcY ?_|refine zbz ?_|refine zh5 ?_|refine zbY ?_|refine zbN ?_)
  | ((with_reducible refine zdF ?hx (λ R L hL hR=>?_));(case hx=>exact rfl))
  | ((with_reducible refine exg3 ?_);revert hF;(refine G213.step rfl rfl rfl (by assumption) (by exact rfl) (by exact rfl) ?_);(intro y hy hF);conv=>whnf)
  | ((with_reducible have hJ:=isB hF);clear hJ;revert hF;(with_reducible first|refine G61.lend ?hx ?_|refine G64.lend ?hx ?_);(case hx=>exact rfl);intro v hF;conv=>whnf)
  | (cases hF;(refine Or.inl ?_);(conv=>whnf);exact⟨rfl,rfl,rfl⟩)
  | ((with_reducible have hJ:=isSm hF);clear hJ;revert hF;(refine zfv (eK:=strN) (eV:=iN) zbf ?hk ?hz ?hd ?he ?_);(case hk=>exact λ _=>rfl);(case hz=>exact rfl);(case hd=>exact rfl);(case he=>exact rfl);intro x hF;conv=>whnf)
  | ((refine zmN rfl (by assumption) (λ d hp=>?_));(conv=>whnf);(refine zqA hF hp (by assumption) rfl (by exact rfl) (λ q hq hF1=>?_));clear hp;clear hF;(have hF:=hF1);clear hF1;conv=>whnf)
  | ((with_reducible have hJ:=isSm hF);clear hJ;revert hF;(refine zgD (eK:=strN) (eV:=iN) zbf ?hk ?hv ?hd ?he ?_);(case hk=>exact λ _=>rfl);(case hv=>exact rfl);(case hd=>exact rfl);(case he=>exact rfl);intro x hF;conv=>whnf)
  | ((with_reducible have hJ:=isO hF);clear hJ;revert hF;(refine zdC (eK:=strN) (eM:=StoneM.m) zbf ?hk ?hd ?he ?_ ?_);(case hk=>exact λ _=>rfl);(case hd=>exact rfl);(case he=>exact rfl);(intro hl hF;conv=>whnf);rotate_left;(intro i hl hF;conv=>whnf);rotate_right)
  | ((with_reducible have hJ:=isSm hF);clear hJ;revert hF;(refine zgD (eK:=strN) (eV:=bN) zbf ?hk ?hv ?hd ?he ?_);(case hk=>exact λ _=>rfl);(case hv=>exact rfl);(case hd=>exact rfl);(case he=>exact rfl);intro x hF;conv=>whnf)
  | ((with_reducible have hJ:=isO hF);clear hJ;revert hF;(refine zdC (eK:=strN) (eM:=EditionM.m) zbf ?hk ?hd ?he ?_ ?_);(case hk=>exact λ _=>rfl);(case hd=>exact rfl);(case he=>exact rfl);(intro hl hF;conv=>whnf);rotate_left;(intro i hl hF;conv=>whnf);rotate_right)
  | ((with_reducible refine isLF ?_);(refine zk8 (eK:=strN) (eM:=EditionM.m) zbf (λ _=>rfl) (by exact rfl) (by exact rfl) (by assumption) ?_);conv=>whnf)
  | ((with_reducible have hG:=zdD hF);clear hF;(obtain⟨⟨x,hx,hF⟩⟩:=hG);first|((with_reducible refine isMc ?_);(refine ze2 rfl hx (by exact rfl) ?_);conv=>whnf)|skip)
  | ((with_reducible refine isMc ?_);(refine ze2 rfl (by assumption) (by exact rfl) ?_);conv=>whnf)
  | ((with_reducible refine Or.inr ?_);(conv=>whnf);(with_reducible refine isTk ?_);(refine zjz (by first|exact zaj|exact za1 (by decide) zaj) ?_);conv=>whnf)
  | ((refine⟨(by first|exact zaj|exact za1 (by decide) zaj), ?_⟩);conv=>whnf)
  | ((with_reducible have hJ:=isO hF);clear hJ;revert hF;(refine zhn ?_ ?_);(intro ho hF;conv=>whnf);rotate_left;(intro j ho hF;conv=>whnf);rotate_right)
  | ((with_reducible refine isOP ?_);(refine znN (by assumption) ?_);conv=>whnf)
  | ((with_reducible refine isOP ?_);(refine zqz (by assumption) ?_);conv=>whnf)
  | ((with_reducible refine isSF ?_);(with_reducible have hJ:=ze1 hF);clear hJ;(refine zk9 hF (by assumption) rfl (by exact rfl) (λ q hq hF1=>?_));clear hF;(have hF:=hF1);clear hF1;conv=>whnf)
  | ((with_reducible refine isPF ?_);(with_reducible have hJ:=ze1 hF);clear hJ;(refine zla hF (by assumption) rfl (by first|exact rfl|assumption|omega) (by exact rfl) (by first|exact zl.trans zgF|exact zgF|exact rfl) (λ q hq hF1=>?_));clear hF;(have hF:=hF1);clear hF1;conv=>whnf)
  | ((with_reducible refine isLd ?_);(refine zf0 rfl (by assumption) (λ key=>?_));conv=>whnf)
  | ((with_reducible first|refine zeI ?hx ?_|refine zdG ?hx ?_|refine zcB ?hx ?_|refine zdg ?hx ?_|refine zgw ?hx ?_|refine zfj ?hx ?_);(case hx=>exact rfl))
  | (revert hF;(with_reducible refine idx1 ?hn ?_);(case hn=>first|exact rfl|exact(List.length_map _)|assumption|omega|simp);intro x hx hF;conv=>whnf)
  | ((with_reducible have hG:=zdn hF);clear hF;(first|((refine zdR hG ?hn ?hs (λ q hF=>?_));(case hn=>first|exact rfl|assumption|omega);(case hs=>exact rfl))|((refine zdQ (d:=iN) hG ?hs (λ q hF=>?_));(case hs=>exact rfl))|((refine zdS (d:=iN) hG ?ho ?hn ?hs (λ q hF=>?_));(case ho=>exact rfl);(case hn=>exact rfl);(case hs=>exact rfl)));clear hG;conv=>whnf)
  | ((with_reducible have hG:=zdn hF);clear hF;(first|((refine zdR hG ?hn ?hs (λ q hF=>?_));(case hn=>first|exact rfl|assumption|omega);(case hs=>exact rfl))|((refine zdQ (d:=strN) hG ?hs (λ q hF=>?_));(case hs=>exact rfl))|((refine zdS (d:=strN) hG ?ho ?hn ?hs (λ q hF=>?_));(case ho=>exact rfl);(case hn=>exact rfl);(case hs=>exact rfl)));clear hG;conv=>whnf)
  | ((with_reducible refine zdu ?_);(first|((refine zeD rfl ?hy ?_);(case hy=>first|assumption|exact notT (by assumption)|exact rfl))|((refine zeE rfl ?hy ?_);(case hy=>first|assumption|exact notF (by assumption)|exact rfl))|(revert hF;(with_reducible refine zih ?hx ?_ ?_);(case hx=>exact rfl);all_goals (intro hc hF))))
  | ((refine zeV ?hn ?_);(case hn=>first|exact rfl|(simp;done)|(simp;omega));conv=>whnf)
  | ((with_reducible refine zaW ?_);(with_reducible refine zaW ?_);(with_reducible have hG:=zcC hF);(refine gZ 2 1403 rfl ?_);(refine zhq 2 1403 rfl rfl rfl (by first|exact zaj|exact za1 (by decide) zaj) (by assumption) (by exact rfl) ?_);(have hF:=hG);clear hG;dsimp only[St.settledF];(first|((with_reducible refine hR _ ?_);clear R hR)|((with_reducible refine hL _ ?_);clear L hL)))
  | ((with_reducible refine zaW ?_);(with_reducible refine zaW ?_);(with_reducible have hG:=zcC hF);(refine gZ 4 1403 rfl ?_);(refine zed 4 1403 rfl rfl rfl (by first|exact zaj|exact za1 (by decide) zaj) (by assumption) (by exact rfl) ?_);(have hF:=hG);clear hG;dsimp only[St.settledF];(first|((with_reducible refine hR _ ?_);clear R hR)|((with_reducible refine hL _ ?_);clear L hL)))
  | ((with_reducible refine zaW ?_);(with_reducible refine zaW ?_);(with_reducible have hG:=zcC hF);(refine gZ 4 1803 rfl ?_);(refine zhq 4 1803 rfl rfl rfl (by first|exact zaj|exact za1 (by decide) zaj) (by assumption) (by exact rfl) ?_);(have hF:=hG);clear hG;dsimp only[St.settledF];(first|((with_reducible refine hR _ ?_);clear R hR)|((with_reducible refine hL _ ?_);clear L hL)))
  | ((with_reducible refine zhj ?hn ?_);(case hn=>first|exact rfl|assumption|omega);conv=>whnf)
  | ((with_reducible refine zaW ?_);(with_reducible refine zaW ?_);(with_reducible have hG:=zcC hF);(refine gZ 2 2104 rfl ?_);(refine zed 2 2104 rfl rfl rfl (by first|exact zaj|exact za1 (by decide) zaj) (by assumption) (by exact rfl) ?_);(have hF:=hG);clear hG;dsimp only[St.settledF];(first|((with_reducible refine hR _ ?_);clear R hR)|((with_reducible refine hL _ ?_);clear L hL)))
  | ((with_reducible have hG:=zfu hF);clear hF;(refine zhh hG ?hs (λ q hl hF=>?_));(case hs=>exact rfl);clear hG;conv=>whnf)
  | (revert hF;(refine zqF ?hn ?_ ?_);(case hn=>first|exact rfl|assumption|omega);(intro hl hF;conv=>whnf);rotate_left;(intro hF;conv=>whnf);rotate_right)
  | ((with_reducible refine zcI ?_);(first|((with_reducible refine hR _ ?_);clear R hR)|((with_reducible refine hL _ ?_);clear L hL)))
  | ((refine⟨?hx, ?_⟩);(case hx=>exact⟨rfl,Nat.le_of_ble_eq_true rfl,rfl⟩);conv=>whnf)
  | ((with_reducible refine zeT ?_);conv=>whnf)
  | ((with_reducible refine zgl ?hx ?_);(case hx=>first|exact rfl|assumption|exact notF (by assumption));conv=>whnf)
  | ((refine zax 1101 1102000000 rfl rfl (Nat.le_of_ble_eq_true rfl) rfl (λ R hR=>?_));(conv=>whnf);(with_reducible refine hR _ ?ha ?_);(case ha=>exact rfl);clear R hR)
  | ((refine zax 1102 1103000000 rfl rfl (Nat.le_of_ble_eq_true rfl) rfl (λ R hR=>?_));(conv=>whnf);(with_reducible refine hR _ ?ha ?_);(case ha=>exact rfl);clear R hR)
  | ((refine zax 1304 1305000000 rfl rfl (Nat.le_of_ble_eq_true rfl) rfl (λ R hR=>?_));(conv=>whnf);(with_reducible refine hR _ ?ha ?_);(case ha=>exact rfl);clear R hR)
  | ((refine zax 1502 1503000000 rfl rfl (Nat.le_of_ble_eq_true rfl) rfl (λ R hR=>?_));(conv=>whnf);(with_reducible refine hR _ ?ha ?_);(case ha=>exact rfl);clear R hR)
  | ((refine zax 1404 1405000000 rfl rfl (Nat.le_of_ble_eq_true rfl) rfl (λ R hR=>?_));(conv=>whnf);(with_reducible refine hR _ ?ha ?_);(case ha=>exact rfl);clear R hR)
  | ((refine zax 1503000101 1503000102000000 rfl rfl (Nat.le_of_ble_eq_true rfl) rfl (λ R hR=>?_));(conv=>whnf);(with_reducible refine hR _ ?ha ?_);(case ha=>exact rfl);clear R hR)
  | ((refine zax 1103000101 1103000102000000 rfl rfl (Nat.le_of_ble_eq_true rfl) rfl (λ R hR=>?_));(conv=>whnf);(with_reducible refine hR _ ?ha ?_);(case ha=>exact rfl);clear R hR)
  | (show Kinl _ _ _ _ _ _ _;conv=>whnf)
  | ((with_reducible refine zc7 ?ha ?hb ?_);(case ha=>exact rfl);(case hb=>exact rfl);conv=>whnf)
  | with_reducible refine zfO ?_
  | (have hF:(none:Option _)=some _:=hF;cases hF))):P:=h

end Go.Vc
