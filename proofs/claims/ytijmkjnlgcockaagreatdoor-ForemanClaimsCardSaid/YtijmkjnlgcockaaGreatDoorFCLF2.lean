/-
  A library for proofs about Go functions by symbolic evaluation,and plain Lean functions that the walked Go functions compute (written by a program of this claim).
-/
import Derived.Test.YtijmkjnlgcockaaGreatDoorFCLF1
set_option linter.unusedVariables false
set_option linter.unnecessarySimpa false
set_option linter.unusedSimpArgs false
namespace Go.Vc
open Go.Proofs
variable {N id:Nat} {ρ:Type} {q:ρ} {xs:List SV} {m:Nat->Blk} {l:List Loc} {ds:List D} {K:Dl->List Loc->Prop} {k0 k1 k2 k3 k4 k5 k6 k7 k8 k9 k10 k11 k12 k13 k14 k15 m0 m1 m2 m3 m4 m5:Nat}
def zei (N:Nat)(x5:Int)(x6:A2strN×Bool)(x7:Nat)(x11:RunM)(x13:Int)(b100'':List (ByteArray×RunM)):Option (Bool) :=
 (getF (b100'') x7).bind λ x14 =>
 (zfp x14.stones x11.stones).bind λ x15 =>
 (some (setF (b100'') x7 ({ x14 with stones:=x15 }))).bind λ x16 =>
 (f47 N ({ x14 with stones:=x15 })).bind λ x17 =>
 bif decide (x17<x13) then ((f47 N ({ x14 with stones:=x15 })).bind λ x18 =>
 (f46 N ({ x14 with stones:=x15 })).bind λ x19 =>
 bif decide (x18<x19) then (bif decide (x5=(12:Int)) then ((f14 N ).bind λ x20 =>
 some (x20))
 else (some (false)))
 else (bif decide (x6.1.e0=(strC [49])) then (bif decide (x5=(13:Int)) then ((f14 N ).bind λ x21 =>
 some (x21))
 else (some (false)))
 else (bif decide (x5=(0:Int)) then ((f14 N ).bind λ x22 =>
 some (x22))
 else (some (false)))))
 else (bif decide (x6.1.e0=(strC [49])) then (bif decide (x5=(13:Int)) then ((f14 N ).bind λ x23 =>
 some (x23))
 else (some (false)))
 else (bif decide (x5=(0:Int)) then ((f14 N ).bind λ x24 =>
 some (x24))
 else (some (false))))
def zgD (N:Nat)(x5:Int)(x6:A2strN×Bool)(x7:Nat)(x11:RunM)(x13:Int):Lp ((List (ByteArray×RunM))) Unit (Bool):=lp0 ⟨[21,22,24,25],[2906,3803,zxD],[],[]⟩ (λ _=>[.dat (iN x5), .ptr 2906 0, .po zxD x7 0, .dat (iN x13)]) (λ b100'' => [.box [.dat (strN x6.1.e0), .dat (strN x6.1.e1)],(rW x11.stones), .fam [] (encF strN RunM.m (b100'')) [(x7,1,3803)]]) (λ b100'' => zei N x5 x6 x7 x11 x13 b100'')
instance Ef12_c44 {N x5 x6 x7 x11 x13 b100''}:IsLp 0 1 (zei N x5 x6 x7 x11 x13 b100'') (zgD N x5 x6 x7 x11 x13) b100'':=⟨rfl⟩
instance Cf12_c44 {N x5 x6 x7 x11 x13}:IsCut 1 (zei N x5 x6 x7 x11 x13) (zgD N x5 x6 x7 x11 x13) 44:=⟨⟩
def zjU (r39:Int->(List (ByteArray×RunM))->Option (Bool))(x2:ByteArray)(x5:Int)(x6:A2strN×Bool)(x7:Nat)(x11:RunM)(x13:Int)(k0:(List (ByteArray×RunM))->Option (Bool))(v155:Int)(b100'':List (ByteArray×RunM)):Option (Bool) :=
 bif decide (v155<(List.length x11.stones:Int)) then ((ix x11.stones v155).bind λ x25 =>
 bif decide (x25=x2) then ((getF (b100'') x7).bind λ x26 =>
 (some (setF (b100'') x7 ({ x26 with ground:=max x26.ground (W (v155+(1:Int))) }))).bind λ x27 =>
 r39 (W (v155+(1:Int))) x27)
 else (r39 (W (v155+(1:Int))) (b100'')))
 else (k0 (b100''))
def zgl (x2:ByteArray)(x5:Int)(x6:A2strN×Bool)(x7:Nat)(x11:RunM)(x13:Int)(k0:(List (ByteArray×RunM))->Option (Bool)):Nat->Int->(List (ByteArray×RunM))->Option (Bool)
 | 0,_,_=>none
 | n+1,v155,b100'' => zjU (zgl x2 x5 x6 x7 x11 x13 k0 n) x2 x5 x6 x7 x11 x13 k0 v155 b100''
def zrg (x2:ByteArray)(x5:Int)(x6:A2strN×Bool)(x7:Nat)(x11:RunM)(x13:Int)(k0:(List (ByteArray×RunM))->Option (Bool)):Lp (Nat×Int×(List (ByteArray×RunM))) (Nat×Unit) (Bool):=lpm ⟨[17,21,22,24,25,153,154,155],[2906,3803,zxD],[],[]⟩ (λ (n,v155,b100'')=>zgl x2 x5 x6 x7 x11 x13 k0 n v155 b100'') (λ (_,v155,_) (m0,_)=>[.dat (strN x2), .dat (iN x5), .ptr 2906 0, .po zxD x7 0, .dat (iN x13), .rs 3803 m0, .dat (iN (List.length x11.stones:Int)), .dat (iN v155)]) (λ (_,_,b100'') (_,_)=>[.box [.dat (strN x6.1.e0), .dat (strN x6.1.e1)],(rW x11.stones), .fam [] (encF strN RunM.m (b100'')) [(x7,1,3803)]]) λ (_,_,_)=>(List.length x11.stones,())
instance Ef12_39 {x2 x5 x6 x7 x11 x13 k0 n v155 b100''}:IsLp 1 2 (zgl x2 x5 x6 x7 x11 x13 k0 n v155 b100'') (zrg x2 x5 x6 x7 x11 x13 k0) (n,v155,b100''):=⟨rfl⟩
def zbs (N:Nat)(b106_1:LB)(b100:LS)(b101:LE)(b102:LC)(x2:ByteArray)(x3:LB)(b100':List (ByteArray×RunM))(b200:List (ByteArray×A2strN)):Option (Bool) :=
 (addS (strC [103,114,105,110,100,32]) x2).bind λ x4 =>
 (f17 N x4 b106_1 b100 b101 b102).bind λ x5 =>
 (some (zaE (A2strN.mk zak zak) x2 b200)).bind λ x6 =>
 onO (zaq x6.1.e1 (b100')) (bif !x6.2 then (bif decide (x5=(5:Int)) then ((f14 N ).bind λ x8 =>
 some (x8))
 else (some (false)))
 else (bif decide (x5=(1:Int)) then ((f14 N ).bind λ x9 =>
 some (x9))
 else (some (false)))) λ x7 =>
 bif !x6.2 then (bif decide (x5=(5:Int)) then ((f14 N ).bind λ x10 =>
 some (x10))
 else (some (false)))
 else ((getF (b100') x7).bind λ x11 =>
 bif !x11.closed then (bif decide (x5=(22:Int)) then ((f14 N ).bind λ x12 =>
 some (x12))
 else (some (false)))
 else ((f47 N x11).bind λ x13 =>
 zaN (zei N x5 x6 x7 x11 x13) λ k0 =>
 zgl x2 x5 x6 x7 x11 x13 k0 N (0:Int) (b100')))
def zdv (N:Nat)(b106_1:LB)(b100:LS)(b101:LE)(b102:LC)(x2:ByteArray)(x3:LB):Lp ((List (ByteArray×RunM))×(List (ByteArray×A2strN))) (Nat×Unit) (Bool):=lpm ⟨[5,6],[2501,90500,zxA,zxz,zxB,zxC,zxE,zxD,zxF],[],[]⟩ (λ (b100',b200)=>zbs N b106_1 b100 b101 b102 x2 x3 b100' b200) (λ (_,_) (_,_)=>[.mp zxD, .mp zxF]) (λ (b100',b200) (m0,_)=>[(rW x3),(rW b106_1),(sW [zxz] b100),(eW b101),(mW b102), .box [.mp zxA, .mp zxz, .mp zxB], .box [.ptr zxC 0, .rs 90500 m0], .fam [] (encF strN RunM.m (b100')) [], .mp (encM strN A2strN.d b200)]) λ (_,_)=>(List.length b106_1,())
instance zrW {N b106_1 b100 b101 b102 x2 x3 b100' b200}:IsLp 1 2 (zbs N b106_1 b100 b101 b102 x2 x3 b100' b200) (zdv N b106_1 b100 b101 b102 x2 x3) (b100',b200):=⟨rfl⟩
instance zrX {N b106_1 b100 b101 b102 x2 x3}:IsCut 2 (zbs N b106_1 b100 b101 b102 x2 x3) (zdv N b106_1 b100 b101 b102 x2 x3) 2503000000063:=⟨⟩
def za3 (b106_1:LB)(b100:LS)(b101:LE)(b102:LC)(x3:LB)(v20:Int)(r4:Int->(List (ByteArray×RunM))->(List (ByteArray×A2strN))->Option (Bool))(b100'':List (ByteArray×RunM))(b200':List (ByteArray×A2strN)):Option (Bool) :=
 r4 (W (v20+(1:Int))) (b100'') (b200')
def zdw (b106_1:LB)(b100:LS)(b101:LE)(b102:LC)(x3:LB)(v20:Int)(r4:Int->(List (ByteArray×RunM))->(List (ByteArray×A2strN))->Option (Bool)):Lp ((List (ByteArray×RunM))×(List (ByteArray×A2strN))) (Nat×Nat×Nat) (Bool):=lpm ⟨[5,6,18,19,20],[2501,90500,zxA,zxz,zxB,zxC,zxE,zxD,zxF],[],[]⟩ (λ (b100'',b200')=>za3 b106_1 b100 b101 b102 x3 v20 r4 b100'' b200') (λ (_,_) (m0,m1,_)=>[.mp zxD, .mp zxF, .rs 2501 m0, .dat (iN (m1:Int)), .dat (iN v20)]) (λ (b100'',b200') (_,_,m2)=>[(rW x3),(rW b106_1),(sW [zxz] b100),(eW b101),(mW b102), .box [.mp zxA, .mp zxz, .mp zxB], .box [.ptr zxC 0, .rs 90500 m2], .fam [] (encF strN RunM.m (b100'')) [], .mp (encM strN A2strN.d (b200'))]) λ (_,_)=>(List.length x3,List.length x3,List.length b106_1)
instance zrY {b106_1 b100 b101 b102 x3 v20 r4 b100'' b200'}:IsLp 3 2 (za3 b106_1 b100 b101 b102 x3 v20 r4 b100'' b200') (zdw b106_1 b100 b101 b102 x3 v20 r4) (b100'',b200'):=⟨rfl⟩
instance zrZ {b106_1 b100 b101 b102 x3 v20 r4}:IsCut 2 (za3 b106_1 b100 b101 b102 x3 v20 r4) (zdw b106_1 b100 b101 b102 x3 v20 r4) 2503000000062:=⟨⟩
def zcT (r23:Int->(List (ByteArray×RunM))->Option (Bool))(b106_1:LB)(b100:LS)(b101:LE)(b102:LC)(x3:LB)(v20:Int)(b200:List (ByteArray×A2strN))(k2:(List (ByteArray×RunM))->(List (ByteArray×A2strN))->Option (Bool))(x30:LB)(x47:ByteArray)(x49:Int)(v122:Int)(b100'':List (ByteArray×RunM)):Option (Bool) :=
 bif decide (v122<(min x49 (100:Int))) then (onO (zaq x47 (b100'')) none λ x50 =>
 (getF (b100'') x50).bind λ x51 =>
 (app 8 x51.sheets [(0:Int)]).bind λ x52 =>
 (some (setF (b100'') x50 ({ x51 with sheets:=x52 }))).bind λ x53 =>
 r23 (W (v122+(1:Int))) x53)
 else (k2 (b100'') b200)
def zbG (b106_1:LB)(b100:LS)(b101:LE)(b102:LC)(x3:LB)(v20:Int)(b200:List (ByteArray×A2strN))(k2:(List (ByteArray×RunM))->(List (ByteArray×A2strN))->Option (Bool))(x30:LB)(x47:ByteArray)(x49:Int):Nat->Int->(List (ByteArray×RunM))->Option (Bool)
 | 0,_,_=>none
 | n+1,v122,b100'' => zcT (zbG b106_1 b100 b101 b102 x3 v20 b200 k2 x30 x47 x49 n) b106_1 b100 b101 b102 x3 v20 b200 k2 x30 x47 x49 v122 b100''
def zfB (b106_1:LB)(b100:LS)(b101:LE)(b102:LC)(x3:LB)(v20:Int)(b200:List (ByteArray×A2strN))(k2:(List (ByteArray×RunM))->(List (ByteArray×A2strN))->Option (Bool))(x30:LB)(x47:ByteArray)(x49:Int):Lp (Nat×Int×(List (ByteArray×RunM))) (Nat×Nat×Nat×Nat) (Bool):=lpm ⟨[5,6,9,18,19,20,121,122],[2501,90500,zxA,zxz,zxB,zxC,zxE,zxD,zxF,zxG],[],[]⟩ (λ (n,v122,b100'')=>zbG b106_1 b100 b101 b102 x3 v20 b200 k2 x30 x47 x49 n v122 b100'') (λ (_,v122,_) (m0,m1,m2,_)=>[.mp zxD, .mp zxF, .rs zxG m0, .rs 2501 m1, .dat (iN (m2:Int)), .dat (iN v20), .dat (iN (min x49 (100:Int))), .dat (iN v122)]) (λ (_,_,b100'') (_,_,_,m3)=>[(rW x3),(rW b106_1),(sW [zxz] b100),(eW b101),(mW b102), .box [.mp zxA, .mp zxz, .mp zxB], .box [.ptr zxC 0, .rs 90500 m3], .fam [] (encF strN RunM.m (b100'')) [], .mp (encM strN A2strN.d b200),(rW x30)]) λ (_,_,_)=>(List.length x30,List.length x3,List.length x3,List.length b106_1)
instance ztp {b106_1 b100 b101 b102 x3 v20 b200 k2 x30 x47 x49 n v122 b100''}:IsLp 4 2 (zbG b106_1 b100 b101 b102 x3 v20 b200 k2 x30 x47 x49 n v122 b100'') (zfB b106_1 b100 b101 b102 x3 v20 b200 k2 x30 x47 x49) (n,v122,b100''):=⟨rfl⟩
def zbf (r1x:Int->Int->(List Int)->Option (Bool))(b106_1:LB)(b100:LS)(b101:LE)(b102:LC)(x3:LB)(b200:List (ByteArray×A2strN))(k2:(List (ByteArray×RunM))->(List (ByteArray×A2strN))->Option (Bool))(x30:LB)(x57:Nat)(v12:Int)(x76:List Int)(x77:List (ByteArray×RunM))(n3':Int)(v15':Int)(b3':List Int):Option (Bool) :=
 bif decide ((v15')<(List.length x76:Int)) then ((ix (b3') (v15')).bind λ x79 =>
 bif decide (x79=v12) then (bif decide ((0:Int)<(n3')) then ((getF x77 x57).bind λ x80 =>
 (zfp x80.sheets (b3')).bind λ x81 =>
 (setx (b3') (v15') (W (v12+(1:Int)))).bind λ x82 =>
 r1x (W ((n3')-(1:Int))) (W ((v15')+(1:Int))) x82)
 else (r1x (n3') (W ((v15')+(1:Int))) (b3')))
 else (r1x (n3') (W ((v15')+(1:Int))) (b3')))
 else ((getF x77 x57).bind λ x83 =>
 (zfp x83.sheets (b3')).bind λ x84 =>
 (some (setF x77 x57 ({ x83 with sheets:=x84 }))).bind λ x85 =>
 k2 x85 b200)
def zaz (b106_1:LB)(b100:LS)(b101:LE)(b102:LC)(x3:LB)(b200:List (ByteArray×A2strN))(k2:(List (ByteArray×RunM))->(List (ByteArray×A2strN))->Option (Bool))(x30:LB)(x57:Nat)(v12:Int)(x76:List Int)(x77:List (ByteArray×RunM)):Nat->Int->Int->(List Int)->Option (Bool)
 | 0,_,_,_=>none
 | n+1,n3',v15',b3' => zbf (zaz b106_1 b100 b101 b102 x3 b200 k2 x30 x57 v12 x76 x77 n) b106_1 b100 b101 b102 x3 b200 k2 x30 x57 v12 x76 x77 n3' v15' b3'
def zb8 (b106_1:LB)(b100:LS)(b101:LE)(b102:LC)(x3:LB)(b200:List (ByteArray×A2strN))(k2:(List (ByteArray×RunM))->(List (ByteArray×A2strN))->Option (Bool))(x30:LB)(x57:Nat)(v12:Int)(x76:List Int)(x77:List (ByteArray×RunM)):Lp (Nat×Int×Int×(List Int)) (Nat×Nat×Nat) (Bool):=lpm ⟨[0,1,2,3,13,14,15],[2501,90500,zxA,zxz,zxB,zxC,zxE,zxD,zxF,zxG,zxH,zxJ,zxK],[],[]⟩ (λ (n,n3',v15',b3')=>zaz b106_1 b100 b101 b102 x3 b200 k2 x30 x57 v12 x76 x77 n n3' v15' b3') (λ (_,n3',v15',_) (m0,m1,_)=>[.po zxD x57 0, .dat (iN v12), .dat (iN (W (v12+(1:Int)))), .dat (iN (n3')), .rs zxK m0, .dat (iN (m1:Int)), .dat (iN (v15'))]) (λ (_,_,_,b3') (_,_,m2)=>[(rW x3),(rW b106_1),(sW [zxz] b100),(eW b101),(mW b102), .box [.mp zxA, .mp zxz, .mp zxB], .box [.ptr zxC 0, .rs 90500 m2], .fam [] (encF strN RunM.m x77) [(x57,0,zxK)], .mp (encM strN A2strN.d b200),(rW x30), .dead, .dead, .row 3 1 (List.map iN (b3'))]) λ (_,_,_,b3')=>(List.length (b3'),List.length x76,List.length b106_1)
instance ziM {b106_1 b100 b101 b102 x3 b200 k2 x30 x57 v12 x76 x77 n n3' v15' b3'}:IsLp 3 3 (zaz b106_1 b100 b101 b102 x3 b200 k2 x30 x57 v12 x76 x77 n n3' v15' b3') (zb8 b106_1 b100 b101 b102 x3 b200 k2 x30 x57 v12 x76 x77) (n,n3',v15',b3'):=⟨rfl⟩
def zbg (r1:Int->Int->(List Int)->Option (Bool))(N:Nat)(b106_1:LB)(b100:LS)(b101:LE)(b102:LC)(x3:LB)(b200:List (ByteArray×A2strN))(k2:(List (ByteArray×RunM))->(List (ByteArray×A2strN))->Option (Bool))(x30:LB)(x31:ByteArray)(x57:Nat)(v12:Int)(x58:RunM)(x60:List (ByteArray×RunM))(n3:Int)(v15:Int)(b3:List Int):Option (Bool) :=
 bif decide (v15<(List.length x58.sheets:Int)) then ((ix b3 v15).bind λ x71 =>
 bif decide (x71=v12) then (bif decide ((0:Int)<n3) then ((getF x60 x57).bind λ x72 =>
 (zfp x72.sheets b3).bind λ x73 =>
 (setx b3 v15 (-1:Int)).bind λ x74 =>
 r1 (W (n3-(1:Int))) (W (v15+(1:Int))) x74)
 else (r1 n3 (W (v15+(1:Int))) b3))
 else (r1 n3 (W (v15+(1:Int))) b3))
 else ((getF x60 x57).bind λ x75 =>
 (zfp x75.sheets b3).bind λ x76 =>
 (some (setF x60 x57 ({ x75 with sheets:=x76 }))).bind λ x77 =>
 (f49 N x31).bind λ x78 =>
 zaz b106_1 b100 b101 b102 x3 b200 k2 x30 x57 v12 x76 x77 N x78 (0:Int) x76)
def zaF (N:Nat)(b106_1:LB)(b100:LS)(b101:LE)(b102:LC)(x3:LB)(b200:List (ByteArray×A2strN))(k2:(List (ByteArray×RunM))->(List (ByteArray×A2strN))->Option (Bool))(x30:LB)(x31:ByteArray)(x57:Nat)(v12:Int)(x58:RunM)(x60:List (ByteArray×RunM)):Nat->Int->Int->(List Int)->Option (Bool)
 | 0,_,_,_=>none
 | n+1,n3,v15,b3=>zbg (zaF N b106_1 b100 b101 b102 x3 b200 k2 x30 x31 x57 v12 x58 x60 n) N b106_1 b100 b101 b102 x3 b200 k2 x30 x31 x57 v12 x58 x60 n3 v15 b3
def zb9 (N:Nat)(b106_1:LB)(b100:LS)(b101:LE)(b102:LC)(x3:LB)(b200:List (ByteArray×A2strN))(k2:(List (ByteArray×RunM))->(List (ByteArray×A2strN))->Option (Bool))(x30:LB)(x31:ByteArray)(x57:Nat)(v12:Int)(x58:RunM)(x60:List (ByteArray×RunM)):Lp (Nat×Int×Int×(List Int)) (Nat×Nat) (Bool):=lpm ⟨[0,1,2,3,13,14,15],[2501,90500,zxA,zxz,zxB,zxC,zxE,zxD,zxF,zxG,zxH,zxJ],[],[]⟩ (λ (n,n3,v15,b3)=>zaF N b106_1 b100 b101 b102 x3 b200 k2 x30 x31 x57 v12 x58 x60 n n3 v15 b3) (λ (_,n3,v15,_) (m0,_)=>[.po zxD x57 0, .dat (iN v12), .dat (iN (-1:Int)), .dat (iN n3), .rs zxJ m0, .dat (iN (List.length x58.sheets:Int)), .dat (iN v15)]) (λ (_,_,_,b3) (_,m1)=>[(rW x3),(rW b106_1),(sW [zxz] b100),(eW b101),(mW b102), .box [.mp zxA, .mp zxz, .mp zxB], .box [.ptr zxC 0, .rs 90500 m1], .fam [] (encF strN RunM.m x60) [(x57,0,zxJ)], .mp (encM strN A2strN.d b200),(rW x30), .dead, .row 3 1 (List.map iN b3)]) λ (_,_,_,b3)=>(List.length b3,List.length b106_1)
instance ziN {N b106_1 b100 b101 b102 x3 b200 k2 x30 x31 x57 v12 x58 x60 n n3 v15 b3}:IsLp 2 3 (zaF N b106_1 b100 b101 b102 x3 b200 k2 x30 x31 x57 v12 x58 x60 n n3 v15 b3) (zb9 N b106_1 b100 b101 b102 x3 b200 k2 x30 x31 x57 v12 x58 x60) (n,n3,v15,b3):=⟨rfl⟩
def zbi (N:Nat)(b106_1:LB)(b100:LS)(b101:LE)(b102:LC)(x3:LB)(v20:Int)(b100':List (ByteArray×RunM))(b200:List (ByteArray×A2strN))(k2:(List (ByteArray×RunM))->(List (ByteArray×A2strN))->Option (Bool))(x30:LB)(x31:ByteArray)(x33:ByteArray)(x54:ByteArray)(x57:Nat)(v12:Int)(b3203:LB):Option (Bool) :=
 (getF (b100') x57).bind λ x58 =>
 (zfp x58.stones b3203).bind λ x59 =>
 (some (setF (b100') x57 ({ x58 with stones:=x59 }))).bind λ x60 =>
 bif decide (v12<(0:Int)) then (some (false))
 else (bif decide (x33=(strC [103,114,105,110,100])) then ((some (setF x60 x57 ({ x58 with stones:=x59,ground:=max x58.ground (W (v12+(1:Int))) }))).bind λ x61 =>
 (some (zaE (A2strN.mk zak zak) x54 b200)).bind λ x62 =>
 (f49 N x62.1.e0).bind λ x63 =>
 (f30 N (W (x63-(1:Int)))).bind λ x64 =>
 (some (setK x54 (A2strN.mk x64 zak) b200)).bind λ x65 =>
 k2 x61 x65)
 else ((f49 N x31).bind λ x66 =>
 (ix x30 (3:Int)).bind λ x67 =>
 (f49 N x67).bind λ x68 =>
 (f48 N ({ x58 with stones:=x59 }) v12).bind λ x69 =>
 bif decide (x69<(W (x66+x68))) then (some (false))
 else ((f49 N x67).bind λ x70 =>
 zaF N b106_1 b100 b101 b102 x3 b200 k2 x30 x31 x57 v12 x58 x60 N x70 (0:Int) x58.sheets)))
def zcC (N:Nat)(b106_1:LB)(b100:LS)(b101:LE)(b102:LC)(x3:LB)(v20:Int)(b100':List (ByteArray×RunM))(b200:List (ByteArray×A2strN))(k2:(List (ByteArray×RunM))->(List (ByteArray×A2strN))->Option (Bool))(x30:LB)(x31:ByteArray)(x33:ByteArray)(x54:ByteArray)(x57:Nat):Lp (Int×LB) (Nat×Nat×Nat×Nat) (Bool):=lpm ⟨[5,6,9,11,12,18,19,20],[2501,90500,zxA,zxz,zxB,zxC,zxE,zxD,zxF,zxG,zxH],[],[]⟩ (λ (v12,b3203)=>zbi N b106_1 b100 b101 b102 x3 v20 b100' b200 k2 x30 x31 x33 x54 x57 v12 b3203) (λ (v12,_) (m0,m1,m2,_)=>[.mp zxD, .mp zxF, .rs zxG m0, .pn zxD (some x57), .dat (iN v12), .rs 2501 m1, .dat (iN (m2:Int)), .dat (iN v20)]) (λ (_,b3203) (_,_,_,m3)=>[(rW x3),(rW b106_1),(sW [zxz] b100),(eW b101),(mW b102), .box [.mp zxA, .mp zxz, .mp zxB], .box [.ptr zxC 0, .rs 90500 m3], .fam [] (encF strN RunM.m (b100')) [(x57,1,zxH)], .mp (encM strN A2strN.d b200),(rW x30),(rW b3203)]) λ (_,_)=>(List.length x30,List.length x3,List.length x3,List.length b106_1)
instance zr0 {N b106_1 b100 b101 b102 x3 v20 b100' b200 k2 x30 x31 x33 x54 x57 v12 b3203}:IsLp 4 2 (zbi N b106_1 b100 b101 b102 x3 v20 b100' b200 k2 x30 x31 x33 x54 x57 v12 b3203) (zcC N b106_1 b100 b101 b102 x3 v20 b100' b200 k2 x30 x31 x33 x54 x57) (v12,b3203):=⟨rfl⟩
instance zr1 {N b106_1 b100 b101 b102 x3 v20 b100' b200 k2 x30 x31 x33 x54 x57}:IsCut 2 (zbi N b106_1 b100 b101 b102 x3 v20 b100' b200 k2 x30 x31 x33 x54 x57) (zcC N b106_1 b100 b101 b102 x3 v20 b100' b200 k2 x30 x31 x33 x54 x57) zxL:=⟨⟩
def zfC (r33:Int->Int->Option (Bool))(b106_1:LB)(b100:LS)(b101:LE)(b102:LC)(x3:LB)(v20:Int)(b100':List (ByteArray×RunM))(b200:List (ByteArray×A2strN))(x30:LB)(x54:ByteArray)(x57:Nat)(k3:Int->LB->Option (Bool))(x86:RunM)(v12:Int)(v160:Int):Option (Bool) :=
 bif decide (v160<(List.length x86.stones:Int)) then ((ix x86.stones v160).bind λ x87 =>
 bif decide (x87=x54) then (r33 v160 (W (v160+(1:Int))))
 else (r33 v12 (W (v160+(1:Int)))))
 else (k3 v12 x86.stones)
def zc (b106_1:LB)(b100:LS)(b101:LE)(b102:LC)(x3:LB)(v20:Int)(b100':List (ByteArray×RunM))(b200:List (ByteArray×A2strN))(x30:LB)(x54:ByteArray)(x57:Nat)(k3:Int->LB->Option (Bool))(x86:RunM):Nat->Int->Int->Option (Bool)
 | 0,_,_=>none
 | n+1,v12,v160=>zfC (zc b106_1 b100 b101 b102 x3 v20 b100' b200 x30 x54 x57 k3 x86 n) b106_1 b100 b101 b102 x3 v20 b100' b200 x30 x54 x57 k3 x86 v12 v160
def zfD (b106_1:LB)(b100:LS)(b101:LE)(b102:LC)(x3:LB)(v20:Int)(b100':List (ByteArray×RunM))(b200:List (ByteArray×A2strN))(x30:LB)(x54:ByteArray)(x57:Nat)(k3:Int->LB->Option (Bool))(x86:RunM):Lp (Nat×Int×Int) (Nat×Nat×Nat×Nat×Nat) (Bool):=lpm ⟨[5,6,9,11,12,18,19,20,158,159,160],[2501,90500,zxA,zxz,zxB,zxC,zxE,zxD,zxF,zxG,zxH],[],[]⟩ (λ (n,v12,v160)=>zc b106_1 b100 b101 b102 x3 v20 b100' b200 x30 x54 x57 k3 x86 n v12 v160) (λ (_,v12,v160) (m0,m1,m2,m3,_)=>[.mp zxD, .mp zxF, .rs zxG m0, .pn zxD (some x57), .dat (iN v12), .rs 2501 m1, .dat (iN (m2:Int)), .dat (iN v20), .rs zxH m3, .dat (iN (List.length x86.stones:Int)), .dat (iN v160)]) (λ (_,_,_) (_,_,_,_,m4)=>[(rW x3),(rW b106_1),(sW [zxz] b100),(eW b101),(mW b102), .box [.mp zxA, .mp zxz, .mp zxB], .box [.ptr zxC 0, .rs 90500 m4], .fam [] (encF strN RunM.m (b100')) [(x57,1,zxH)], .mp (encM strN A2strN.d b200),(rW x30),(rW x86.stones)]) λ (_,_,_)=>(List.length x30,List.length x3,List.length x3,List.length x86.stones,List.length b106_1)
instance ztq {b106_1 b100 b101 b102 x3 v20 b100' b200 x30 x54 x57 k3 x86 n v12 v160}:IsLp 5 2 (zc b106_1 b100 b101 b102 x3 v20 b100' b200 x30 x54 x57 k3 x86 n v12 v160) (zfD b106_1 b100 b101 b102 x3 v20 b100' b200 x30 x54 x57 k3 x86) (n,v12,v160):=⟨rfl⟩
def za4 (N:Nat)(b106_1:LB)(b100:LS)(b101:LE)(b102:LC)(x3:LB)(v20:Int)(b100':List (ByteArray×RunM))(b200:List (ByteArray×A2strN))(k2:(List (ByteArray×RunM))->(List (ByteArray×A2strN))->Option (Bool))(x30:LB)(x88:ByteArray)(x91:Nat)(v12:Int)(b3203:LB):Option (Bool) :=
 (getF (b100') x91).bind λ x92 =>
 (zfp x92.stones b3203).bind λ x93 =>
 (some (setF (b100') x91 ({ x92 with stones:=x93 }))).bind λ x94 =>
 bif decide (v12<(0:Int)) then (some (false))
 else ((some (setF x94 x91 ({ x92 with stones:=x93,ground:=max x92.ground (W (v12+(1:Int))) }))).bind λ x95 =>
 (some (zaE (A2strN.mk zak zak) x88 b200)).bind λ x96 =>
 (f49 N x96.1.e0).bind λ x97 =>
 (f30 N (W (x97-(1:Int)))).bind λ x98 =>
 (some (setK x88 (A2strN.mk x98 zak) b200)).bind λ x99 =>
 k2 x95 x99)
def zb1 (N:Nat)(b106_1:LB)(b100:LS)(b101:LE)(b102:LC)(x3:LB)(v20:Int)(b100':List (ByteArray×RunM))(b200:List (ByteArray×A2strN))(k2:(List (ByteArray×RunM))->(List (ByteArray×A2strN))->Option (Bool))(x30:LB)(x88:ByteArray)(x91:Nat):Lp (Int×LB) (Nat×Nat×Nat×Nat) (Bool):=lpm ⟨[5,6,9,11,12,18,19,20],[2501,90500,zxA,zxz,zxB,zxC,zxE,zxD,zxF,zxG,zxH],[],[]⟩ (λ (v12,b3203)=>za4 N b106_1 b100 b101 b102 x3 v20 b100' b200 k2 x30 x88 x91 v12 b3203) (λ (v12,_) (m0,m1,m2,_)=>[.mp zxD, .mp zxF, .rs zxG m0, .pn zxD (some x91), .dat (iN v12), .rs 2501 m1, .dat (iN (m2:Int)), .dat (iN v20)]) (λ (_,b3203) (_,_,_,m3)=>[(rW x3),(rW b106_1),(sW [zxz] b100),(eW b101),(mW b102), .box [.mp zxA, .mp zxz, .mp zxB], .box [.ptr zxC 0, .rs 90500 m3], .fam [] (encF strN RunM.m (b100')) [(x91,1,zxH)], .mp (encM strN A2strN.d b200),(rW x30),(rW b3203)]) λ (_,_)=>(List.length x30,List.length x3,List.length x3,List.length b106_1)
instance zpe {N b106_1 b100 b101 b102 x3 v20 b100' b200 k2 x30 x88 x91 v12 b3203}:IsLp 4 2 (za4 N b106_1 b100 b101 b102 x3 v20 b100' b200 k2 x30 x88 x91 v12 b3203) (zb1 N b106_1 b100 b101 b102 x3 v20 b100' b200 k2 x30 x88 x91) (v12,b3203):=⟨rfl⟩
instance zpf {N b106_1 b100 b101 b102 x3 v20 b100' b200 k2 x30 x88 x91}:IsCut 2 (za4 N b106_1 b100 b101 b102 x3 v20 b100' b200 k2 x30 x88 x91) (zb1 N b106_1 b100 b101 b102 x3 v20 b100' b200 k2 x30 x88 x91) zxL:=⟨⟩
def zej (r33:Int->Int->Option (Bool))(b106_1:LB)(b100:LS)(b101:LE)(b102:LC)(x3:LB)(v20:Int)(b100':List (ByteArray×RunM))(b200:List (ByteArray×A2strN))(x30:LB)(x88:ByteArray)(x91:Nat)(k4:Int->LB->Option (Bool))(x100:RunM)(v12:Int)(v160:Int):Option (Bool) :=
 bif decide (v160<(List.length x100.stones:Int)) then ((ix x100.stones v160).bind λ x101 =>
 bif decide (x101=x88) then (r33 v160 (W (v160+(1:Int))))
 else (r33 v12 (W (v160+(1:Int)))))
 else (k4 v12 x100.stones)
def zbN (b106_1:LB)(b100:LS)(b101:LE)(b102:LC)(x3:LB)(v20:Int)(b100':List (ByteArray×RunM))(b200:List (ByteArray×A2strN))(x30:LB)(x88:ByteArray)(x91:Nat)(k4:Int->LB->Option (Bool))(x100:RunM):Nat->Int->Int->Option (Bool)
 | 0,_,_=>none
 | n+1,v12,v160=>zej (zbN b106_1 b100 b101 b102 x3 v20 b100' b200 x30 x88 x91 k4 x100 n) b106_1 b100 b101 b102 x3 v20 b100' b200 x30 x88 x91 k4 x100 v12 v160
def zek (b106_1:LB)(b100:LS)(b101:LE)(b102:LC)(x3:LB)(v20:Int)(b100':List (ByteArray×RunM))(b200:List (ByteArray×A2strN))(x30:LB)(x88:ByteArray)(x91:Nat)(k4:Int->LB->Option (Bool))(x100:RunM):Lp (Nat×Int×Int) (Nat×Nat×Nat×Nat×Nat) (Bool):=lpm ⟨[5,6,9,11,12,18,19,20,158,159,160],[2501,90500,zxA,zxz,zxB,zxC,zxE,zxD,zxF,zxG,zxH],[],[]⟩ (λ (n,v12,v160)=>zbN b106_1 b100 b101 b102 x3 v20 b100' b200 x30 x88 x91 k4 x100 n v12 v160) (λ (_,v12,v160) (m0,m1,m2,m3,_)=>[.mp zxD, .mp zxF, .rs zxG m0, .pn zxD (some x91), .dat (iN v12), .rs 2501 m1, .dat (iN (m2:Int)), .dat (iN v20), .rs zxH m3, .dat (iN (List.length x100.stones:Int)), .dat (iN v160)]) (λ (_,_,_) (_,_,_,_,m4)=>[(rW x3),(rW b106_1),(sW [zxz] b100),(eW b101),(mW b102), .box [.mp zxA, .mp zxz, .mp zxB], .box [.ptr zxC 0, .rs 90500 m4], .fam [] (encF strN RunM.m (b100')) [(x91,1,zxH)], .mp (encM strN A2strN.d b200),(rW x30),(rW x100.stones)]) λ (_,_,_)=>(List.length x30,List.length x3,List.length x3,List.length x100.stones,List.length b106_1)
instance zrh {b106_1 b100 b101 b102 x3 v20 b100' b200 x30 x88 x91 k4 x100 n v12 v160}:IsLp 5 2 (zbN b106_1 b100 b101 b102 x3 v20 b100' b200 x30 x88 x91 k4 x100 n v12 v160) (zek b106_1 b100 b101 b102 x3 v20 b100' b200 x30 x88 x91 k4 x100) (n,v12,v160):=⟨rfl⟩
def zca (r1:Int->Int->(List Int)->Option (Bool))(b106_1:LB)(b100:LS)(b101:LE)(b102:LC)(x3:LB)(b100':List (ByteArray×RunM))(b200:List (ByteArray×A2strN))(k2:(List (ByteArray×RunM))->(List (ByteArray×A2strN))->Option (Bool))(x30:LB)(x106:Nat)(x108:Int)(x109:RunM)(x112:ByteArray)(x114:Nat)(n3:Int)(v15:Int)(b3:List Int):Option (Bool) :=
 bif decide (v15<(List.length x109.sheets:Int)) then ((ix b3 v15).bind λ x115 =>
 bif decide (x115=(x114:Int)) then (bif decide ((0:Int)<n3) then ((zfp x109.sheets b3).bind λ x116 =>
 (setx b3 v15 (-2:Int)).bind λ x117 =>
 r1 (W (n3-(1:Int))) (W (v15+(1:Int))) x117)
 else (r1 n3 (W (v15+(1:Int))) b3))
 else (r1 n3 (W (v15+(1:Int))) b3))
 else ((zfp x109.sheets b3).bind λ x118 =>
 (some (setF (b100') x106 ({ x109 with sheets:=x118 }))).bind λ x119 =>
 (some (zaE (0:Int) x112 x109.claims)).bind λ x120 =>
 (some (setK x112 (W (x120.1+(W (0-x108)))) x109.claims)).bind λ x121 =>
 (some (setF x119 x106 ({ x109 with sheets:=x118,claims:=x121 }))).bind λ x122 =>
 k2 x122 b200)
def za5 (b106_1:LB)(b100:LS)(b101:LE)(b102:LC)(x3:LB)(b100':List (ByteArray×RunM))(b200:List (ByteArray×A2strN))(k2:(List (ByteArray×RunM))->(List (ByteArray×A2strN))->Option (Bool))(x30:LB)(x106:Nat)(x108:Int)(x109:RunM)(x112:ByteArray)(x114:Nat):Nat->Int->Int->(List Int)->Option (Bool)
 | 0,_,_,_=>none
 | n+1,n3,v15,b3=>zca (za5 b106_1 b100 b101 b102 x3 b100' b200 k2 x30 x106 x108 x109 x112 x114 n) b106_1 b100 b101 b102 x3 b100' b200 k2 x30 x106 x108 x109 x112 x114 n3 v15 b3
def zcb (b106_1:LB)(b100:LS)(b101:LE)(b102:LC)(x3:LB)(b100':List (ByteArray×RunM))(b200:List (ByteArray×A2strN))(k2:(List (ByteArray×RunM))->(List (ByteArray×A2strN))->Option (Bool))(x30:LB)(x106:Nat)(x108:Int)(x109:RunM)(x112:ByteArray)(x114:Nat):Lp (Nat×Int×Int×(List Int)) (Nat×Nat) (Bool):=lpm ⟨[0,1,2,3,13,14,15],[2501,90500,zxA,zxz,zxB,zxC,zxE,zxD,zxF,2503000601,2503000602,zxG,2503005714,zxI],[],[]⟩ (λ (n,n3,v15,b3)=>za5 b106_1 b100 b101 b102 x3 b100' b200 k2 x30 x106 x108 x109 x112 x114 n n3 v15 b3) (λ (_,n3,v15,_) (m0,_)=>[.po zxD x106 0, .dat (iN (x114:Int)), .dat (iN (-2:Int)), .dat (iN n3), .rs zxI m0, .dat (iN (List.length x109.sheets:Int)), .dat (iN v15)]) (λ (_,_,_,b3) (_,m1)=>[(rW x3),(rW b106_1),(sW [zxz] b100),(eW b101),(mW b102), .box [.mp zxA, .mp zxz, .mp zxB], .box [.ptr zxC 0, .rs 90500 m1], .fam [] (encF strN RunM.m (b100')) [(x106,0,zxI)], .mp (encM strN A2strN.d b200), .dead, .row 9 1 (List.map strN [zak,zak,zak]),(rW x30), .dead, .row 3 1 (List.map iN b3)]) λ (_,_,_,b3)=>(List.length b3,List.length b106_1)
instance ziO {b106_1 b100 b101 b102 x3 b100' b200 k2 x30 x106 x108 x109 x112 x114 n n3 v15 b3}:IsLp 2 3 (za5 b106_1 b100 b101 b102 x3 b100' b200 k2 x30 x106 x108 x109 x112 x114 n n3 v15 b3) (zcb b106_1 b100 b101 b102 x3 b100' b200 k2 x30 x106 x108 x109 x112 x114) (n,n3,v15,b3):=⟨rfl⟩
def za7 (r1:Int->Int->(List Int)->Option (Bool))(b106_1:LB)(b100:LS)(b101:LE)(b102:LC)(x3:LB)(b100':List (ByteArray×RunM))(b200:List (ByteArray×A2strN))(k2:(List (ByteArray×RunM))->(List (ByteArray×A2strN))->Option (Bool))(x30:LB)(x128:Nat)(x130:Int)(x131:RunM)(x134:ByteArray)(x136:Nat)(n3:Int)(v15:Int)(b3:List Int):Option (Bool) :=
 bif decide (v15<(List.length x131.sheets:Int)) then ((ix b3 v15).bind λ x137 =>
 bif decide (x137=(x136:Int)) then (bif decide ((0:Int)<n3) then ((zfp x131.sheets b3).bind λ x138 =>
 (setx b3 v15 (-2:Int)).bind λ x139 =>
 r1 (W (n3-(1:Int))) (W (v15+(1:Int))) x139)
 else (r1 n3 (W (v15+(1:Int))) b3))
 else (r1 n3 (W (v15+(1:Int))) b3))
 else ((zfp x131.sheets b3).bind λ x140 =>
 (some (setF (b100') x128 ({ x131 with sheets:=x140 }))).bind λ x141 =>
 (some (zaE (0:Int) x134 x131.claims)).bind λ x142 =>
 (some (setK x134 (W (x142.1+(W (0-x130)))) x131.claims)).bind λ x143 =>
 (some (setF x141 x128 ({ x131 with sheets:=x140,claims:=x143 }))).bind λ x144 =>
 k2 x144 b200)
def zaA (b106_1:LB)(b100:LS)(b101:LE)(b102:LC)(x3:LB)(b100':List (ByteArray×RunM))(b200:List (ByteArray×A2strN))(k2:(List (ByteArray×RunM))->(List (ByteArray×A2strN))->Option (Bool))(x30:LB)(x128:Nat)(x130:Int)(x131:RunM)(x134:ByteArray)(x136:Nat):Nat->Int->Int->(List Int)->Option (Bool)
 | 0,_,_,_=>none
 | n+1,n3,v15,b3=>za7 (zaA b106_1 b100 b101 b102 x3 b100' b200 k2 x30 x128 x130 x131 x134 x136 n) b106_1 b100 b101 b102 x3 b100' b200 k2 x30 x128 x130 x131 x134 x136 n3 v15 b3
def zbU (b106_1:LB)(b100:LS)(b101:LE)(b102:LC)(x3:LB)(b100':List (ByteArray×RunM))(b200:List (ByteArray×A2strN))(k2:(List (ByteArray×RunM))->(List (ByteArray×A2strN))->Option (Bool))(x30:LB)(x128:Nat)(x130:Int)(x131:RunM)(x134:ByteArray)(x136:Nat):Lp (Nat×Int×Int×(List Int)) (Nat×Nat) (Bool):=lpm ⟨[0,1,2,3,13,14,15],[2501,90500,zxA,zxz,zxB,zxC,zxE,zxD,zxF,2503000601,2503000602,zxG,2503005714,zxI],[],[]⟩ (λ (n,n3,v15,b3)=>zaA b106_1 b100 b101 b102 x3 b100' b200 k2 x30 x128 x130 x131 x134 x136 n n3 v15 b3) (λ (_,n3,v15,_) (m0,_)=>[.po zxD x128 0, .dat (iN (x136:Int)), .dat (iN (-2:Int)), .dat (iN n3), .rs zxI m0, .dat (iN (List.length x131.sheets:Int)), .dat (iN v15)]) (λ (_,_,_,b3) (_,m1)=>[(rW x3),(rW b106_1),(sW [zxz] b100),(eW b101),(mW b102), .box [.mp zxA, .mp zxz, .mp zxB], .box [.ptr zxC 0, .rs 90500 m1], .fam [] (encF strN RunM.m (b100')) [(x128,0,zxI)], .mp (encM strN A2strN.d b200), .dead, .row 9 1 (List.map strN [zak,zak,zak]),(rW x30), .dead, .row 3 1 (List.map iN b3)]) λ (_,_,_,b3)=>(List.length b3,List.length b106_1)
instance zhX {b106_1 b100 b101 b102 x3 b100' b200 k2 x30 x128 x130 x131 x134 x136 n n3 v15 b3}:IsLp 2 3 (zaA b106_1 b100 b101 b102 x3 b100' b200 k2 x30 x128 x130 x131 x134 x136 n n3 v15 b3) (zbU b106_1 b100 b101 b102 x3 b100' b200 k2 x30 x128 x130 x131 x134 x136) (n,n3,v15,b3):=⟨rfl⟩
def zax (r4:Int->(List (ByteArray×RunM))->(List (ByteArray×A2strN))->Option (Bool))(N:Nat)(b106_1:LB)(b100:LS)(b101:LE)(b102:LC)(x3:LB)(k1:(List (ByteArray×RunM))->(List (ByteArray×A2strN))->Option (Bool))(v20:Int)(b100':List (ByteArray×RunM))(b200:List (ByteArray×A2strN)):Option (Bool) :=
 bif decide (v20<(List.length x3:Int)) then (zaN (za3 b106_1 b100 b101 b102 x3 v20 r4) λ k2 =>
 (ix x3 v20).bind λ x28 =>
 (f31 N x28).bind λ x29 =>
 (app 16 x29 [zak,zak,zak]).bind λ x30 =>
 (ix x30 (2:Int)).bind λ x31 =>
 (zoW x31 (b100')).bind λ x32 =>
 (ix x30 (0:Int)).bind λ x33 =>
 bif decide (x33=(strC [115,116,111,110,101])) then ((ix x30 (1:Int)).bind λ x34 =>
 (some (setK x34 (A2strN.mk x31 zak) b200)).bind λ x35 =>
 k2 (b100') x35)
 else (bif decide (x33=(strC [101,100,105,116,105,111,110])) then ((ix x30 (1:Int)).bind λ x36 =>
 (insF x36 (RunM.mk [] [] (0:Int) false []) (b100')).bind λ x37 =>
 k2 x37 b200)
 else (bif decide (x33=(strC [100,114,97,119])) then (onO x32 (some (false)) λ x38 =>
 (getF (b100') x38).bind λ x39 =>
 bif x39.closed then (some (false))
 else ((ix x30 (1:Int)).bind λ x40 =>
 (some (zaE (A2strN.mk zak zak) x40 b200)).bind λ x41 =>
 bif decide (x41.1.e0=zak) then (some (false))
 else ((some (zaE (A2strN.mk zak zak) x40 b200)).bind λ x42 =>
 bif decide (¬ x42.1.e1=zak) then (some (false))
 else ((some (zaE (A2strN.mk zak zak) x40 b200)).bind λ x43 =>
 (some (setK x40 (A2strN.mk x43.1.e0 x31) b200)).bind λ x44 =>
 (app 16 x39.stones [x40]).bind λ x45 =>
 (some (setF (b100') x38 ({ x39 with stones:=x45 }))).bind λ x46 =>
 k2 x46 x44))))
 else (bif decide (x33=(strC [112,97,112,101,114])) then ((ix x30 (1:Int)).bind λ x47 =>
 onO (zaq x47 (b100')) (some (false)) λ x48 =>
 (f49 N x31).bind λ x49 =>
 zbG b106_1 b100 b101 b102 x3 v20 b200 k2 x30 x47 x49 N (0:Int) (b100'))
 else (bif decide (x33=(strC [112,114,105,110,116])) then ((ix x30 (1:Int)).bind λ x54 =>
 (some (zaE (A2strN.mk zak zak) x54 b200)).bind λ x55 =>
 (zoW x55.1.e1 (b100')).bind λ x56 =>
 onO x56 (some (false)) λ x57 =>
 zaN (zbi N b106_1 b100 b101 b102 x3 v20 b100' b200 k2 x30 x31 x33 x54 x57) λ k3 =>
 (getF (b100') x57).bind λ x86 =>
 zc b106_1 b100 b101 b102 x3 v20 b100' b200 x30 x54 x57 k3 x86 N (-1:Int) (0:Int))
 else (bif decide (x33=(strC [103,114,105,110,100])) then ((ix x30 (1:Int)).bind λ x88 =>
 (some (zaE (A2strN.mk zak zak) x88 b200)).bind λ x89 =>
 (zoW x89.1.e1 (b100')).bind λ x90 =>
 onO x90 (some (false)) λ x91 =>
 zaN (za4 N b106_1 b100 b101 b102 x3 v20 b100' b200 k2 x30 x88 x91) λ k4 =>
 (getF (b100') x91).bind λ x100 =>
 zbN b106_1 b100 b101 b102 x3 v20 b100' b200 x30 x88 x91 k4 x100 N (-1:Int) (0:Int))
 else (bif decide (x33=(strC [99,108,111,115,101])) then ((ix x30 (1:Int)).bind λ x102 =>
 onO (zaq x102 (b100')) (some (false)) λ x103 =>
 (getF (b100') x103).bind λ x104 =>
 (some (setF (b100') x103 ({ x104 with closed:=true }))).bind λ x105 =>
 k2 x105 b200)
 else (bif decide (x33=(strC [99,108,97,105,109])) then (onO x32 (some (false)) λ x106 =>
 (ix x30 (3:Int)).bind λ x107 =>
 (f49 N x107).bind λ x108 =>
 bif decide (x33=(strC [100,101,108,105,118,101,114])) then ((getF (b100') x106).bind λ x109 =>
 (lnL x109.stones).bind λ x110 =>
 (f48 N x109 (x110:Int)).bind λ x111 =>
 bif decide (x111<x108) then (some (false))
 else ((ix x30 (1:Int)).bind λ x112 =>
 (some (zaE (0:Int) x112 x109.claims)).bind λ x113 =>
 (some ()).bind λ _ =>
 bif decide (x113.1<x108) then (some (false))
 else ((lnL x109.stones).bind λ x114 =>
 za5 b106_1 b100 b101 b102 x3 b100' b200 k2 x30 x106 x108 x109 x112 x114 N x108 (0:Int) x109.sheets)))
 else ((getF (b100') x106).bind λ x123 =>
 (ix x30 (1:Int)).bind λ x124 =>
 (some (zaE (0:Int) x124 x123.claims)).bind λ x125 =>
 (some (setK x124 (W (x125.1+x108)) x123.claims)).bind λ x126 =>
 (some (setF (b100') x106 ({ x123 with claims:=x126 }))).bind λ x127 =>
 k2 x127 b200))
 else (bif decide (x33=(strC [100,101,108,105,118,101,114])) then (onO x32 (some (false)) λ x128 =>
 (ix x30 (3:Int)).bind λ x129 =>
 (f49 N x129).bind λ x130 =>
 (getF (b100') x128).bind λ x131 =>
 (lnL x131.stones).bind λ x132 =>
 (f48 N x131 (x132:Int)).bind λ x133 =>
 bif decide (x133<x130) then (some (false))
 else ((ix x30 (1:Int)).bind λ x134 =>
 (some (zaE (0:Int) x134 x131.claims)).bind λ x135 =>
 (some ()).bind λ _ =>
 bif decide (x135.1<x130) then (some (false))
 else ((lnL x131.stones).bind λ x136 =>
 zaA b106_1 b100 b101 b102 x3 b100' b200 k2 x30 x128 x130 x131 x134 x136 N x130 (0:Int) x131.sheets)))
 else (some (false)))))))))))
 else (k1 (b100') b200)
def zbR (N:Nat)(b106_1:LB)(b100:LS)(b101:LE)(b102:LC)(x3:LB)(k1:(List (ByteArray×RunM))->(List (ByteArray×A2strN))->Option (Bool)):Nat->Int->(List (ByteArray×RunM))->(List (ByteArray×A2strN))->Option (Bool)
 | 0,_,_,_=>none
 | n+1,v20,b100',b200=>zax (zbR N b106_1 b100 b101 b102 x3 k1 n) N b106_1 b100 b101 b102 x3 k1 v20 b100' b200
def zgm (N:Nat)(b106_1:LB)(b100:LS)(b101:LE)(b102:LC)(x3:LB)(k1:(List (ByteArray×RunM))->(List (ByteArray×A2strN))->Option (Bool)):Lp (Nat×Int×(List (ByteArray×RunM))×(List (ByteArray×A2strN))) (Nat×Nat×Nat) (Bool):=lpm ⟨[5,6,18,19,20],[2501,90500,zxA,zxz,zxB,zxC,zxE,zxD,zxF],[],[]⟩ (λ (n,v20,b100',b200)=>zbR N b106_1 b100 b101 b102 x3 k1 n v20 b100' b200) (λ (_,v20,_,_) (m0,m1,_)=>[.mp zxD, .mp zxF, .rs 2501 m0, .dat (iN (m1:Int)), .dat (iN v20)]) (λ (_,_,b100',b200) (_,_,m2)=>[(rW x3),(rW b106_1),(sW [zxz] b100),(eW b101),(mW b102), .box [.mp zxA, .mp zxz, .mp zxB], .box [.ptr zxC 0, .rs 90500 m2], .fam [] (encF strN RunM.m (b100')) [], .mp (encM strN A2strN.d b200)]) λ (_,_,_,_)=>(List.length x3,List.length x3,List.length b106_1)
instance zuh {N b106_1 b100 b101 b102 x3 k1 n v20 b100' b200}:IsLp 3 3 (zbR N b106_1 b100 b101 b102 x3 k1 n v20 b100' b200) (zgm N b106_1 b100 b101 b102 x3 k1) (n,v20,b100',b200):=⟨rfl⟩
def zel (a1:Int)(N:Nat)(b106_1:LB)(b100:LS)(b101:LE)(b102:LC):Option (Bool) :=
 (f27 N ).bind λ x1 =>
 (f50 N x1 a1).bind λ x2 =>
 (f21 N b106_1 b100 b101 b102).bind λ x3 =>
 zaN (zbs N b106_1 b100 b101 b102 x2 x3) λ k1 =>
 zbR N b106_1 b100 b101 b102 x3 k1 N (0:Int) [] []
def zjV (a1:Int)(N:Nat):Lp (LB×LS×LE×LC) (Nat×Unit) (Bool):=lpm ⟨[1,5],[90500,zxA,zxz,zxB,zxC,zxE],[(.cell zxE 1,90500,9,1)],[]⟩ (λ (b106_1,b100,b101,b102)=>zel a1 N b106_1 b100 b101 b102) (λ (_,_,_,_) (_,_)=>[.dat (u8N a1), .ptr zxE 0]) (λ (b106_1,b100,b101,b102) (m0,_)=>[(rW b106_1),(sW [zxz] b100),(eW b101),(mW b102), .box [.mp zxA, .mp zxz, .mp zxB], .box [.ptr zxC 0, .rs 90500 m0]]) λ (b106_1,_,_,_)=>(List.length b106_1,())
instance Ef12_c24 {a1 N b106_1 b100 b101 b102}:IsLp 1 4 (zel a1 N b106_1 b100 b101 b102) (zjV a1 N) (b106_1,b100,b101,b102):=⟨rfl⟩
instance Cf12_c24 {a1 N}:IsCut 4 (zel a1 N) (zjV a1 N) 24:=⟨⟩
def zem (a1:Int)(x145:LB)(v33:Int)(r3:Int->LB->LS->LE->LC->Option (Bool))(b106_1':LB)(b100':LS)(b101':LE)(b102':LC):Option (Bool) :=
 r3 (W (v33+(1:Int))) (b106_1') (b100') (b101') (b102')
def zjW (a1:Int)(x145:LB)(v33:Int)(r3:Int->LB->LS->LE->LC->Option (Bool)):Lp (LB×LS×LE×LC) (Nat×Nat) (Bool):=lpm ⟨[1,5,31,32,33],[90500,zxA,zxz,zxB,zxC,zxE],[(.cell zxE 1,90500,9,1)],[]⟩ (λ (b106_1',b100',b101',b102')=>zem a1 x145 v33 r3 b106_1' b100' b101' b102') (λ (_,_,_,_) (m0,_)=>[.dat (u8N a1), .ptr zxE 0, .dat (zaC x145), .dat (iN (m0:Int)), .dat (iN v33)]) (λ (b106_1',b100',b101',b102') (_,m1)=>[(rW b106_1'),(sW [zxz] b100'),(eW b101'),(mW b102'), .box [.mp zxA, .mp zxz, .mp zxB], .box [.ptr zxC 0, .rs 90500 m1]]) λ (b106_1',_,_,_)=>(List.length x145,List.length (b106_1'))
instance Ef12_c23 {a1 x145 v33 r3 b106_1' b100' b101' b102'}:IsLp 2 4 (zem a1 x145 v33 r3 b106_1' b100' b101' b102') (zjW a1 x145 v33 r3) (b106_1',b100',b101',b102'):=⟨rfl⟩
instance Cf12_c23 {a1 x145 v33 r3}:IsCut 4 (zem a1 x145 v33 r3) (zjW a1 x145 v33 r3) 23:=⟨⟩
def zf1 (r17:Int->Option (Bool))(a1:Int)(N:Nat)(x145:LB)(v33:Int)(k6:LB->LS->LE->LC->Option (Bool))(b500:List Int)(x147:Int×LS×LE×LC×LB)(v12:Int)(x150:LB)(v71:Int):Option (Bool) :=
 bif decide (v71<(List.length x150:Int)) then ((ix x150 v71).bind λ x151 =>
 (f40 N x151 x147.2.2.2.2 x147.2.1 x147.2.2.1 x147.2.2.2.1).bind λ x152 =>
 (chkI 2 v71).bind λ _ =>
 (ixN b500 (Int.toNat v71)).bind λ x153 =>
 bif decide ((W (x153+v12))<x152.1) then (some (false))
 else (bif decide (x152.1<(0:Int)) then (some (false))
 else (r17 (W (v71+(1:Int))))))
 else (k6 x147.2.2.2.2 x147.2.1 x147.2.2.1 x147.2.2.2.1)
def zgn (a1:Int)(N:Nat)(x145:LB)(v33:Int)(k6:LB->LS->LE->LC->Option (Bool))(b500:List Int)(x147:Int×LS×LE×LC×LB)(v12:Int)(x150:LB):Nat->Int->Option (Bool)
 | 0,_=>none
 | n+1,v71=>zf1 (zgn a1 N x145 v33 k6 b500 x147 v12 x150 n) a1 N x145 v33 k6 b500 x147 v12 x150 v71
def zri (a1:Int)(N:Nat)(x145:LB)(v33:Int)(k6:LB->LS->LE->LC->Option (Bool))(b500:List Int)(x147:Int×LS×LE×LC×LB)(v12:Int)(x150:LB):Lp (Nat×Int) (Nat×Nat×Nat) (Bool):=lpm ⟨[1,5,8,12,31,32,33,69,70,71],[500,1102,zxA,zxz,zxB,zxC,zxE],[],[]⟩ (λ (n,v71)=>zgn a1 N x145 v33 k6 b500 x147 v12 x150 n v71) (λ (_,v71) (m0,m1,_)=>[.dat (u8N a1), .ptr zxE 0, .ptr 500 0, .dat (iN v12), .dat (zaC x145), .dat (iN (m0:Int)), .dat (iN v33), .dat (zaC x150), .dat (iN (m1:Int)), .dat (iN v71)]) (λ (_,_) (_,_,m2)=>[.arr (List.map iN b500),(rW x147.2.2.2.2),(sW [zxz] x147.2.1),(eW x147.2.2.1),(mW x147.2.2.2.1), .box [.mp zxA, .mp zxz, .mp zxB], .box [.ptr zxC 0, .rs 1102 m2]]) λ (_,_)=>(List.length x145,List.length x150,List.length x147.2.2.2.2)
instance Ef12_17 {a1 N x145 v33 k6 b500 x147 v12 x150 n v71}:IsLp 3 1 (zgn a1 N x145 v33 k6 b500 x147 v12 x150 n v71) (zri a1 N x145 v33 k6 b500 x147 v12 x150) (n,v71):=⟨rfl⟩
def ze2 (a1:Int)(N:Nat)(x145:LB)(v33:Int)(k6:LB->LS->LE->LC->Option (Bool))(b500:List Int)(x147:Int×LS×LE×LC×LB)(v12:Int):Option (Bool) :=
 (f28 N ).bind λ x150 =>
 zgn a1 N x145 v33 k6 b500 x147 v12 x150 N (0:Int)
def zjX (a1:Int)(N:Nat)(x145:LB)(v33:Int)(k6:LB->LS->LE->LC->Option (Bool))(b500:List Int)(x147:Int×LS×LE×LC×LB):Lp (Int) (Nat×Nat) (Bool):=lpm ⟨[1,5,8,12,31,32,33],[500,1102,zxA,zxz,zxB,zxC,zxE],[],[]⟩ (λ v12=>ze2 a1 N x145 v33 k6 b500 x147 v12) (λ v12 (m0,_)=>[.dat (u8N a1), .ptr zxE 0, .ptr 500 0, .dat (iN v12), .dat (zaC x145), .dat (iN (m0:Int)), .dat (iN v33)]) (λ _ (_,m1)=>[.arr (List.map iN b500),(rW x147.2.2.2.2),(sW [zxz] x147.2.1),(eW x147.2.2.1),(mW x147.2.2.2.1), .box [.mp zxA, .mp zxz, .mp zxB], .box [.ptr zxC 0, .rs 1102 m1]]) λ _=>(List.length x145,List.length x147.2.2.2.2)
instance Ef12_c16 {a1 N x145 v33 k6 b500 x147 v12}:IsLp 2 1 (ze2 a1 N x145 v33 k6 b500 x147 v12) (zjX a1 N x145 v33 k6 b500 x147) v12:=⟨rfl⟩
instance Cf12_c16 {a1 N x145 v33 k6 b500 x147}:IsCut 1 (ze2 a1 N x145 v33 k6 b500 x147) (zjX a1 N x145 v33 k6 b500 x147) 16:=⟨⟩
def zf2 (a1:Int)(N:Nat)(x145:LB)(v33:Int)(b106_1:LB)(b100:LS)(b101:LE)(b102:LC)(k6:LB->LS->LE->LC->Option (Bool))(x146:ByteArray)(b500:List Int):Option (Bool) :=
 (f18 N x146 b106_1 b100 b101 b102).bind λ x147 =>
 bif decide (¬ x147.1=(0:Int)) then (k6 x147.2.2.2.2 x147.2.1 x147.2.2.1 x147.2.2.2.1)
 else ((f31 N x146).bind λ x148 =>
 (app 16 x148 [zak,zak,zak]).bind λ x149 =>
 zaN (ze2 a1 N x145 v33 k6 b500 x147) λ k7 =>
 (ix x149 (0:Int)).bind λ x154 =>
 bif decide (x154=(strC [112,114,105,110,116])) then ((ix x149 (3:Int)).bind λ x155 =>
 (f49 N x155).bind λ x156 =>
 k7 x156)
 else (k7 (0:Int)))
def zjY (a1:Int)(N:Nat)(x145:LB)(v33:Int)(b106_1:LB)(b100:LS)(b101:LE)(b102:LC)(k6:LB->LS->LE->LC->Option (Bool))(x146:ByteArray):Lp ((List Int)) (Nat×Nat) (Bool):=lpm ⟨[1,5,7,8,31,32,33],[500,90500,zxA,zxz,zxB,zxC,zxE],[],[]⟩ (λ b500=>zf2 a1 N x145 v33 b106_1 b100 b101 b102 k6 x146 b500) (λ _ (m0,_)=>[.dat (u8N a1), .ptr zxE 0, .dat (strN x146), .ptr 500 0, .dat (zaC x145), .dat (iN (m0:Int)), .dat (iN v33)]) (λ b500 (_,m1)=>[.arr (List.map iN b500),(rW b106_1),(sW [zxz] b100),(eW b101),(mW b102), .box [.mp zxA, .mp zxz, .mp zxB], .box [.ptr zxC 0, .rs 90500 m1]]) λ _=>(List.length x145,List.length b106_1)
instance Ef12_c11 {a1 N x145 v33 b106_1 b100 b101 b102 k6 x146 b500}:IsLp 2 1 (zf2 a1 N x145 v33 b106_1 b100 b101 b102 k6 x146 b500) (zjY a1 N x145 v33 b106_1 b100 b101 b102 k6 x146) b500:=⟨rfl⟩
instance Cf12_c11 {a1 N x145 v33 b106_1 b100 b101 b102 k6 x146}:IsCut 1 (zf2 a1 N x145 v33 b106_1 b100 b101 b102 k6 x146) (zjY a1 N x145 v33 b106_1 b100 b101 b102 k6 x146) 11:=⟨⟩
def zhQ (a1:Int)(N:Nat)(x145:LB)(v33:Int)(b106_1:LB)(b100:LS)(b101:LE)(b102:LC)(x146:ByteArray)(x157:LB)(v39:Int)(b500:List Int)(r7:Int->(List Int)->Option (Bool))(v10:ByteArray):Option (Bool) :=
 (f40 N v10 b106_1 b100 b101 b102).bind λ x158 =>
 (chkI 2 v39).bind λ _ =>
 (setN b500 (Int.toNat v39) x158.1).bind λ x159 =>
 r7 (W (v39+(1:Int))) x159
def zm2 (a1:Int)(N:Nat)(x145:LB)(v33:Int)(b106_1:LB)(b100:LS)(b101:LE)(b102:LC)(x146:ByteArray)(x157:LB)(v39:Int)(b500:List Int)(r7:Int->(List Int)->Option (Bool)):Lp (ByteArray) (Nat×Nat×Nat) (Bool):=lpm ⟨[1,5,7,8,9,10,31,32,33,37,38,39],[500,90500,zxA,zxz,zxB,zxC,zxE],[],[]⟩ (λ v10=>zhQ a1 N x145 v33 b106_1 b100 b101 b102 x146 x157 v39 b500 r7 v10) (λ v10 (m0,m1,_)=>[.dat (u8N a1), .ptr zxE 0, .dat (strN x146), .ptr 500 0, .dat (iN v39), .dat (strN v10), .dat (zaC x145), .dat (iN (m0:Int)), .dat (iN v33), .dat (zaC x157), .dat (iN (m1:Int)), .dat (iN v39)]) (λ _ (_,_,m2)=>[.arr (List.map iN b500),(rW b106_1),(sW [zxz] b100),(eW b101),(mW b102), .box [.mp zxA, .mp zxz, .mp zxB], .box [.ptr zxC 0, .rs 90500 m2]]) λ _=>(List.length x145,List.length x157,List.length b106_1)
instance Ef12_c9 {a1 N x145 v33 b106_1 b100 b101 b102 x146 x157 v39 b500 r7 v10}:IsLp 3 1 (zhQ a1 N x145 v33 b106_1 b100 b101 b102 x146 x157 v39 b500 r7 v10) (zm2 a1 N x145 v33 b106_1 b100 b101 b102 x146 x157 v39 b500 r7) v10:=⟨rfl⟩
instance Cf12_c9 {a1 N x145 v33 b106_1 b100 b101 b102 x146 x157 v39 b500 r7}:IsCut 1 (zhQ a1 N x145 v33 b106_1 b100 b101 b102 x146 x157 v39 b500 r7) (zm2 a1 N x145 v33 b106_1 b100 b101 b102 x146 x157 v39 b500 r7) 9:=⟨⟩
def zgo (r7:Int->(List Int)->Option (Bool))(a1:Int)(N:Nat)(x145:LB)(v33:Int)(b106_1:LB)(b100:LS)(b101:LE)(b102:LC)(x146:ByteArray)(k8:(List Int)->Option (Bool))(x157:LB)(v39:Int)(b500:List Int):Option (Bool) :=
 bif decide (v39<(List.length x157:Int)) then (zaN (zhQ a1 N x145 v33 b106_1 b100 b101 b102 x146 x157 v39 b500 r7) λ k9 =>
 (ix x157 v39).bind λ x160 =>
 k9 x160)
 else (k8 b500)
def zm3 (a1:Int)(N:Nat)(x145:LB)(v33:Int)(b106_1:LB)(b100:LS)(b101:LE)(b102:LC)(x146:ByteArray)(k8:(List Int)->Option (Bool))(x157:LB):Nat->Int->(List Int)->Option (Bool)
 | 0,_,_=>none
 | n+1,v39,b500=>zgo (zm3 a1 N x145 v33 b106_1 b100 b101 b102 x146 k8 x157 n) a1 N x145 v33 b106_1 b100 b101 b102 x146 k8 x157 v39 b500
def zui (a1:Int)(N:Nat)(x145:LB)(v33:Int)(b106_1:LB)(b100:LS)(b101:LE)(b102:LC)(x146:ByteArray)(k8:(List Int)->Option (Bool))(x157:LB):Lp (Nat×Int×(List Int)) (Nat×Nat×Nat) (Bool):=lpm ⟨[1,5,7,8,31,32,33,37,38,39],[500,90500,zxA,zxz,zxB,zxC,zxE],[],[]⟩ (λ (n,v39,b500)=>zm3 a1 N x145 v33 b106_1 b100 b101 b102 x146 k8 x157 n v39 b500) (λ (_,v39,_) (m0,m1,_)=>[.dat (u8N a1), .ptr zxE 0, .dat (strN x146), .ptr 500 0, .dat (zaC x145), .dat (iN (m0:Int)), .dat (iN v33), .dat (zaC x157), .dat (iN (m1:Int)), .dat (iN v39)]) (λ (_,_,b500) (_,_,m2)=>[.arr (List.map iN b500),(rW b106_1),(sW [zxz] b100),(eW b101),(mW b102), .box [.mp zxA, .mp zxz, .mp zxB], .box [.ptr zxC 0, .rs 90500 m2]]) λ (_,_,_)=>(List.length x145,List.length x157,List.length b106_1)
instance Ef12_7 {a1 N x145 v33 b106_1 b100 b101 b102 x146 k8 x157 n v39 b500}:IsLp 3 2 (zm3 a1 N x145 v33 b106_1 b100 b101 b102 x146 k8 x157 n v39 b500) (zui a1 N x145 v33 b106_1 b100 b101 b102 x146 k8 x157) (n,v39,b500):=⟨rfl⟩
def ziP (r3:Int->LB->LS->LE->LC->Option (Bool))(a1:Int)(N:Nat)(k5:LB->LS->LE->LC->Option (Bool))(x145:LB)(v33:Int)(b106_1:LB)(b100:LS)(b101:LE)(b102:LC):Option (Bool) :=
 bif decide (v33<(List.length x145:Int)) then (zaN (zem a1 x145 v33 r3) λ k6 =>
 (ix x145 v33).bind λ x146 =>
 zaN (zf2 a1 N x145 v33 b106_1 b100 b101 b102 k6 x146) λ k8 =>
 (f28 N ).bind λ x157 =>
 zm3 a1 N x145 v33 b106_1 b100 b101 b102 x146 k8 x157 N (0:Int) (List.replicate 2 (0:Int)))
 else (k5 b106_1 b100 b101 b102)
def zo8 (a1:Int)(N:Nat)(k5:LB->LS->LE->LC->Option (Bool))(x145:LB):Nat->Int->LB->LS->LE->LC->Option (Bool)
 | 0,_,_,_,_,_=>none
 | n+1,v33,b106_1,b100,b101,b102=>ziP (zo8 a1 N k5 x145 n) a1 N k5 x145 v33 b106_1 b100 b101 b102
def zuj (a1:Int)(N:Nat)(k5:LB->LS->LE->LC->Option (Bool))(x145:LB):Lp (Nat×Int×LB×LS×LE×LC) (Nat×Nat) (Bool):=lpm ⟨[1,5,31,32,33],[90500,zxA,zxz,zxB,zxC,zxE],[(.cell zxE 1,90500,9,1)],[]⟩ (λ (n,v33,b106_1,b100,b101,b102)=>zo8 a1 N k5 x145 n v33 b106_1 b100 b101 b102) (λ (_,v33,_,_,_,_) (m0,_)=>[.dat (u8N a1), .ptr zxE 0, .dat (zaC x145), .dat (iN (m0:Int)), .dat (iN v33)]) (λ (_,_,b106_1,b100,b101,b102) (_,m1)=>[(rW b106_1),(sW [zxz] b100),(eW b101),(mW b102), .box [.mp zxA, .mp zxz, .mp zxB], .box [.ptr zxC 0, .rs 90500 m1]]) λ (_,_,b106_1,_,_,_)=>(List.length x145,List.length b106_1)
instance Ef12_3 {a1 N k5 x145 n v33 b106_1 b100 b101 b102}:IsLp 2 5 (zo8 a1 N k5 x145 n v33 b106_1 b100 b101 b102) (zuj a1 N k5 x145) (n,v33,b106_1,b100,b101,b102):=⟨rfl⟩
def f12 (N:Nat)(a0:List A4u8N)(a1:Int):Option (Bool) :=
 zaN (zel a1 N) λ k5 =>
 (f26 N a0).bind λ x145 =>
 zo8 a1 N k5 x145 N (0:Int) [] [] [] []
def G12 (ds:List D)(d:D):Prop:=∃ (N:Nat) (a0:List A4u8N) (a1:Int) (r:Bool),ds=[zd0 a0,u8N a1]/\f12 N a0 a1=some r/\d=bN r

end Go.Vc
namespace Go.Vc
open Go.Proofs
set_option maxRecDepth 20000 in
theorem wk2 {P:Prop}(h:P:=by repeat' (first
  | ((with_reducible first|refine q0 _ _ ?_|refine q1 _ _ _ _ ?_|refine q2 _ _ _ ?_);clear Q q0 q1 q2)
  | ((with_reducible first|refine zd6 ?hx (λ Q q0 q1 q2=>?_)|refine zea ?hx (λ Q q0 q1 q2=>?_)|refine zdK ?hx (λ Q q0 q1 q2=>?_)|refine zfd ?hx (λ Q q0 q1 q2=>?_));(case hx=>exact rfl);conv=>whnf)
  | ((with_reducible refine zdu ?_);(first|((refine zeF rfl ?hy ?_);(case hy=>first|assumption|exact notT (by assumption)|exact rfl))|((refine zeG rfl ?hy ?_);(case hy=>first|assumption|exact notF (by assumption)|exact rfl))|(revert hF;(with_reducible refine zic ?hx ?_ ?_);(case hx=>exact rfl);all_goals (intro hc hF))))
  | ((with_reducible refine zcJ ?_);(first|((with_reducible refine hR _ ?_);clear R hR)|((with_reducible refine hL _ ?_);clear L hL)))
  | ((with_reducible refine zcO ?_);(with_reducible refine hR _ _ ?hx ?_);(case hx=>kernel_rfl);clear R hR)
  | ((with_reducible first|refine zcR ?_|refine zdn ?_|refine idx2 (by assumption) ?_|refine idx3 (by assumption) ?_);conv=>whnf)
  | (with_reducible first|refine zcf ?_|refine zcI ?_|refine zd5 ?_|refine zcZ ?_|refine zbK (λ R hR=>?_)|refine zbJ ?_|refine zby ?_|refine zh0 ?_|refine zbW ?_|refine zbM ?_|refine zcU ?_|refine zcv ?_|refine zr5 ?_|refine zr4 ?_)
  | ((with_reducible refine zdI ?hx (λ R L hL hR=>?_));(case hx=>exact rfl))
  | ((with_reducible replace hF:=isE hF);(dsimp only[zht,znR,zhv,zjD,zqK,zhu,zlq,zhx,zhy,zqM,zqO,zlr,zls,zmT,zt7,zqV,zhE,zhF,znV,zq0,zhG,zlD,zjQ,zr,zlH,zjR,zrb,zmZ,zuc,zlI,zrc,zjS,zue,zrd] at hF);first|rewrite[zfv] at hF|rewrite[znQ] at hF|rewrite[zfw] at hF|rewrite[zhw] at hF|rewrite[zqJ] at hF|rewrite[zfx] at hF|rewrite[zfy] at hF|rewrite[zqL] at hF|rewrite[zqN] at hF|rewrite[zlv] at hF|rewrite[zt6] at hF|rewrite[zfz] at hF|rewrite[zfA] at hF|rewrite[znU] at hF|rewrite[zqZ] at hF|rewrite[zhM] at hF|rewrite[zq9] at hF|rewrite[zhN] at hF|rewrite[zra] at hF|rewrite[zlJ] at hF|rewrite[zub] at hF|rewrite[zhO] at hF|rewrite[zud] at hF)
  | ((with_reducible refine zeX ?_);first|((with_reducible replace hF:=toLp 0 2 hF);exact Lp.backI hF () ⟨_,rfl,rfl,rfl,rfl⟩ rfl)|((with_reducible replace hF:=toLp 0 4 hF);exact Lp.backI hF () ⟨_,rfl,rfl,rfl,rfl⟩ rfl)|((with_reducible replace hF:=toLp 1 2 hF);exact Lp.backI hF (_,()) ⟨_,rfl,rfl,rfl,rfl⟩ (pr2 (by first|exact rfl|assumption|omega|(simp only[List.length_set];done)) rfl))|((with_reducible replace hF:=toLp 1 3 hF);exact Lp.backI hF (_,()) ⟨_,rfl,rfl,rfl,rfl⟩ (pr2 (by first|exact rfl|assumption|omega|(simp only[List.length_set];done)) rfl))|((with_reducible replace hF:=toLp 3 2 hF);exact Lp.backI hF (_,_,_) ⟨_,rfl,rfl,rfl,rfl⟩ (pr2 (by first|exact rfl|assumption|omega|(simp only[List.length_set];done)) (pr2 (by first|exact rfl|assumption|omega|(simp only[List.length_set];done)) (by first|exact rfl|assumption|omega|(simp only[List.length_set];done))))))
  | ((with_reducible refine zcL ?_);first|((with_reducible replace hF:=toLp 0 1 hF);exact Lp.headI hF () ⟨_,rfl,rfl,rfl,rfl⟩ rfl)|((with_reducible replace hF:=toLp 1 1 hF);exact Lp.headI hF (_,()) ⟨_,rfl,rfl,rfl,rfl⟩ (pr2 (by first|exact rfl|assumption|omega|(simp only[List.length_set];done)) rfl))|((with_reducible replace hF:=toLp 1 2 hF);exact Lp.headI hF (_,()) ⟨_,rfl,rfl,rfl,rfl⟩ (pr2 (by first|exact rfl|assumption|omega|(simp only[List.length_set];done)) rfl))|((with_reducible replace hF:=toLp 2 1 hF);exact Lp.headI hF (_,_) ⟨_,rfl,rfl,rfl,rfl⟩ (pr2 (by first|exact rfl|assumption|omega|(simp only[List.length_set];done)) (by first|exact rfl|assumption|omega|(simp only[List.length_set];done)))))
  | ((with_reducible refine zeW ?_);first|((with_reducible replace hF:=toLp 0 2 hF);((refine Lp.loopI hF () rfl ⟨_,rfl,rfl,rfl,rfl⟩ rfl (λ _=>rfl) ?_);clear hF);(rintro n ⟨_,_⟩ hF))|((with_reducible replace hF:=toLp 0 4 hF);((refine Lp.loopI hF () rfl ⟨_,rfl,rfl,rfl,rfl⟩ rfl (λ _=>rfl) ?_);clear hF);(rintro n ⟨_,_,_,_⟩ hF))|((with_reducible replace hF:=toLp 1 2 hF);((refine Lp.loopI hF (_,()) rfl ⟨_,rfl,rfl,rfl,rfl⟩ (pr2 (by first|exact rfl|assumption|omega|(simp only[List.length_set];done)) rfl) (λ _=>rfl) ?_);clear hF);(rintro n ⟨_,_⟩ hF))|((with_reducible replace hF:=toLp 1 3 hF);((refine Lp.loopI hF (_,()) rfl ⟨_,rfl,rfl,rfl,rfl⟩ (pr2 (by first|exact rfl|assumption|omega|(simp only[List.length_set];done)) rfl) (λ _=>rfl) ?_);clear hF);(rintro n ⟨_,_,_⟩ hF))|((with_reducible replace hF:=toLp 3 2 hF);((refine Lp.loopI hF (_,_,_) rfl ⟨_,rfl,rfl,rfl,rfl⟩ (pr2 (by first|exact rfl|assumption|omega|(simp only[List.length_set];done)) (pr2 (by first|exact rfl|assumption|omega|(simp only[List.length_set];done)) (by first|exact rfl|assumption|omega|(simp only[List.length_set];done)))) (λ _=>rfl) ?_);clear hF);(rintro n ⟨_,_⟩ hF)))
  | ((with_reducible refine zc7 ?_);first|((with_reducible replace hF:=zeV 1 hF);((refine Lp.cutI hF rfl rfl ?_ ?_) <;> clear hF);(intro hF);rotate_left;(rintro _ hF);rotate_right)|((with_reducible replace hF:=zeV 2 hF);((refine Lp.cutI hF rfl rfl ?_ ?_) <;> clear hF);(intro hF);rotate_left;(rintro⟨_,_⟩ hF);rotate_right))
  | ((with_reducible refine zcK [] ?hx ?_);(case hx=>exact rfl))
  | with_reducible refine zhl ?_
  | ((with_reducible have hJ:=isB hF);clear hJ;revert hF;(with_reducible first|refine G117.lend ?hx ?_|refine G148.lend ?hx ?_|refine G116.lend ?hx ?_|refine G118.lend ?hx ?_|refine G83.step ?hx ?_|refine G84.step ?hx ?_|refine G30.lend ?hx ?_|refine G57.lend ?hx ?_);(case hx=>exact rfl);intro v hF;conv=>whnf)
  | (revert hF;(refine zuU (d:=iN) ?hz ?_);(case hz=>exact rfl);intro x hF;conv=>whnf)
  | (revert hF;(refine zsL (d:=iN) ?_);intro x hF;conv=>whnf)
  | ((with_reducible refine Or.inr ?_);(conv=>whnf);(with_reducible refine zqm (.bool false) ?hg ?_);(case hg=>exact rfl);(with_reducible refine zfU (List.map bN (List.replicate 10 false)) ?hx ?_);(case hx=>(unfold ziZ;kernel_rfl));conv=>whnf)
  | (revert hF;(refine zuV (d:=iN) ?hz ?_);(case hz=>exact rfl);intro x hF;conv=>whnf)
  | (cases hF;(refine Or.inl ?_);(conv=>whnf);exact⟨rfl,rfl,rfl⟩)
  | ((refine zqk (d:=iN) (by assumption) ?_);conv=>whnf)
  | ((with_reducible refine zmG hF ?_);(clear hF;intro hF;conv=>whnf))
  | ((with_reducible have hI:=zqB hF);clear hI;revert hF;(refine zkZ ?_);intro x hF;conv=>whnf)
  | ((with_reducible have hG:=zfq hF);clear hF;(refine zuW (d:=iN) hG ?hn ?ho (λ q hl hF=>?_));(case hn=>first|exact rfl|assumption|omega);(case ho=>(rintro p h;first|cases h;done|(cases h;rfl)));clear hG;conv=>whnf)
  | ((with_reducible have hG:=zju hF);clear hF;(first|(refine zmH hG (by(try simp only[W]);omega) (λ x hF=>?_))|(refine zmI hG (λ _=>rfl) (by(try simp only[W]);omega) (λ x hF=>?_)));clear hG;conv=>whnf)
  | ((with_reducible have hI:=zu4 hF);clear hI;revert hF;(refine zqi ?_);intro x hF;conv=>whnf)
  | ((refine zsM (e:=zbn) (d:=iN) (λ _=>rfl) ?hn ?_);(case hn=>first|exact rfl|assumption|omega);conv=>whnf)
  | ((with_reducible have hG:=zhg hF);clear hF;(first|(refine zjv hG (by(try simp only[W]);omega) rfl rfl (λ q hF=>?_))|(refine zjx hG (λ _=>rfl) (by(try simp only[W]);omega) rfl rfl (λ q hF=>?_)));clear hG;conv=>whnf)
  | ((with_reducible have hI:=zmL hF);clear hI;revert hF;(refine zhf ?_);intro x hF;conv=>whnf)
  | (revert hF;(refine zkY ?_);intro x hF;conv=>whnf)
  | ((with_reducible have hI:=zqA hF);clear hI;revert hF;(refine zmF ?_);intro x hF;conv=>whnf)
  | ((with_reducible have hI:=ztZ hF);clear hI;revert hF;(refine zsZ ?hn ?_);(case hn=>first|exact rfl|omega);intro hF;conv=>whnf)
  | ((with_reducible have hI:=zu3 hF);clear hI;revert hF;(first|refine zqy (λ _ h=>h) ?_|refine zoZ ?_);intro x hF;conv=>whnf)
  | ((with_reducible have hI:=ztZ hF);clear hI;revert hF;(refine zsY ?hn ?_);(case hn=>first|exact rfl|assumption|omega);intro hF;conv=>whnf)
  | ((with_reducible first|refine zeH ?hx ?_|refine zdJ ?hx ?_|refine zgt ?hx ?_|refine zfe ?hx ?_|refine zcD ?hx ?_|refine zdh ?hx ?_);(case hx=>exact rfl))
  | (revert hF;(with_reducible refine idx1 ?hn ?_);(case hn=>first|exact rfl|exact(List.length_map _)|assumption|omega|simp);intro x hx hF;conv=>whnf)
  | ((with_reducible refine zfs ?_);(first|((first|refine zeY rfl ?hy (λ Q q0 q1 q2=>?_)|refine zdX rfl ?hy (λ Q q0 q1 q2=>?_));(case hy=>first|assumption|exact notT (by assumption)|exact rfl);conv=>whnf)|((first|refine zdW rfl ?hy ?_|refine zc9 rfl ?hy ?_);(case hy=>first|assumption|exact notF (by assumption)|exact rfl))|(revert hF;(with_reducible first|refine zeZ ?hx ?_ ?_|refine zdY ?hx ?_ ?_);(case hx=>exact rfl);(intro hc hF Q q0 q1 q2;conv=>whnf);rotate_left;(intro hc hF);rotate_right)|(revert hF;(with_reducible first|refine ze0 ?hx ?_ ?_|refine zdZ ?hx ?_ ?_);(case hx=>exact rfl);(intro hc hF);rotate_left;(intro hc hF Q q0 q1 q2;conv=>whnf);rotate_right)))
  | ((with_reducible have hG:=zqf hF);clear hF;(refine Or.inl (Or.inl ?_));(conv=>whnf);(refine zmE hG ?hn (λ q hF=>?_);(case hn=>first|exact rfl|assumption|omega));clear hG;conv=>whnf)
  | ((with_reducible have hG:=zdo hF);clear hF;(first|((refine zdU hG ?hn ?hs (λ q hF=>?_));(case hn=>first|exact rfl|assumption|omega);(case hs=>exact rfl))|((refine zdT (d:=strN) hG ?hs (λ q hF=>?_));(case hs=>exact rfl))|((refine zdV (d:=strN) hG ?ho ?hn ?hs (λ q hF=>?_));(case ho=>exact rfl);(case hn=>exact rfl);(case hs=>exact rfl)));clear hG;conv=>whnf)
  | ((with_reducible have hG:=zdo hF);clear hF;(first|((refine zdU hG ?hn ?hs (λ q hF=>?_));(case hn=>first|exact rfl|assumption|omega);(case hs=>exact rfl))|((refine zdT (d:=u8N) hG ?hs (λ q hF=>?_));(case hs=>exact rfl))|((refine zdV (d:=u8N) hG ?ho ?hn ?hs (λ q hF=>?_));(case ho=>exact rfl);(case hn=>exact rfl);(case hs=>exact rfl)));clear hG;conv=>whnf)
  | ((with_reducible have hG:=zdo hF);clear hF;(first|((refine zdU hG ?hn ?hs (λ q hF=>?_));(case hn=>first|exact rfl|assumption|omega);(case hs=>exact rfl))|((refine zdT (d:=iN) hG ?hs (λ q hF=>?_));(case hs=>exact rfl))|((refine zdV (d:=iN) hG ?ho ?hn ?hs (λ q hF=>?_));(case ho=>exact rfl);(case hn=>exact rfl);(case hs=>exact rfl)));clear hG;conv=>whnf)
  | ((refine zeU ?hn ?_);(case hn=>first|exact rfl|(simp;done)|(simp;omega));conv=>whnf)
  | ((with_reducible refine zhi ?hn ?_);(case hn=>first|exact rfl|assumption|omega);conv=>whnf)
  | ((with_reducible have hG:=zfq hF);clear hF;(refine zhe hG ?hs (λ q hl hF=>?_));(case hs=>exact rfl);clear hG;conv=>whnf)
  | ((refine⟨?hx, ?_⟩);(case hx=>exact⟨rfl,Nat.le_of_ble_eq_true rfl,rfl⟩);conv=>whnf)
  | ((with_reducible refine zeS ?_);conv=>whnf)
  | ((with_reducible have hG:=znB hF);clear hF;(refine⟨?hx, ?_⟩);(case hx=>(first|exact of_decide_eq_true hG.1|exact hG.1));have hF:=hG.2;clear hG;conv=>whnf)
  | ((with_reducible refine zhj ?hx ?_);(case hx=>first|exact rfl|assumption|exact notT (by assumption));conv=>whnf)
  | ((with_reducible refine zgh ?hx ?_);(case hx=>first|exact rfl|assumption|exact notF (by assumption));conv=>whnf)
  | (revert hF;(with_reducible refine zbe ?_ ?_) <;> (intro hc hF;conv=>whnf))
  | ((refine zaw 901 902000000 rfl rfl (Nat.le_of_ble_eq_true rfl) rfl (λ R hR=>?_));(conv=>whnf);(with_reducible refine hR _ ?ha ?_);(case ha=>exact rfl);clear R hR)
  | ((refine zaw 1203 1204000000 rfl rfl (Nat.le_of_ble_eq_true rfl) rfl (λ R hR=>?_));(conv=>whnf);(with_reducible refine hR _ ?ha ?_);(case ha=>exact rfl);clear R hR)
  | ((refine zaw 1101 1102000000 rfl rfl (Nat.le_of_ble_eq_true rfl) rfl (λ R hR=>?_));(conv=>whnf);(with_reducible refine hR _ ?ha ?_);(case ha=>exact rfl);clear R hR)
  | ((refine zaw 1400 1401000000 rfl rfl (Nat.le_of_ble_eq_true rfl) rfl (λ R hR=>?_));(conv=>whnf);(with_reducible refine hR _ ?ha ?_);(case ha=>exact rfl);clear R hR)
  | ((refine zaw 1408 1409000000 rfl rfl (Nat.le_of_ble_eq_true rfl) rfl (λ R hR=>?_));(conv=>whnf);(with_reducible refine hR _ ?ha ?_);(case ha=>exact rfl);clear R hR)
  | ((refine zaw 1806 1807000000 rfl rfl (Nat.le_of_ble_eq_true rfl) rfl (λ R hR=>?_));(conv=>whnf);(with_reducible refine hR _ ?ha ?_);(case ha=>exact rfl);clear R hR)
  | ((refine zaw 2000 2001000000 rfl rfl (Nat.le_of_ble_eq_true rfl) rfl (λ R hR=>?_));(conv=>whnf);(with_reducible refine hR _ ?ha ?_);(case ha=>exact rfl);clear R hR)
  | (show Kinl _ _ _ _ _ _ _;conv=>whnf)
  | ((with_reducible refine zc8 ?ha ?hb ?_);(case ha=>exact rfl);(case hb=>exact rfl);conv=>whnf)
  | ((refine⟨?hx,trivial⟩);(case hx=>(cases hF;exact rfl)))
  | ((refine⟨?hx, ?_⟩);(case hx=>decide);conv=>whnf)
  | with_reducible refine zfK ?_
  | (have hF:(none:Option _)=some _:=hF;cases hF))):P:=h
set_option maxRecDepth 20000 in
theorem wk3 {P:Prop}(h:P:=by repeat' (first
  | ((with_reducible first|refine q0 _ _ ?_|refine q1 _ _ _ _ ?_|refine q2 _ _ _ ?_);clear Q q0 q1 q2)
  | ((with_reducible first|refine zd6 ?hx (λ Q q0 q1 q2=>?_));(case hx=>exact rfl);conv=>whnf)
  | ((with_reducible refine zcJ ?_);(first|((with_reducible refine hR _ ?_);clear R hR)|((with_reducible refine hL _ ?_);clear L hL)))
  | (with_reducible first|refine zcI ?_|refine zd5 ?_|refine zbK (λ R hR=>?_)|refine zbJ ?_)
  | ((with_reducible refine zcK [] ?hx ?_);(case hx=>exact rfl))
  | with_reducible refine zhl ?_
  | ((with_reducible have hJ:=isB hF);clear hJ;revert hF;(with_reducible first|refine G88.lend ?hx ?_|refine G61.lend ?hx ?_|refine G119.step ?hx ?_);(case hx=>exact rfl);intro v hF;conv=>whnf)
  | ((refine zeU ?hn ?_);(case hn=>first|exact rfl|(simp;done)|(simp;omega));conv=>whnf)
  | ((refine⟨?hx,trivial⟩);(case hx=>(cases hF;exact rfl)))
  | with_reducible refine zfK ?_)):P:=h
set_option maxRecDepth 20000 in
theorem wk4 {P:Prop}(h:P:=by repeat' (first
  | ((with_reducible first|refine q0 _ _ ?_|refine q1 _ _ _ _ ?_|refine q2 _ _ _ ?_);clear Q q0 q1 q2)
  | ((with_reducible first|refine zd6 ?hx (λ Q q0 q1 q2=>?_)|refine zdK ?hx (λ Q q0 q1 q2=>?_)|refine zea ?hx (λ Q q0 q1 q2=>?_)|refine zfd ?hx (λ Q q0 q1 q2=>?_));(case hx=>exact rfl);conv=>whnf)
  | ((with_reducible refine zdu ?_);(first|((refine zeF rfl ?hy ?_);(case hy=>first|assumption|exact notT (by assumption)|exact rfl))|((refine zeG rfl ?hy ?_);(case hy=>first|assumption|exact notF (by assumption)|exact rfl))|(revert hF;(with_reducible refine zic ?hx ?_ ?_);(case hx=>exact rfl);all_goals (intro hc hF))))
  | ((with_reducible refine zcJ ?_);(first|((with_reducible refine hR _ ?_);clear R hR)|((with_reducible refine hL _ ?_);clear L hL)))
  | ((with_reducible refine zcK [] ?hx ?_);(case hx=>exact rfl))
  | with_reducible refine zhl ?_
  | ((with_reducible refine zcO ?_);(with_reducible refine hR _ _ ?hx ?_);(case hx=>kernel_rfl);clear R hR)
  | (with_reducible first|refine zcI ?_|refine zd5 ?_|refine zbK (λ R hR=>?_)|refine zbJ ?_|refine zcf ?_|refine zcZ ?_|refine zby ?_|refine zh0 ?_|refine zbW ?_|refine zbM ?_)
  | ((with_reducible refine zdI ?hx (λ R L hL hR=>?_));(case hx=>exact rfl))
  | ((with_reducible have hJ:=isB hF);clear hJ;revert hF;(first|refine G51.step rfl rfl rfl rfl rfl rfl rfl (by first|exact rfl|assumption|omega|(simp only[List.length_set];done)) (by first|exact trivial|exact rfl) ?hn ?_);(case hn=>exact rfl);intro v hF;(obtain⟨v,ve⟩:=v);(try dsimp only at hF);(conv=>whnf))
  | ((with_reducible have hJ:=isB hF);clear hJ;revert hF;(first|refine G197.step rfl rfl rfl rfl rfl  (by first|exact trivial|exact rfl) ?hn ?_|refine G199.step rfl rfl rfl rfl rfl  (by first|exact trivial|exact rfl) ?hn ?_|refine G201.step rfl rfl rfl rfl rfl  (by first|exact trivial|exact rfl) ?hn ?_|refine G203.step rfl rfl rfl rfl rfl  (by first|exact trivial|exact rfl) ?hn ?_|refine G205.step rfl rfl rfl rfl rfl  (by first|exact trivial|exact rfl) ?hn ?_|refine G207.step rfl rfl rfl rfl rfl  (by first|exact trivial|exact rfl) ?hn ?_|refine G209.step rfl rfl rfl rfl rfl  (by first|exact trivial|exact rfl) ?hn ?_|refine G211.step rfl rfl rfl rfl rfl  (by first|exact trivial|exact rfl) ?hn ?_|refine G214.step rfl rfl rfl rfl rfl  (by first|exact trivial|exact rfl) ?hn ?_);(case hn=>exact rfl);intro v hF;conv=>whnf)
  | (cases hF;(refine Or.inl ?_);(conv=>whnf);exact⟨rfl,rfl,rfl⟩)
  | ((with_reducible have hG:=zhn hF);clear hF;(refine zho (eM:=StoneM.m) hG zbh ?hk ?hd ?he [.d default, .p 0 none, .d default] rfl ?_);(case hk=>exact λ _=>rfl);(case hd=>exact rfl);(case he=>exact rfl);(conv=>whnf);(refine⟨⟨rfl,rfl,(by decide)⟩, ?_⟩);(refine zmK hG rfl rfl rfl (λ q hq hF=>?_));clear hG;conv=>whnf)
  | ((with_reducible have hG:=zhn hF);clear hF;(refine zho (eM:=EditionM.m) hG zbh ?hk ?hd ?he [.d default, .d default, .r 3 1 [], .d default, .d default, .d default, .d default, .m [], .d default] rfl ?_);(case hk=>exact λ _=>rfl);(case hd=>exact rfl);(case he=>exact rfl);(conv=>whnf);(refine⟨⟨rfl,rfl,(by decide)⟩, ?_⟩);(refine zmK hG rfl rfl rfl (λ q hq hF=>?_));clear hG;conv=>whnf)
  | ((refine zeU ?hn ?_);(case hn=>first|exact rfl|(simp;done)|(simp;omega));conv=>whnf)
  | with_reducible refine zfK ?_
  | (have hF:(none:Option _)=some _:=hF;cases hF)
  | (revert hF;(refine I97.on_step ?_ ?_ ?_ ?_ ?_ ?_ ?_ ?_ ?_ ?_) <;> ((intros);(rename_i hx hF);(first|(cases hx;done)|(subst hx;(conv=>whnf))|(cases hx;(conv=>whnf))|(simp only[hx];(conv=>whnf)))))
  | ((with_reducible have hG:=zdo hF);clear hF;(first|((refine zdU hG ?hn ?hs (λ q hF=>?_));(case hn=>first|exact rfl|assumption|omega);(case hs=>exact rfl))|((refine zdT (d:=strN) hG ?hs (λ q hF=>?_));(case hs=>exact rfl))|((refine zdV (d:=strN) hG ?ho ?hn ?hs (λ q hF=>?_));(case ho=>exact rfl);(case hn=>exact rfl);(case hs=>exact rfl)));clear hG;conv=>whnf)
  | ((refine I97.fp (K:=λ x=>Q ⟨x,[]⟩ _) ?_);conv=>whnf)
  | ((refine I97.fp (K:=λ x=>mvPg x _ _ _ _) ?_);conv=>whnf))):P:=h
set_option maxRecDepth 20000 in
theorem wk5 {P:Prop}(h:P:=by repeat' (first
  | ((with_reducible first|refine q0 _ _ ?_|refine q1 _ _ _ _ ?_|refine q2 _ _ _ ?_);clear Q q0 q1 q2)
  | ((with_reducible first|refine zd6 ?hx (λ Q q0 q1 q2=>?_)|refine zdK ?hx (λ Q q0 q1 q2=>?_));(case hx=>exact rfl);conv=>whnf)
  | ((with_reducible refine zcO ?_);(with_reducible refine hR _ _ ?hx ?_);(case hx=>kernel_rfl);clear R hR)
  | ((with_reducible first|refine zcR ?_|refine idx2 (by assumption) ?_|refine idx3 (by assumption) ?_);conv=>whnf)
  | ((with_reducible refine zcK [] ?hx ?_);(case hx=>exact rfl))
  | with_reducible refine zhl ?_
  | (with_reducible first|refine zcf ?_|refine zcI ?_|refine zd5 ?_|refine zcZ ?_|refine zbK (λ R hR=>?_)|refine zbJ ?_|refine zby ?_|refine zh0 ?_|refine zbW ?_|refine zbM ?_)
  | ((with_reducible refine zdI ?hx (λ R L hL hR=>?_));(case hx=>exact rfl))
  | ((with_reducible have hJ:=isB hF);clear hJ;revert hF;(with_reducible first|refine G64.lend ?hx ?_|refine G132.lend ?hx ?_|refine G158.lend ?hx ?_|refine G146.lend ?hx ?_|refine G147.lend ?hx ?_);(case hx=>exact rfl);intro v hF;conv=>whnf)
  | (cases hF;(refine Or.inl ?_);(conv=>whnf);exact⟨rfl,rfl,rfl⟩)
  | ((with_reducible have hJ:=zv2 hF);clear hJ;revert hF;(refine zqj ?_);intro x hF;conv=>whnf)
  | ((with_reducible have hJ:=isO hF);clear hJ;revert hF;(refine zdG (eK:=strN) (eM:=StoneM.m) zbh ?hk ?hd ?he ?_ ?_);(case hk=>exact λ _=>rfl);(case hd=>exact rfl);(case he=>exact rfl);(intro hl hF;conv=>whnf);rotate_left;(intro i hl hF;conv=>whnf);rotate_right)
  | ((with_reducible have hJ:=isSm hF);clear hJ;revert hF;(refine zfr (eK:=strN) (eV:=bN) zbh ?hk ?hz ?hd ?he ?_);(case hk=>exact λ _=>rfl);(case hz=>exact rfl);(case hd=>exact rfl);(case he=>exact rfl);intro x hF;conv=>whnf)
  | ((with_reducible have hJ:=isO hF);clear hJ;revert hF;(refine zdG (eK:=strN) (eM:=EditionM.m) zbh ?hk ?hd ?he ?_ ?_);(case hk=>exact λ _=>rfl);(case hd=>exact rfl);(case he=>exact rfl);(intro hl hF;conv=>whnf);rotate_left;(intro i hl hF;conv=>whnf);rotate_right)
  | ((with_reducible have hG:=zda hF);clear hF;(obtain⟨⟨x,hx,hF⟩⟩:=hG);first|((with_reducible refine isMc ?_);(refine ze1 rfl hx (by exact rfl) ?_);conv=>whnf)|skip)
  | ((with_reducible refine isMc ?_);(refine ze1 rfl (by assumption) (by exact rfl) ?_);conv=>whnf)
  | ((with_reducible refine Or.inr ?_);(conv=>whnf);(with_reducible refine isTk ?_);(refine zjz (by first|exact zai|exact zaT (by decide) zai) ?_);conv=>whnf)
  | ((with_reducible have hJ:=isO hF);clear hJ;revert hF;(refine zhm ?_ ?_);(intro ho hF;conv=>whnf);rotate_left;(intro j ho hF;conv=>whnf);rotate_right)
  | ((with_reducible refine isOP ?_);(refine znJ (by assumption) ?_);conv=>whnf)
  | ((with_reducible refine isLd ?_);(refine zfW rfl (by assumption) (λ key=>?_));conv=>whnf)
  | ((with_reducible have hJ:=zv2 hF);clear hJ;revert hF;(refine zqw rfl ?_);intro x hF;conv=>whnf)
  | ((with_reducible first|refine zeH ?hx ?_|refine zdJ ?hx ?_|refine zgt ?hx ?_|refine zfe ?hx ?_|refine zcD ?hx ?_|refine zdh ?hx ?_);(case hx=>exact rfl))
  | (revert hF;(with_reducible refine idx1 ?hn ?_);(case hn=>first|exact rfl|exact(List.length_map _)|assumption|omega|simp);intro x hx hF;conv=>whnf)
  | ((with_reducible refine zfs ?_);(first|((first|refine zeY rfl ?hy (λ Q q0 q1 q2=>?_)|refine zdX rfl ?hy (λ Q q0 q1 q2=>?_));(case hy=>first|assumption|exact notT (by assumption)|exact rfl);conv=>whnf)|((first|refine zdW rfl ?hy ?_|refine zc9 rfl ?hy ?_);(case hy=>first|assumption|exact notF (by assumption)|exact rfl))|(revert hF;(with_reducible first|refine zeZ ?hx ?_ ?_|refine zdY ?hx ?_ ?_);(case hx=>exact rfl);(intro hc hF Q q0 q1 q2;conv=>whnf);rotate_left;(intro hc hF);rotate_right)|(revert hF;(with_reducible first|refine ze0 ?hx ?_ ?_|refine zdZ ?hx ?_ ?_);(case hx=>exact rfl);(intro hc hF);rotate_left;(intro hc hF Q q0 q1 q2;conv=>whnf);rotate_right)))
  | ((with_reducible refine zqp ?_);(first|((first|refine znC rfl ?hy (λ Q q0 q1 q2=>?_)|refine zk2 rfl ?hy (λ Q q0 q1 q2=>?_));(case hy=>first|assumption|exact notT (by assumption)|exact rfl);conv=>whnf)|((first|refine zk1 rfl ?hy ?_|refine ziz rfl ?hy ?_);(case hy=>first|assumption|exact notF (by assumption)|exact rfl))|(revert hF;(with_reducible first|refine znD ?hx ?_ ?_|refine zk3 ?hx ?_ ?_);(case hx=>exact rfl);(intro hc hF Q q0 q1 q2;conv=>whnf);rotate_left;(intro hc hF);rotate_right)|(revert hF;(with_reducible first|refine znE ?hx ?_ ?_|refine zk4 ?hx ?_ ?_);(case hx=>exact rfl);(intro hc hF);rotate_left;(intro hc hF Q q0 q1 q2;conv=>whnf);rotate_right)))
  | ((with_reducible refine zdu ?_);(first|((refine zeF rfl ?hy ?_);(case hy=>first|assumption|exact notT (by assumption)|exact rfl))|((refine zeG rfl ?hy ?_);(case hy=>first|assumption|exact notF (by assumption)|exact rfl))|(revert hF;(with_reducible refine zic ?hx ?_ ?_);(case hx=>exact rfl);all_goals (intro hc hF))))
  | ((with_reducible refine zhi ?hn ?_);(case hn=>first|exact rfl|assumption|omega);conv=>whnf)
  | ((with_reducible refine zaS ?_);(with_reducible refine zaS ?_);(with_reducible have hG:=zcE hF);(refine gZ 2 1611 rfl ?_);(refine zef 2 1611 rfl rfl rfl (by first|exact zai|exact zaT (by decide) zai) (by assumption) (by exact rfl) ?_);(have hF:=hG);clear hG;dsimp only[St.settledF];(first|((with_reducible refine hR _ ?_);clear R hR)|((with_reducible refine hL _ ?_);clear L hL)))
  | ((with_reducible refine zaS ?_);(with_reducible refine zaS ?_);(with_reducible have hG:=zcE hF);(refine gZ 2 1603 rfl ?_);(refine zef 2 1603 rfl rfl rfl (by first|exact zai|exact zaT (by decide) zai) (by assumption) (by exact rfl) ?_);(have hF:=hG);clear hG;dsimp only[St.settledF];(first|((with_reducible refine hR _ ?_);clear R hR)|((with_reducible refine hL _ ?_);clear L hL)))
  | ((with_reducible refine zcJ ?_);(first|((with_reducible refine hR _ ?_);clear R hR)|((with_reducible refine hL _ ?_);clear L hL)))
  | ((with_reducible refine zeS ?_);conv=>whnf)
  | ((with_reducible refine zhj ?hx ?_);(case hx=>first|exact rfl|assumption|exact notT (by assumption));conv=>whnf)
  | ((with_reducible refine zgh ?hx ?_);(case hx=>first|exact rfl|assumption|exact notF (by assumption));conv=>whnf)
  | ((refine⟨?hx,trivial⟩);(case hx=>(cases hF;exact rfl)))
  | ((refine⟨?hx, ?_⟩);(case hx=>decide);conv=>whnf)
  | with_reducible refine zfK ?_)):P:=h
set_option maxRecDepth 20000 in
theorem wk6 {P:Prop}(h:P:=by repeat' (first
  | ((with_reducible first|refine q0 _ _ ?_|refine q1 _ _ _ _ ?_|refine q2 _ _ _ ?_);clear Q q0 q1 q2)
  | ((with_reducible first|refine zd6 ?hx (λ Q q0 q1 q2=>?_)|refine zdK ?hx (λ Q q0 q1 q2=>?_)|refine zea ?hx (λ Q q0 q1 q2=>?_));(case hx=>exact rfl);conv=>whnf)
  | ((with_reducible refine zfs ?_);(first|((first|refine zeY rfl ?hy (λ Q q0 q1 q2=>?_)|refine zdX rfl ?hy (λ Q q0 q1 q2=>?_));(case hy=>first|assumption|exact notT (by assumption)|exact rfl);conv=>whnf)|((first|refine zdW rfl ?hy ?_|refine zc9 rfl ?hy ?_);(case hy=>first|assumption|exact notF (by assumption)|exact rfl))|(revert hF;(with_reducible first|refine zeZ ?hx ?_ ?_|refine zdY ?hx ?_ ?_);(case hx=>exact rfl);(intro hc hF Q q0 q1 q2;conv=>whnf);rotate_left;(intro hc hF);rotate_right)|(revert hF;(with_reducible first|refine ze0 ?hx ?_ ?_|refine zdZ ?hx ?_ ?_);(case hx=>exact rfl);(intro hc hF);rotate_left;(intro hc hF Q q0 q1 q2;conv=>whnf);rotate_right)))
  | ((with_reducible refine zdu ?_);(first|((refine zeF rfl ?hy ?_);(case hy=>first|assumption|exact notT (by assumption)|exact rfl))|((refine zeG rfl ?hy ?_);(case hy=>first|assumption|exact notF (by assumption)|exact rfl))|(revert hF;(with_reducible refine zic ?hx ?_ ?_);(case hx=>exact rfl);all_goals (intro hc hF))))
  | ((with_reducible refine zcJ ?_);(first|((with_reducible refine hR _ ?_);clear R hR)|((with_reducible refine hL _ ?_);clear L hL)))
  | ((with_reducible refine zcO ?_);(with_reducible refine hR _ _ ?hx ?_);(case hx=>kernel_rfl);clear R hR)
  | ((with_reducible first|refine zcR ?_|refine zdn ?_|refine idx2 (by assumption) ?_|refine idx3 (by assumption) ?_);conv=>whnf)
  | (with_reducible first|refine zcf ?_|refine zcI ?_|refine zd5 ?_|refine zcZ ?_|refine zbK (λ R hR=>?_)|refine zbJ ?_|refine zby ?_|refine zh0 ?_|refine zbW ?_|refine zbM ?_|refine zcU ?_|refine zcv ?_)
  | ((with_reducible refine zdI ?hx (λ R L hL hR=>?_));(case hx=>exact rfl))
  | ((with_reducible replace hF:=isE hF);(dsimp only[zjB,zqH,zjC,zl,zmO,zt1,zqI,zmP,zt2,zlg,zd1,zgk,zdc,zjE,zqQ,zlt,zjF,zqS,zlu,zmS,zt5,zqT,zmU,zt8,zmV,zmW,zt9,zlw,zmX,zu,zlx,zjG,zqY,zly,zbC,zcl,zbD,zbo,zbZ,zcn,za8,zaZ,za9,zbE,zcp,zba] at hF);first|((with_reducible replace hF:=chkE (e:=zfX ..) hF);rewrite[zfX] at hF)|((with_reducible replace hF:=chkE (e:=ziC ..) hF);rewrite[ziC] at hF)|((with_reducible replace hF:=chkE (e:=zfY) hF);rewrite[zfY] at hF)|((with_reducible replace hF:=chkE (e:=ziD) hF);rewrite[ziD] at hF)|((with_reducible replace hF:=chkE (e:=zaU ..) hF);rewrite[zaU] at hF)|((with_reducible replace hF:=chkE (e:=zaV ..) hF);rewrite[zaV] at hF)|((with_reducible replace hF:=chkE (e:=zaK ..) hF);rewrite[zaK] at hF)|((with_reducible replace hF:=chkE (e:=zaW ..) hF);rewrite[zaW] at hF)|rewrite[zhr] at hF|rewrite[zqG] at hF|rewrite[zt0] at hF|rewrite[zhs] at hF|rewrite[znP] at hF|rewrite[zcG] at hF|rewrite[zgj] at hF|rewrite[zqP] at hF|rewrite[zhz] at hF|rewrite[zqR] at hF|rewrite[zt4] at hF|rewrite[zhA] at hF|rewrite[zqW] at hF|rewrite[zhB] at hF|rewrite[znS] at hF|rewrite[zhC] at hF|rewrite[znT] at hF|rewrite[zhD] at hF|rewrite[zqX] at hF|rewrite[zck] at hF|rewrite[zbY] at hF|rewrite[zcm] at hF|rewrite[zco] at hF)
  | ((with_reducible refine zeX ?_);first|((with_reducible replace hF:=toLp 0 1 hF);exact Lp.backI hF () ⟨_,rfl,rfl,rfl,rfl⟩ rfl)|((with_reducible replace hF:=toLp 0 2 hF);exact Lp.backI hF () ⟨_,rfl,rfl,rfl,rfl⟩ rfl))
  | ((with_reducible refine zcL ?_);first|((with_reducible replace hF:=toLp 0 0 hF);exact Lp.headI hF () ⟨_,rfl,rfl,rfl,rfl⟩ rfl)|((with_reducible replace hF:=toLp 0 1 hF);exact Lp.headI hF () ⟨_,rfl,rfl,rfl,rfl⟩ rfl))
  | ((with_reducible refine zeW ?_);first|((with_reducible replace hF:=toLp 0 1 hF);((refine Lp.loopI hF () rfl ⟨_,rfl,rfl,rfl,rfl⟩ rfl (λ _=>rfl) ?_);clear hF);(rintro n _ hF))|((with_reducible replace hF:=toLp 0 2 hF);((refine Lp.loopI hF () rfl ⟨_,rfl,rfl,rfl,rfl⟩ rfl (λ _=>rfl) ?_);clear hF);(rintro n ⟨_,_⟩ hF)))
  | ((with_reducible refine zc7 ?_);first|((with_reducible replace hF:=zeV 0 hF);((refine Lp.cutI hF rfl rfl ?_ ?_) <;> clear hF);(intro hF);rotate_left;(rintro _ hF);rotate_right)|((with_reducible replace hF:=zeV 1 hF);((refine Lp.cutI hF rfl rfl ?_ ?_) <;> clear hF);(intro hF);rotate_left;(rintro _ hF);rotate_right))
  | ((with_reducible refine zcK [] ?hx ?_);(case hx=>exact rfl))
  | with_reducible refine zhl ?_
  | ((with_reducible have hI:=zqB hF);clear hI;revert hF;(refine zkZ ?_);intro x hF;conv=>whnf)
  | ((with_reducible have hJ:=isRg hF);clear hJ;(refine zsX (eK:=strN) (eV:=iN) hF rfl ?_ ?_);(clear hF;intro i p hx hF;conv=>whnf);rotate_left;(clear hF;intro hF;conv=>whnf);rotate_right)
  | ((with_reducible have hJ:=isB hF);clear hJ;revert hF;(with_reducible first|refine G73.step ?hx ?_|refine G117.lend ?hx ?_|refine G143.step ?hx ?_|refine G145.lend ?hx ?_|refine G116.lend ?hx ?_);(case hx=>exact rfl);intro v hF;conv=>whnf)
  | ((with_reducible refine isEn ?_);(refine zoY (eK:=strN) (eV:=iN) (by assumption) ?_);conv=>whnf)
  | (revert hF;(refine zkY ?_);intro x hF;conv=>whnf)
  | ((with_reducible first|refine zeH ?hx ?_|refine zdJ ?hx ?_|refine zcD ?hx ?_|refine zdh ?hx ?_);(case hx=>exact rfl))
  | (revert hF;(with_reducible refine idx1 ?hn ?_);(case hn=>first|exact rfl|exact(List.length_map _)|assumption|omega|simp);intro x hx hF;conv=>whnf)
  | ((with_reducible have hG:=zjt hF);clear hF;(refine znA hG (λ q hF=>?_));clear hG;conv=>whnf)
  | ((with_reducible refine zeS ?_);conv=>whnf)
  | ((with_reducible have hG:=znB hF);clear hF;(refine⟨?hx, ?_⟩);(case hx=>(first|exact of_decide_eq_true hG.1|exact hG.1));have hF:=hG.2;clear hG;conv=>whnf)
  | ((with_reducible refine zhj ?hx ?_);(case hx=>first|exact rfl|assumption|exact notT (by assumption));conv=>whnf)
  | ((with_reducible refine zgh ?hx ?_);(case hx=>first|exact rfl|assumption|exact notF (by assumption));conv=>whnf)
  | (revert hF;(with_reducible refine zbe ?_ ?_) <;> (intro hc hF;conv=>whnf))
  | ((refine zaw 103 104000000 rfl rfl (Nat.le_of_ble_eq_true rfl) rfl (λ R hR=>?_));(conv=>whnf);(with_reducible refine hR _ ?ha ?_);(case ha=>exact rfl);clear R hR)
  | ((refine zaw 206 207000000 rfl rfl (Nat.le_of_ble_eq_true rfl) rfl (λ R hR=>?_));(conv=>whnf);(with_reducible refine hR _ ?ha ?_);(case ha=>exact rfl);clear R hR)
  | ((refine zaw 602 603000000 rfl rfl (Nat.le_of_ble_eq_true rfl) rfl (λ R hR=>?_));(conv=>whnf);(with_reducible refine hR _ ?ha ?_);(case ha=>exact rfl);clear R hR)
  | ((refine zaw 104000403 104000404000000 rfl rfl (Nat.le_of_ble_eq_true rfl) rfl (λ R hR=>?_));(conv=>whnf);(with_reducible refine hR _ ?ha ?_);(case ha=>exact rfl);clear R hR)
  | ((refine zaw 403 404000000 rfl rfl (Nat.le_of_ble_eq_true rfl) rfl (λ R hR=>?_));(conv=>whnf);(with_reducible refine hR _ ?ha ?_);(case ha=>exact rfl);clear R hR)
  | ((refine zaw 603000102 603000103000000 rfl rfl (Nat.le_of_ble_eq_true rfl) rfl (λ R hR=>?_));(conv=>whnf);(with_reducible refine hR _ ?ha ?_);(case ha=>exact rfl);clear R hR)
  | ((refine zaw 207000102 207000103000000 rfl rfl (Nat.le_of_ble_eq_true rfl) rfl (λ R hR=>?_));(conv=>whnf);(with_reducible refine hR _ ?ha ?_);(case ha=>exact rfl);clear R hR)
  | ((refine zaw 603000103000405 603000103000406000000 rfl rfl (Nat.le_of_ble_eq_true rfl) rfl (λ R hR=>?_));(conv=>whnf);(with_reducible refine hR _ ?ha ?_);(case ha=>exact rfl);clear R hR)
  | ((refine zaw 404000102 404000103000000 rfl rfl (Nat.le_of_ble_eq_true rfl) rfl (λ R hR=>?_));(conv=>whnf);(with_reducible refine hR _ ?ha ?_);(case ha=>exact rfl);clear R hR)
  | ((refine zaw 207000103000405 207000103000406000000 rfl rfl (Nat.le_of_ble_eq_true rfl) rfl (λ R hR=>?_));(conv=>whnf);(with_reducible refine hR _ ?ha ?_);(case ha=>exact rfl);clear R hR)
  | ((refine zaw 404000103000405 404000103000406000000 rfl rfl (Nat.le_of_ble_eq_true rfl) rfl (λ R hR=>?_));(conv=>whnf);(with_reducible refine hR _ ?ha ?_);(case ha=>exact rfl);clear R hR)
  | (show Kinl _ _ _ _ _ _ _;conv=>whnf)
  | ((with_reducible refine zc8 ?ha ?hb ?_);(case ha=>exact rfl);(case hb=>exact rfl);conv=>whnf)
  | ((refine⟨?hx,trivial⟩);(case hx=>(cases hF;exact rfl)))
  | with_reducible refine zfK ?_)):P:=h
set_option maxRecDepth 20000 in
theorem wk7 {P:Prop}(h:P:=by repeat' (first
  | ((with_reducible first|refine q0 _ _ ?_|refine q1 _ _ _ _ ?_|refine q2 _ _ _ ?_);clear Q q0 q1 q2)
  | ((with_reducible first|refine zd6 ?hx (λ Q q0 q1 q2=>?_)|refine zdK ?hx (λ Q q0 q1 q2=>?_)|refine zea ?hx (λ Q q0 q1 q2=>?_)|refine zfd ?hx (λ Q q0 q1 q2=>?_));(case hx=>exact rfl);conv=>whnf)
  | ((with_reducible refine zaS ?_);(with_reducible refine zaS ?_);(with_reducible have hG:=zcE hF);(refine gZ 2 1206 rfl ?_);(refine zef 2 1206 rfl rfl rfl (by first|exact zai|exact zaT (by decide) zai) (by assumption) (by exact rfl) ?_);(have hF:=hG);clear hG;dsimp only[St.settledF];(first|((with_reducible refine hR _ ?_);clear R hR)|((with_reducible refine hL _ ?_);clear L hL)))
  | ((with_reducible refine zaS ?_);(with_reducible refine zaS ?_);(with_reducible have hJ:=zeC hF);clear hJ;(refine gZ 2 1303 rfl ?_);(refine zcS 2 1303 hF rfl rfl rfl (by first|exact zai|exact zaT (by decide) zai) (by assumption) (by exact rfl) (by first|exact rfl|assumption|(symm;assumption)|omega) (by exact rfl) (λ q hq hF1=>?_));clear hF;(have hF:=hF1);clear hF1;dsimp only[St.settledF];(first|((with_reducible refine hR _ ?_);clear R hR)|((with_reducible refine hL _ ?_);clear L hL)))
  | ((with_reducible refine zcK [] ?hx ?_);(case hx=>exact rfl))
  | with_reducible refine zhl ?_
  | ((with_reducible refine zaS ?_);(with_reducible refine zaS ?_);(with_reducible have hJ:=zeC hF);clear hJ;(refine gZ 2 1206 rfl ?_);(refine zcS 2 1206 hF rfl rfl rfl (by first|exact zai|exact zaT (by decide) zai) (by assumption) (by exact rfl) (by first|exact rfl|assumption|(symm;assumption)|omega) (by exact rfl) (λ q hq hF1=>?_));clear hF;(have hF:=hF1);clear hF1;dsimp only[St.settledF];(first|((with_reducible refine hR _ ?_);clear R hR)|((with_reducible refine hL _ ?_);clear L hL)))
  | ((with_reducible refine zaS ?_);(with_reducible refine zaS ?_);(with_reducible have hJ:=zeC hF);clear hJ;(refine gZ 2 1303 rfl ?_);(refine zjA 2 1303 hF rfl rfl rfl (by first|exact zai|exact zaT (by decide) zai) (by assumption) (by exact rfl) (by exact rfl) (λ q hq hF1=>?_));clear hF;(have hF:=hF1);clear hF1;dsimp only[St.settledF];(first|((with_reducible refine hR _ ?_);clear R hR)|((with_reducible refine hL _ ?_);clear L hL)))
  | ((with_reducible refine zaS ?_);(with_reducible refine zaS ?_);(with_reducible have hJ:=zeC hF);clear hJ;(refine gZ 2 1203 rfl ?_);(refine zjA 2 1203 hF rfl rfl rfl (by first|exact zai|exact zaT (by decide) zai) (by assumption) (by exact rfl) (by exact rfl) (λ q hq hF1=>?_));clear hF;(have hF:=hF1);clear hF1;dsimp only[St.settledF];(first|((with_reducible refine hR _ ?_);clear R hR)|((with_reducible refine hL _ ?_);clear L hL)))
  | ((with_reducible refine zaS ?_);(with_reducible refine zaS ?_);(with_reducible have hJ:=zeC hF);clear hJ;(refine gZ 2 1306 rfl ?_);(refine zcS 2 1306 hF rfl rfl rfl (by first|exact zai|exact zaT (by decide) zai) (by assumption) (by exact rfl) (by first|exact rfl|assumption|(symm;assumption)|omega) (by exact rfl) (λ q hq hF1=>?_));clear hF;(have hF:=hF1);clear hF1;dsimp only[St.settledF];(first|((with_reducible refine hR _ ?_);clear R hR)|((with_reducible refine hL _ ?_);clear L hL)))
  | ((with_reducible refine zaS ?_);(with_reducible refine zaS ?_);(with_reducible have hJ:=zeC hF);clear hJ;(refine gZ 2 1501 rfl ?_);(refine zcS 2 1501 hF rfl rfl rfl (by first|exact zai|exact zaT (by decide) zai) (by assumption) (by exact rfl) (by first|exact rfl|assumption|(symm;assumption)|omega) (by exact rfl) (λ q hq hF1=>?_));clear hF;(have hF:=hF1);clear hF1;dsimp only[St.settledF];(first|((with_reducible refine hR _ ?_);clear R hR)|((with_reducible refine hL _ ?_);clear L hL)))
  | ((with_reducible refine zcO ?_);(with_reducible refine hR _ _ ?hx ?_);(case hx=>kernel_rfl);clear R hR)
  | ((with_reducible first|refine zcR ?_|refine zdn ?_|refine idx2 (by assumption) ?_|refine idx3 (by assumption) ?_);conv=>whnf)
  | (with_reducible first|refine zcI ?_|refine zd5 ?_|refine zbK (λ R hR=>?_)|refine zbJ ?_|refine zcf ?_|refine zcZ ?_|refine zby ?_|refine zh0 ?_|refine zbW ?_|refine zbM ?_)
  | ((with_reducible refine zdI ?hx (λ R L hL hR=>?_));(case hx=>exact rfl))
  | ((with_reducible refine exg3 ?_);revert hF;(refine G213.step rfl rfl rfl (by assumption) (by exact rfl) (by exact rfl) ?_);(intro y hy hF);conv=>whnf)
  | ((with_reducible have hJ:=isB hF);clear hJ;revert hF;(with_reducible first|refine G61.lend ?hx ?_|refine G64.lend ?hx ?_);(case hx=>exact rfl);intro v hF;conv=>whnf)
  | (cases hF;(refine Or.inl ?_);(conv=>whnf);exact⟨rfl,rfl,rfl⟩)
  | ((with_reducible have hJ:=isSm hF);clear hJ;revert hF;(refine zfr (eK:=strN) (eV:=iN) zbh ?hk ?hz ?hd ?he ?_);(case hk=>exact λ _=>rfl);(case hz=>exact rfl);(case hd=>exact rfl);(case he=>exact rfl);intro x hF;conv=>whnf)
  | ((refine zmJ rfl (by assumption) (λ d hp=>?_));(conv=>whnf);(refine zqv hF hp (by assumption) rfl (by exact rfl) (λ q hq hF1=>?_));clear hp;clear hF;(have hF:=hF1);clear hF1;conv=>whnf)
  | ((with_reducible have hJ:=isSm hF);clear hJ;revert hF;(refine zgA (eK:=strN) (eV:=iN) zbh ?hk ?hv ?hd ?he ?_);(case hk=>exact λ _=>rfl);(case hv=>exact rfl);(case hd=>exact rfl);(case he=>exact rfl);intro x hF;conv=>whnf)
  | ((with_reducible have hJ:=isO hF);clear hJ;revert hF;(refine zdG (eK:=strN) (eM:=StoneM.m) zbh ?hk ?hd ?he ?_ ?_);(case hk=>exact λ _=>rfl);(case hd=>exact rfl);(case he=>exact rfl);(intro hl hF;conv=>whnf);rotate_left;(intro i hl hF;conv=>whnf);rotate_right)
  | ((with_reducible have hJ:=isSm hF);clear hJ;revert hF;(refine zgA (eK:=strN) (eV:=bN) zbh ?hk ?hv ?hd ?he ?_);(case hk=>exact λ _=>rfl);(case hv=>exact rfl);(case hd=>exact rfl);(case he=>exact rfl);intro x hF;conv=>whnf)
  | ((with_reducible have hJ:=isO hF);clear hJ;revert hF;(refine zdG (eK:=strN) (eM:=EditionM.m) zbh ?hk ?hd ?he ?_ ?_);(case hk=>exact λ _=>rfl);(case hd=>exact rfl);(case he=>exact rfl);(intro hl hF;conv=>whnf);rotate_left;(intro i hl hF;conv=>whnf);rotate_right)
  | ((with_reducible refine isLF ?_);(refine zk5 (eK:=strN) (eM:=EditionM.m) zbh (λ _=>rfl) (by exact rfl) (by exact rfl) (by assumption) ?_);conv=>whnf)
  | ((with_reducible have hG:=zda hF);clear hF;(obtain⟨⟨x,hx,hF⟩⟩:=hG);first|((with_reducible refine isMc ?_);(refine ze1 rfl hx (by exact rfl) ?_);conv=>whnf)|skip)
  | ((with_reducible refine isMc ?_);(refine ze1 rfl (by assumption) (by exact rfl) ?_);conv=>whnf)
  | ((with_reducible refine Or.inr ?_);(conv=>whnf);(with_reducible refine isTk ?_);(refine zjz (by first|exact zai|exact zaT (by decide) zai) ?_);conv=>whnf)
  | ((refine⟨(by first|exact zai|exact zaT (by decide) zai), ?_⟩);conv=>whnf)
  | ((with_reducible have hJ:=isO hF);clear hJ;revert hF;(refine zhm ?_ ?_);(intro ho hF;conv=>whnf);rotate_left;(intro j ho hF;conv=>whnf);rotate_right)
  | ((with_reducible refine isOP ?_);(refine znJ (by assumption) ?_);conv=>whnf)
  | ((with_reducible refine isOP ?_);(refine zqu (by assumption) ?_);conv=>whnf)
  | ((with_reducible refine isSF ?_);(with_reducible have hJ:=zeC hF);clear hJ;(refine zk6 hF (by assumption) rfl (by exact rfl) (λ q hq hF1=>?_));clear hF;(have hF:=hF1);clear hF1;conv=>whnf)
  | ((with_reducible refine isPF ?_);(with_reducible have hJ:=zeC hF);clear hJ;(refine zk8 hF (by assumption) rfl (by first|exact rfl|assumption|omega) (by exact rfl) (by first|exact zk7.trans zgC|exact zgC|exact rfl) (λ q hq hF1=>?_));clear hF;(have hF:=hF1);clear hF1;conv=>whnf)
  | ((with_reducible refine isLd ?_);(refine zfW rfl (by assumption) (λ key=>?_));conv=>whnf)
  | ((with_reducible first|refine zeH ?hx ?_|refine zdJ ?hx ?_|refine zcD ?hx ?_|refine zdh ?hx ?_|refine zgt ?hx ?_|refine zfe ?hx ?_);(case hx=>exact rfl))
  | (revert hF;(with_reducible refine idx1 ?hn ?_);(case hn=>first|exact rfl|exact(List.length_map _)|assumption|omega|simp);intro x hx hF;conv=>whnf)
  | ((with_reducible have hG:=zdo hF);clear hF;(first|((refine zdU hG ?hn ?hs (λ q hF=>?_));(case hn=>first|exact rfl|assumption|omega);(case hs=>exact rfl))|((refine zdT (d:=iN) hG ?hs (λ q hF=>?_));(case hs=>exact rfl))|((refine zdV (d:=iN) hG ?ho ?hn ?hs (λ q hF=>?_));(case ho=>exact rfl);(case hn=>exact rfl);(case hs=>exact rfl)));clear hG;conv=>whnf)
  | ((with_reducible have hG:=zdo hF);clear hF;(first|((refine zdU hG ?hn ?hs (λ q hF=>?_));(case hn=>first|exact rfl|assumption|omega);(case hs=>exact rfl))|((refine zdT (d:=strN) hG ?hs (λ q hF=>?_));(case hs=>exact rfl))|((refine zdV (d:=strN) hG ?ho ?hn ?hs (λ q hF=>?_));(case ho=>exact rfl);(case hn=>exact rfl);(case hs=>exact rfl)));clear hG;conv=>whnf)
  | ((with_reducible refine zdu ?_);(first|((refine zeF rfl ?hy ?_);(case hy=>first|assumption|exact notT (by assumption)|exact rfl))|((refine zeG rfl ?hy ?_);(case hy=>first|assumption|exact notF (by assumption)|exact rfl))|(revert hF;(with_reducible refine zic ?hx ?_ ?_);(case hx=>exact rfl);all_goals (intro hc hF))))
  | ((refine zeU ?hn ?_);(case hn=>first|exact rfl|(simp;done)|(simp;omega));conv=>whnf)
  | ((with_reducible refine zaS ?_);(with_reducible refine zaS ?_);(with_reducible have hG:=zcE hF);(refine gZ 2 1403 rfl ?_);(refine zhp 2 1403 rfl rfl rfl (by first|exact zai|exact zaT (by decide) zai) (by assumption) (by exact rfl) ?_);(have hF:=hG);clear hG;dsimp only[St.settledF];(first|((with_reducible refine hR _ ?_);clear R hR)|((with_reducible refine hL _ ?_);clear L hL)))
  | ((with_reducible refine zaS ?_);(with_reducible refine zaS ?_);(with_reducible have hG:=zcE hF);(refine gZ 4 1403 rfl ?_);(refine zef 4 1403 rfl rfl rfl (by first|exact zai|exact zaT (by decide) zai) (by assumption) (by exact rfl) ?_);(have hF:=hG);clear hG;dsimp only[St.settledF];(first|((with_reducible refine hR _ ?_);clear R hR)|((with_reducible refine hL _ ?_);clear L hL)))
  | ((with_reducible refine zaS ?_);(with_reducible refine zaS ?_);(with_reducible have hG:=zcE hF);(refine gZ 4 1803 rfl ?_);(refine zhp 4 1803 rfl rfl rfl (by first|exact zai|exact zaT (by decide) zai) (by assumption) (by exact rfl) ?_);(have hF:=hG);clear hG;dsimp only[St.settledF];(first|((with_reducible refine hR _ ?_);clear R hR)|((with_reducible refine hL _ ?_);clear L hL)))
  | ((with_reducible refine zhi ?hn ?_);(case hn=>first|exact rfl|assumption|omega);conv=>whnf)
  | ((with_reducible refine zaS ?_);(with_reducible refine zaS ?_);(with_reducible have hG:=zcE hF);(refine gZ 2 2104 rfl ?_);(refine zef 2 2104 rfl rfl rfl (by first|exact zai|exact zaT (by decide) zai) (by assumption) (by exact rfl) ?_);(have hF:=hG);clear hG;dsimp only[St.settledF];(first|((with_reducible refine hR _ ?_);clear R hR)|((with_reducible refine hL _ ?_);clear L hL)))
  | ((with_reducible have hG:=zfq hF);clear hF;(refine zhe hG ?hs (λ q hl hF=>?_));(case hs=>exact rfl);clear hG;conv=>whnf)
  | (revert hF;(refine zqz ?hn ?_ ?_);(case hn=>first|exact rfl|assumption|omega);(intro hl hF;conv=>whnf);rotate_left;(intro hF;conv=>whnf);rotate_right)
  | ((with_reducible refine zcJ ?_);(first|((with_reducible refine hR _ ?_);clear R hR)|((with_reducible refine hL _ ?_);clear L hL)))
  | ((refine⟨?hx, ?_⟩);(case hx=>exact⟨rfl,Nat.le_of_ble_eq_true rfl,rfl⟩);conv=>whnf)
  | ((with_reducible refine zeS ?_);conv=>whnf)
  | ((with_reducible refine zgh ?hx ?_);(case hx=>first|exact rfl|assumption|exact notF (by assumption));conv=>whnf)
  | ((refine zaw 1101 1102000000 rfl rfl (Nat.le_of_ble_eq_true rfl) rfl (λ R hR=>?_));(conv=>whnf);(with_reducible refine hR _ ?ha ?_);(case ha=>exact rfl);clear R hR)
  | ((refine zaw 1102 1103000000 rfl rfl (Nat.le_of_ble_eq_true rfl) rfl (λ R hR=>?_));(conv=>whnf);(with_reducible refine hR _ ?ha ?_);(case ha=>exact rfl);clear R hR)
  | ((refine zaw 1304 1305000000 rfl rfl (Nat.le_of_ble_eq_true rfl) rfl (λ R hR=>?_));(conv=>whnf);(with_reducible refine hR _ ?ha ?_);(case ha=>exact rfl);clear R hR)
  | ((refine zaw 1502 1503000000 rfl rfl (Nat.le_of_ble_eq_true rfl) rfl (λ R hR=>?_));(conv=>whnf);(with_reducible refine hR _ ?ha ?_);(case ha=>exact rfl);clear R hR)
  | ((refine zaw 1404 1405000000 rfl rfl (Nat.le_of_ble_eq_true rfl) rfl (λ R hR=>?_));(conv=>whnf);(with_reducible refine hR _ ?ha ?_);(case ha=>exact rfl);clear R hR)
  | ((refine zaw 1503000101 1503000102000000 rfl rfl (Nat.le_of_ble_eq_true rfl) rfl (λ R hR=>?_));(conv=>whnf);(with_reducible refine hR _ ?ha ?_);(case ha=>exact rfl);clear R hR)
  | ((refine zaw 1103000101 1103000102000000 rfl rfl (Nat.le_of_ble_eq_true rfl) rfl (λ R hR=>?_));(conv=>whnf);(with_reducible refine hR _ ?ha ?_);(case ha=>exact rfl);clear R hR)
  | (show Kinl _ _ _ _ _ _ _;conv=>whnf)
  | ((with_reducible refine zc8 ?ha ?hb ?_);(case ha=>exact rfl);(case hb=>exact rfl);conv=>whnf)
  | with_reducible refine zfK ?_
  | (have hF:(none:Option _)=some _:=hF;cases hF))):P:=h

end Go.Vc
