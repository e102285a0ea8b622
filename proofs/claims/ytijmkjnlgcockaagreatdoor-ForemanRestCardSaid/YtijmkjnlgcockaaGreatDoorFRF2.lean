/-
  A library for proofs about Go functions by symbolic evaluation,and plain Lean functions that the walked Go functions compute (written by a program of this claim).
-/
import Derived.Test.YtijmkjnlgcockaaGreatDoorFRF1
set_option linter.unusedVariables false
set_option linter.unnecessarySimpa false
set_option linter.unusedSimpArgs false
namespace Go.Vc
open Go.Proofs
variable {N id:Nat} {ρ:Type} {q:ρ} {xs:List SV} {m:Nat->Blk} {l:List Loc} {ds:List D} {K:Dl->List Loc->Prop} {k0 k1 k2 k3 k4 k5 k6 k7 k8 k9 k10 k11 k12 k13 k14 k15 m0 m1 m2 m3 m4 m5:Nat}
def zbN (N:Nat):Option (Bool) :=
 (f14 N ).bind λ x3 =>
 some (x3)
def zjV (N:Nat):Lp (Unit) Unit (Bool):=lp0 ⟨[],[],[],[]⟩ (λ _=>[]) (λ _=>[]) (λ _=>zbN N)
instance Ef13_c46 {N}:IsLp 0 0 (zbN N) (zjV N) ():=⟨rfl⟩
instance Cf13_c46 {N}:IsCut 0 (zbN N) (zjV N) 46:=⟨⟩
def zeb (b100':List (ByteArray×RunM))(b200:List (ByteArray×A2strN))(x4:LB)(v42:Int)(r6:Int->LB->LS->LE->LC->Option (Bool))(b106_1'':LB)(b100''':LS)(b101'':LE)(b102'':LC):Option (Bool) :=
 r6 (W (v42+(1:Int))) (b106_1'') (b100''') (b101'') (b102'')
def zjW (b100':List (ByteArray×RunM))(b200:List (ByteArray×A2strN))(x4:LB)(v42:Int)(r6:Int->LB->LS->LE->LC->Option (Bool)):Lp (LB×LS×LE×LC) (Nat×Nat) (Bool):=lpm ⟨[3,4,5,40,41,42],[90520,zxl,zxj,zxm,zxn,zxo,zxk,zxp],[(.cell zxo 1,90520,9,1)],[]⟩ (λ (b106_1'',b100''',b101'',b102'')=>zeb b100' b200 x4 v42 r6 b106_1'' b100''' b101'' b102'') (λ (_,_,_,_) (m0,_)=>[.ptr zxo 0, .mp zxk, .mp zxp, .dat (zaE x4), .dat (iN (m0:Int)), .dat (iN v42)]) (λ (b106_1'',b100''',b101'',b102'') (_,m1)=>[(rW b106_1''),(sW [zxj] b100'''),(eW b101''),(mW b102''), .box [.mp zxl, .mp zxj, .mp zxm], .box [.ptr zxn 0, .rs 90520 m1], .fam [] (encF strN RunM.m (b100')) [], .mp (encM strN A2strN.d b200)]) λ (b106_1'',_,_,_)=>(List.length x4,List.length (b106_1''))
instance Ef13_c45 {b100' b200 x4 v42 r6 b106_1'' b100''' b101'' b102''}:IsLp 2 4 (zeb b100' b200 x4 v42 r6 b106_1'' b100''' b101'' b102'') (zjW b100' b200 x4 v42 r6) (b106_1'',b100''',b101'',b102''):=⟨rfl⟩
instance Cf13_c45 {b100' b200 x4 v42 r6}:IsCut 4 (zeb b100' b200 x4 v42 r6) (zjW b100' b200 x4 v42 r6) 45:=⟨⟩
def zfe (N:Nat)(b100':List (ByteArray×RunM))(b200:List (ByteArray×A2strN))(x4:LB)(v42:Int)(k1:LB->LS->LE->LC->Option (Bool))(x6:Nat)(x7:RunM)(b106_1'''':LB)(b100''''':LS)(b101'''':LE)(b102'''':LC)(v23:Int):Option (Bool) :=
 (f48 N x7 (-1:Int)).bind λ x14 =>
 bif decide (x14=(0:Int)) then (bif decide (¬ v23=(0:Int)) then (some (false))
 else (k1 (b106_1'''') (b100''''') (b101'''') (b102'''')))
 else (k1 (b106_1'''') (b100''''') (b101'''') (b102''''))
def zjX (N:Nat)(b100':List (ByteArray×RunM))(b200:List (ByteArray×A2strN))(x4:LB)(v42:Int)(k1:LB->LS->LE->LC->Option (Bool))(x6:Nat)(x7:RunM)(b106_1'''':LB)(b100''''':LS)(b101'''':LE)(b102'''':LC):Lp (Int) (Nat×Nat) (Bool):=lpm ⟨[3,4,5,9,23,40,41,42],[90520,zxl,zxj,zxm,zxn,zxo,zxk,zxp],[],[]⟩ (λ v23=>zfe N b100' b200 x4 v42 k1 x6 x7 b106_1'''' b100''''' b101'''' b102'''' v23) (λ v23 (m0,_)=>[.ptr zxo 0, .mp zxk, .mp zxp, .po zxk x6 0, .dat (iN v23), .dat (zaE x4), .dat (iN (m0:Int)), .dat (iN v42)]) (λ _ (_,m1)=>[(rW b106_1''''),(sW [zxj] b100'''''),(eW b101''''),(mW b102''''), .box [.mp zxl, .mp zxj, .mp zxm], .box [.ptr zxn 0, .rs 90520 m1], .fam [] (encF strN RunM.m (b100')) [], .mp (encM strN A2strN.d b200)]) λ _=>(List.length x4,List.length (b106_1''''))
instance Ef13_c43 {N b100' b200 x4 v42 k1 x6 x7 b106_1'''' b100''''' b101'''' b102'''' v23}:IsLp 2 1 (zfe N b100' b200 x4 v42 k1 x6 x7 b106_1'''' b100''''' b101'''' b102'''' v23) (zjX N b100' b200 x4 v42 k1 x6 x7 b106_1'''' b100''''' b101'''' b102'''') v23:=⟨rfl⟩
instance Cf13_c43 {N b100' b200 x4 v42 k1 x6 x7 b106_1'''' b100''''' b101'''' b102''''}:IsCut 1 (zfe N b100' b200 x4 v42 k1 x6 x7 b106_1'''' b100''''' b101'''' b102'''') (zjX N b100' b200 x4 v42 k1 x6 x7 b106_1'''' b100''''' b101'''' b102'''') 43:=⟨⟩
def zjY (r38:Int->Int->Option (Bool))(N:Nat)(b100':List (ByteArray×RunM))(b200:List (ByteArray×A2strN))(x4:LB)(v42:Int)(x5:ByteArray)(x6:Nat)(b106_1'''':LB)(b100''''':LS)(b101'''':LE)(b102'''':LC)(k2:Int->Option (Bool))(x15:LB)(v23:Int)(v241:Int):Option (Bool) :=
 bif decide (v241<(List.length x15:Int)) then ((ix x15 v241).bind λ x16 =>
 (f36 N x16 x5 (b106_1'''') (b100''''') (b101'''') (b102'''')).bind λ x17 =>
 r38 (W (v23+x17.1)) (W (v241+(1:Int))))
 else (k2 v23)
def zgz (N:Nat)(b100':List (ByteArray×RunM))(b200:List (ByteArray×A2strN))(x4:LB)(v42:Int)(x5:ByteArray)(x6:Nat)(b106_1'''':LB)(b100''''':LS)(b101'''':LE)(b102'''':LC)(k2:Int->Option (Bool))(x15:LB):Nat->Int->Int->Option (Bool)
 | 0,_,_=>none
 | n+1,v23,v241=>zjY (zgz N b100' b200 x4 v42 x5 x6 b106_1'''' b100''''' b101'''' b102'''' k2 x15 n) N b100' b200 x4 v42 x5 x6 b106_1'''' b100''''' b101'''' b102'''' k2 x15 v23 v241
def zq4 (N:Nat)(b100':List (ByteArray×RunM))(b200:List (ByteArray×A2strN))(x4:LB)(v42:Int)(x5:ByteArray)(x6:Nat)(b106_1'''':LB)(b100''''':LS)(b101'''':LE)(b102'''':LC)(k2:Int->Option (Bool))(x15:LB):Lp (Nat×Int×Int) (Nat×Nat×Nat) (Bool):=lpm ⟨[3,4,5,8,9,23,40,41,42,239,240,241],[90520,zxl,zxj,zxm,zxn,zxo,zxk,zxp],[],[]⟩ (λ (n,v23,v241)=>zgz N b100' b200 x4 v42 x5 x6 b106_1'''' b100''''' b101'''' b102'''' k2 x15 n v23 v241) (λ (_,v23,v241) (m0,m1,_)=>[.ptr zxo 0, .mp zxk, .mp zxp, .dat (strN x5), .po zxk x6 0, .dat (iN v23), .dat (zaE x4), .dat (iN (m0:Int)), .dat (iN v42), .dat (zaE x15), .dat (iN (m1:Int)), .dat (iN v241)]) (λ (_,_,_) (_,_,m2)=>[(rW b106_1''''),(sW [zxj] b100'''''),(eW b101''''),(mW b102''''), .box [.mp zxl, .mp zxj, .mp zxm], .box [.ptr zxn 0, .rs 90520 m2], .fam [] (encF strN RunM.m (b100')) [], .mp (encM strN A2strN.d b200)]) λ (_,_,_)=>(List.length x4,List.length x15,List.length (b106_1''''))
instance Ef13_38 {N b100' b200 x4 v42 x5 x6 b106_1'''' b100''''' b101'''' b102'''' k2 x15 n v23 v241}:IsLp 3 2 (zgz N b100' b200 x4 v42 x5 x6 b106_1'''' b100''''' b101'''' b102'''' k2 x15 n v23 v241) (zq4 N b100' b200 x4 v42 x5 x6 b106_1'''' b100''''' b101'''' b102'''' k2 x15) (n,v23,v241):=⟨rfl⟩
def zff (N:Nat)(b100':List (ByteArray×RunM))(b200:List (ByteArray×A2strN))(x4:LB)(v42:Int)(k1:LB->LS->LE->LC->Option (Bool))(x5:ByteArray)(x6:Nat)(x7:RunM)(b106_1'''':LB)(b100''''':LS)(b101'''':LE)(b102'''':LC):Option (Bool) :=
 zaS (zfe N b100' b200 x4 v42 k1 x6 x7 b106_1'''' b100''''' b101'''' b102'''') λ k2 =>
 (f29 N ).bind λ x15 =>
 zgz N b100' b200 x4 v42 x5 x6 b106_1'''' b100''''' b101'''' b102'''' k2 x15 N (0:Int) (0:Int)
def zjZ (N:Nat)(b100':List (ByteArray×RunM))(b200:List (ByteArray×A2strN))(x4:LB)(v42:Int)(k1:LB->LS->LE->LC->Option (Bool))(x5:ByteArray)(x6:Nat)(x7:RunM):Lp (LB×LS×LE×LC) (Nat×Nat) (Bool):=lpm ⟨[3,4,5,8,9,40,41,42],[90520,zxl,zxj,zxm,zxn,zxo,zxk,zxp],[(.cell zxo 1,90520,9,1)],[]⟩ (λ (b106_1'''',b100''''',b101'''',b102'''')=>zff N b100' b200 x4 v42 k1 x5 x6 x7 b106_1'''' b100''''' b101'''' b102'''') (λ (_,_,_,_) (m0,_)=>[.ptr zxo 0, .mp zxk, .mp zxp, .dat (strN x5), .po zxk x6 0, .dat (zaE x4), .dat (iN (m0:Int)), .dat (iN v42)]) (λ (b106_1'''',b100''''',b101'''',b102'''') (_,m1)=>[(rW b106_1''''),(sW [zxj] b100'''''),(eW b101''''),(mW b102''''), .box [.mp zxl, .mp zxj, .mp zxm], .box [.ptr zxn 0, .rs 90520 m1], .fam [] (encF strN RunM.m (b100')) [], .mp (encM strN A2strN.d b200)]) λ (b106_1'''',_,_,_)=>(List.length x4,List.length (b106_1''''))
instance Ef13_c36 {N b100' b200 x4 v42 k1 x5 x6 x7 b106_1'''' b100''''' b101'''' b102''''}:IsLp 2 4 (zff N b100' b200 x4 v42 k1 x5 x6 x7 b106_1'''' b100''''' b101'''' b102'''') (zjZ N b100' b200 x4 v42 k1 x5 x6 x7) (b106_1'''',b100''''',b101'''',b102''''):=⟨rfl⟩
instance Cf13_c36 {N b100' b200 x4 v42 k1 x5 x6 x7}:IsCut 4 (zff N b100' b200 x4 v42 k1 x5 x6 x7) (zjZ N b100' b200 x4 v42 k1 x5 x6 x7) 36:=⟨⟩
def zj0 (r28:Int->LB->Int->LS->LE->LC->Option (Bool))(N:Nat)(b100':List (ByteArray×RunM))(b200:List (ByteArray×A2strN))(x4:LB)(v42:Int)(x5:ByteArray)(x6:Nat)(x7:RunM)(x11:Tally×Int)(k3:LB->LS->LE->LC->Option (Bool))(x18:LB)(v203:Int)(b106_1'''':LB)(b2406_4:Int)(b100''''':LS)(b101'''':LE)(b102'''':LC):Option (Bool) :=
 bif decide (v203<(List.length x18:Int)) then ((ix x18 v203).bind λ x19 =>
 (some (zal (0:Int) x19 x7.claims)).bind λ x20 =>
 (some ()).bind λ _ =>
 bif decide ((0:Int)<x20.1) then (bif decide (x20.1<=b2406_4) then ((addS (strC [100,101,108,105,118,101,114,32]) x19).bind λ x21 =>
 (addS x21 (strC [32])).bind λ x22 =>
 (addS x22 x5).bind λ x23 =>
 (addS x23 (strC [32])).bind λ x24 =>
 (f30 N x20.1).bind λ x25 =>
 (addS x24 x25).bind λ x26 =>
 (f18 N x26 (b106_1'''') (b100''''') (b101'''') (b102'''')).bind λ x27 =>
 bif decide (¬ x27.1=(0:Int)) then (some (false))
 else (r28 (W (v203+(1:Int))) x27.2.2.2.2 (W (b2406_4-x20.1)) x27.2.1 x27.2.2.1 x27.2.2.2.1))
 else (r28 (W (v203+(1:Int))) (b106_1'''') b2406_4 (b100''''') (b101'''') (b102'''')))
 else (r28 (W (v203+(1:Int))) (b106_1'''') b2406_4 (b100''''') (b101'''') (b102'''')))
 else (k3 (b106_1'''') (b100''''') (b101'''') (b102''''))
def zdS (N:Nat)(b100':List (ByteArray×RunM))(b200:List (ByteArray×A2strN))(x4:LB)(v42:Int)(x5:ByteArray)(x6:Nat)(x7:RunM)(x11:Tally×Int)(k3:LB->LS->LE->LC->Option (Bool))(x18:LB):Nat->Int->LB->Int->LS->LE->LC->Option (Bool)
 | 0,_,_,_,_,_,_=>none
 | n+1,v203,b106_1'''',b2406_4,b100''''',b101'''',b102'''' => zj0 (zdS N b100' b200 x4 v42 x5 x6 x7 x11 k3 x18 n) N b100' b200 x4 v42 x5 x6 x7 x11 k3 x18 v203 b106_1'''' b2406_4 b100''''' b101'''' b102''''
def zq5 (N:Nat)(b100':List (ByteArray×RunM))(b200:List (ByteArray×A2strN))(x4:LB)(v42:Int)(x5:ByteArray)(x6:Nat)(x7:RunM)(x11:Tally×Int)(k3:LB->LS->LE->LC->Option (Bool))(x18:LB):Lp (Nat×Int×LB×Int×LS×LE×LC) (Nat×Nat×Nat) (Bool):=lpm ⟨[3,4,5,8,9,18,40,41,42,201,202,203],[2406,90520,zxl,zxj,zxm,zxn,zxo,zxk,zxp],[(.cell zxo 1,90520,9,1)],[]⟩ (λ (n,v203,b106_1'''',b2406_4,b100''''',b101'''',b102'''')=>zdS N b100' b200 x4 v42 x5 x6 x7 x11 k3 x18 n v203 b106_1'''' b2406_4 b100''''' b101'''' b102'''') (λ (_,v203,_,_,_,_,_) (m0,m1,_)=>[.ptr zxo 0, .mp zxk, .mp zxp, .dat (strN x5), .po zxk x6 0, .ptr 2406 0, .dat (zaE x4), .dat (iN (m0:Int)), .dat (iN v42), .dat (zaE x18), .dat (iN (m1:Int)), .dat (iN v203)]) (λ (_,_,b106_1'''',b2406_4,b100''''',b101'''',b102'''') (_,_,m2)=>[.box [.dat (iN x11.1.Paper), .dat (iN x11.1.Delivered), .dat (iN x11.1.Spoilt), .dat (iN x11.1.Lost), .dat (iN b2406_4)],(rW b106_1''''),(sW [zxj] b100'''''),(eW b101''''),(mW b102''''), .box [.mp zxl, .mp zxj, .mp zxm], .box [.ptr zxn 0, .rs 90520 m2], .fam [] (encF strN RunM.m (b100')) [], .mp (encM strN A2strN.d b200)]) λ (_,_,b106_1'''',_,_,_,_)=>(List.length x4,List.length x18,List.length (b106_1''''))
instance Ef13_28 {N b100' b200 x4 v42 x5 x6 x7 x11 k3 x18 n v203 b106_1'''' b2406_4 b100''''' b101'''' b102''''}:IsLp 3 6 (zdS N b100' b200 x4 v42 x5 x6 x7 x11 k3 x18 n v203 b106_1'''' b2406_4 b100''''' b101'''' b102'''') (zq5 N b100' b200 x4 v42 x5 x6 x7 x11 k3 x18) (n,v203,b106_1'''',b2406_4,b100''''',b101'''',b102''''):=⟨rfl⟩
def zfg (N:Nat)(b100':List (ByteArray×RunM))(b200:List (ByteArray×A2strN))(x4:LB)(v42:Int)(k1:LB->LS->LE->LC->Option (Bool))(x5:ByteArray)(x6:Nat)(x7:RunM)(x9:Tally×Int)(b106_1''':LB)(b100'''':LS)(b101''':LE)(b102''':LC):Option (Bool) :=
 (f33 N x5 (b106_1''') (b100'''') (b101''') (b102''')).bind λ x10 =>
 (some ()).bind λ _ =>
 (f34 N x5 (b106_1''') (b100'''') (b101''') (b102''')).bind λ x11 =>
 bif decide (¬ x10.2=(0:Int)) then (some (false))
 else (bif decide (¬ x11.2=(0:Int)) then (some (false))
 else ((lnL x7.stones).bind λ x12 =>
 bif decide (¬ (List.length x10.1:Int)=(W ((x12:Int)+(1:Int)))) then (some (false))
 else (bif !(decide (x9.1.Paper=x11.1.Paper)&&(decide (x9.1.Delivered=x11.1.Delivered)&&(decide (x9.1.Spoilt=x11.1.Spoilt)&&(decide (x9.1.Lost=x11.1.Lost)&&(decide (x9.1.Rest=x11.1.Rest)&&true))))) then (some (false))
 else ((ix x10.1 (W ((List.length x10.1:Int)-(1:Int)))).bind λ x13 =>
 bif decide (¬ x13=x11.1.Rest) then (some (false))
 else (zaS (zff N b100' b200 x4 v42 k1 x5 x6 x7) λ k3 =>
 (f29 N ).bind λ x18 =>
 zdS N b100' b200 x4 v42 x5 x6 x7 x11 k3 x18 N (0:Int) (b106_1''') x11.1.Rest (b100'''') (b101''') (b102'''))))))
def zj1 (N:Nat)(b100':List (ByteArray×RunM))(b200:List (ByteArray×A2strN))(x4:LB)(v42:Int)(k1:LB->LS->LE->LC->Option (Bool))(x5:ByteArray)(x6:Nat)(x7:RunM)(x9:Tally×Int):Lp (LB×LS×LE×LC) (Nat×Nat) (Bool):=lpm ⟨[3,4,5,8,9,10,40,41,42],[1006,1303,90520,zxl,zxj,zxm,zxn,zxo,zxk,zxp],[(.cell zxo 1,90520,9,1)],[]⟩ (λ (b106_1''',b100'''',b101''',b102''')=>zfg N b100' b200 x4 v42 k1 x5 x6 x7 x9 b106_1''' b100'''' b101''' b102''') (λ (_,_,_,_) (m0,_)=>[.ptr zxo 0, .mp zxk, .mp zxp, .dat (strN x5), .po zxk x6 0, .ptr 1006 0, .dat (zaE x4), .dat (iN (m0:Int)), .dat (iN v42)]) (λ (b106_1''',b100'''',b101''',b102''') (_,m1)=>[.box [.dat (iN x9.1.Paper), .dat (iN x9.1.Delivered), .dat (iN x9.1.Spoilt), .dat (iN x9.1.Lost), .dat (iN x9.1.Rest)],(rW x7.stones),(rW b106_1'''),(sW [zxj] b100''''),(eW b101'''),(mW b102'''), .box [.mp zxl, .mp zxj, .mp zxm], .box [.ptr zxn 0, .rs 90520 m1], .fam [] (encF strN RunM.m (b100')) [(x6,1,1303)], .mp (encM strN A2strN.d b200)]) λ (b106_1''',_,_,_)=>(List.length x4,List.length (b106_1'''))
instance Ef13_c23 {N b100' b200 x4 v42 k1 x5 x6 x7 x9 b106_1''' b100'''' b101''' b102'''}:IsLp 2 4 (zfg N b100' b200 x4 v42 k1 x5 x6 x7 x9 b106_1''' b100'''' b101''' b102''') (zj1 N b100' b200 x4 v42 k1 x5 x6 x7 x9) (b106_1''',b100'''',b101''',b102'''):=⟨rfl⟩
instance Cf13_c23 {N b100' b200 x4 v42 k1 x5 x6 x7 x9}:IsCut 4 (zfg N b100' b200 x4 v42 k1 x5 x6 x7 x9) (zj1 N b100' b200 x4 v42 k1 x5 x6 x7 x9) 23:=⟨⟩
def zj2 (r14:Int->LB->LS->LE->LC->Option (Bool))(N:Nat)(b100':List (ByteArray×RunM))(b200:List (ByteArray×A2strN))(x4:LB)(v42:Int)(x5:ByteArray)(x6:Nat)(x7:RunM)(x9:Tally×Int)(k4:LB->LS->LE->LC->Option (Bool))(v90:Int)(b106_1''':LB)(b100'''':LS)(b101''':LE)(b102''':LC):Option (Bool) :=
 bif decide (v90<(List.length x7.stones:Int)) then ((ix x7.stones v90).bind λ x28 =>
 (f33 N x5 (b106_1''') (b100'''') (b101''') (b102''')).bind λ x29 =>
 bif decide (¬ x29.2=(0:Int)) then ((some ()).bind λ _ =>
 some (false))
 else (bif decide (¬ (List.length x29.1:Int)=(W ((List.length x7.stones:Int)+(1:Int)))) then ((some ()).bind λ _ =>
 some (false))
 else (bif decide (x7.ground<=v90) then ((ix x29.1 v90).bind λ x30 =>
 bif decide ((0:Int)<x30) then ((some (zal (A2strN.mk zaq zaq) x28 b200)).bind λ x31 =>
 bif decide (x31.1.e1=x5) then (bif decide ((1000:Int)<x30) then ((some ()).bind λ _ =>
 some (false))
 else ((addS (strC [112,114,105,110,116,32]) x28).bind λ x32 =>
 (addS x32 (strC [32])).bind λ x33 =>
 (f30 N x30).bind λ x34 =>
 (addS x33 x34).bind λ x35 =>
 (addS x35 (strC [32,48])).bind λ x36 =>
 (f18 N x36 (b106_1''') (b100'''') (b101''') (b102''')).bind λ x37 =>
 bif decide (¬ x37.1=(0:Int)) then ((some ()).bind λ _ =>
 some (false))
 else (r14 (W (v90+(1:Int))) x37.2.2.2.2 x37.2.1 x37.2.2.1 x37.2.2.2.1)))
 else (r14 (W (v90+(1:Int))) (b106_1''') (b100'''') (b101''') (b102''')))
 else (r14 (W (v90+(1:Int))) (b106_1''') (b100'''') (b101''') (b102''')))
 else (r14 (W (v90+(1:Int))) (b106_1''') (b100'''') (b101''') (b102''')))))
 else (k4 (b106_1''') (b100'''') (b101''') (b102'''))
def zdz (N:Nat)(b100':List (ByteArray×RunM))(b200:List (ByteArray×A2strN))(x4:LB)(v42:Int)(x5:ByteArray)(x6:Nat)(x7:RunM)(x9:Tally×Int)(k4:LB->LS->LE->LC->Option (Bool)):Nat->Int->LB->LS->LE->LC->Option (Bool)
 | 0,_,_,_,_,_=>none
 | n+1,v90,b106_1''',b100'''',b101''',b102''' => zj2 (zdz N b100' b200 x4 v42 x5 x6 x7 x9 k4 n) N b100' b200 x4 v42 x5 x6 x7 x9 k4 v90 b106_1''' b100'''' b101''' b102'''
def zq6 (N:Nat)(b100':List (ByteArray×RunM))(b200:List (ByteArray×A2strN))(x4:LB)(v42:Int)(x5:ByteArray)(x6:Nat)(x7:RunM)(x9:Tally×Int)(k4:LB->LS->LE->LC->Option (Bool)):Lp (Nat×Int×LB×LS×LE×LC) (Nat×Nat×Nat) (Bool):=lpm ⟨[3,4,5,8,9,10,40,41,42,88,89,90],[1006,1303,90520,zxl,zxj,zxm,zxn,zxo,zxk,zxp],[(.cell zxo 1,90520,9,1)],[]⟩ (λ (n,v90,b106_1''',b100'''',b101''',b102''')=>zdz N b100' b200 x4 v42 x5 x6 x7 x9 k4 n v90 b106_1''' b100'''' b101''' b102''') (λ (_,v90,_,_,_,_) (m0,m1,_)=>[.ptr zxo 0, .mp zxk, .mp zxp, .dat (strN x5), .po zxk x6 0, .ptr 1006 0, .dat (zaE x4), .dat (iN (m0:Int)), .dat (iN v42), .rs 1303 m1, .dat (iN (List.length x7.stones:Int)), .dat (iN v90)]) (λ (_,_,b106_1''',b100'''',b101''',b102''') (_,_,m2)=>[.box [.dat (iN x9.1.Paper), .dat (iN x9.1.Delivered), .dat (iN x9.1.Spoilt), .dat (iN x9.1.Lost), .dat (iN x9.1.Rest)],(rW x7.stones),(rW b106_1'''),(sW [zxj] b100''''),(eW b101'''),(mW b102'''), .box [.mp zxl, .mp zxj, .mp zxm], .box [.ptr zxn 0, .rs 90520 m2], .fam [] (encF strN RunM.m (b100')) [(x6,1,1303)], .mp (encM strN A2strN.d b200)]) λ (_,_,b106_1''',_,_,_)=>(List.length x4,List.length x7.stones,List.length (b106_1'''))
instance Ef13_14 {N b100' b200 x4 v42 x5 x6 x7 x9 k4 n v90 b106_1''' b100'''' b101''' b102'''}:IsLp 3 5 (zdz N b100' b200 x4 v42 x5 x6 x7 x9 k4 n v90 b106_1''' b100'''' b101''' b102''') (zq6 N b100' b200 x4 v42 x5 x6 x7 x9 k4) (n,v90,b106_1''',b100'''',b101''',b102'''):=⟨rfl⟩
def zfh (N:Nat)(b100':List (ByteArray×RunM))(b200:List (ByteArray×A2strN))(x4:LB)(v42:Int)(k1:LB->LS->LE->LC->Option (Bool))(x5:ByteArray)(x6:Nat)(x7:RunM)(x9:Tally×Int)(b106_1'':LB)(b100''':LS)(b101'':LE)(b102'':LC):Option (Bool) :=
 zaS (zfg N b100' b200 x4 v42 k1 x5 x6 x7 x9) λ k4 =>
 zdz N b100' b200 x4 v42 x5 x6 x7 x9 k4 N (0:Int) (b106_1'') (b100''') (b101'') (b102'')
def zj3 (N:Nat)(b100':List (ByteArray×RunM))(b200:List (ByteArray×A2strN))(x4:LB)(v42:Int)(k1:LB->LS->LE->LC->Option (Bool))(x5:ByteArray)(x6:Nat)(x7:RunM)(x9:Tally×Int):Lp (LB×LS×LE×LC) (Nat×Nat) (Bool):=lpm ⟨[3,4,5,8,9,10,40,41,42],[1006,90520,zxl,zxj,zxm,zxn,zxo,zxk,zxp],[(.cell zxo 1,90520,9,1)],[]⟩ (λ (b106_1'',b100''',b101'',b102'')=>zfh N b100' b200 x4 v42 k1 x5 x6 x7 x9 b106_1'' b100''' b101'' b102'') (λ (_,_,_,_) (m0,_)=>[.ptr zxo 0, .mp zxk, .mp zxp, .dat (strN x5), .po zxk x6 0, .ptr 1006 0, .dat (zaE x4), .dat (iN (m0:Int)), .dat (iN v42)]) (λ (b106_1'',b100''',b101'',b102'') (_,m1)=>[.box [.dat (iN x9.1.Paper), .dat (iN x9.1.Delivered), .dat (iN x9.1.Spoilt), .dat (iN x9.1.Lost), .dat (iN x9.1.Rest)],(rW b106_1''),(sW [zxj] b100'''),(eW b101''),(mW b102''), .box [.mp zxl, .mp zxj, .mp zxm], .box [.ptr zxn 0, .rs 90520 m1], .fam [] (encF strN RunM.m (b100')) [], .mp (encM strN A2strN.d b200)]) λ (b106_1'',_,_,_)=>(List.length x4,List.length (b106_1''))
instance Ef13_c13 {N b100' b200 x4 v42 k1 x5 x6 x7 x9 b106_1'' b100''' b101'' b102''}:IsLp 2 4 (zfh N b100' b200 x4 v42 k1 x5 x6 x7 x9 b106_1'' b100''' b101'' b102'') (zj3 N b100' b200 x4 v42 k1 x5 x6 x7 x9) (b106_1'',b100''',b101'',b102''):=⟨rfl⟩
instance Cf13_c13 {N b100' b200 x4 v42 k1 x5 x6 x7 x9}:IsCut 4 (zfh N b100' b200 x4 v42 k1 x5 x6 x7 x9) (zj3 N b100' b200 x4 v42 k1 x5 x6 x7 x9) 13:=⟨⟩
def zfU (r6:Int->LB->LS->LE->LC->Option (Bool))(N:Nat)(b100':List (ByteArray×RunM))(b200:List (ByteArray×A2strN))(k0:Option (Bool))(x4:LB)(v42:Int)(b106_1':LB)(b100'':LS)(b101':LE)(b102':LC):Option (Bool) :=
 bif decide (v42<(List.length x4:Int)) then (zaS (zeb b100' b200 x4 v42 r6) λ k1 =>
 (ix x4 v42).bind λ x5 =>
 onO (zan x5 (b100')) (k1 (b106_1') (b100'') (b101') (b102')) λ x6 =>
 (getF (b100') x6).bind λ x7 =>
 (lnL x7.stones).bind λ x8 =>
 bif decide ((x8:Int)=(0:Int)) then (k1 (b106_1') (b100'') (b101') (b102'))
 else ((f34 N x5 (b106_1') (b100'') (b101') (b102')).bind λ x9 =>
 zaS (zfh N b100' b200 x4 v42 k1 x5 x6 x7 x9) λ k5 =>
 bif decide (¬ x9.2=(0:Int)) then (some (false))
 else (bif decide (x9.2=(0:Int)) then (bif !x7.closed then ((addS (strC [99,108,111,115,101,32]) x5).bind λ x38 =>
 (f18 N x38 (b106_1') (b100'') (b101') (b102')).bind λ x39 =>
 bif decide (¬ x39.1=(0:Int)) then (some (false))
 else (k5 x39.2.2.2.2 x39.2.1 x39.2.2.1 x39.2.2.2.1))
 else (k5 (b106_1') (b100'') (b101') (b102')))
 else (k5 (b106_1') (b100'') (b101') (b102')))))
 else k0
def zhZ (N:Nat)(b100':List (ByteArray×RunM))(b200:List (ByteArray×A2strN))(k0:Option (Bool))(x4:LB):Nat->Int->LB->LS->LE->LC->Option (Bool)
 | 0,_,_,_,_,_=>none
 | n+1,v42,b106_1',b100'',b101',b102' => zfU (zhZ N b100' b200 k0 x4 n) N b100' b200 k0 x4 v42 b106_1' b100'' b101' b102'
def ztY (N:Nat)(b100':List (ByteArray×RunM))(b200:List (ByteArray×A2strN))(k0:Option (Bool))(x4:LB):Lp (Nat×Int×LB×LS×LE×LC) (Nat×Nat) (Bool):=lpm ⟨[3,4,5,40,41,42],[90520,zxl,zxj,zxm,zxn,zxo,zxk,zxp],[(.cell zxo 1,90520,9,1)],[]⟩ (λ (n,v42,b106_1',b100'',b101',b102')=>zhZ N b100' b200 k0 x4 n v42 b106_1' b100'' b101' b102') (λ (_,v42,_,_,_,_) (m0,_)=>[.ptr zxo 0, .mp zxk, .mp zxp, .dat (zaE x4), .dat (iN (m0:Int)), .dat (iN v42)]) (λ (_,_,b106_1',b100'',b101',b102') (_,m1)=>[(rW b106_1'),(sW [zxj] b100''),(eW b101'),(mW b102'), .box [.mp zxl, .mp zxj, .mp zxm], .box [.ptr zxn 0, .rs 90520 m1], .fam [] (encF strN RunM.m (b100')) [], .mp (encM strN A2strN.d b200)]) λ (_,_,b106_1',_,_,_)=>(List.length x4,List.length (b106_1'))
instance Ef13_6 {N b100' b200 k0 x4 n v42 b106_1' b100'' b101' b102'}:IsLp 2 5 (zhZ N b100' b200 k0 x4 n v42 b106_1' b100'' b101' b102') (ztY N b100' b200 k0 x4) (n,v42,b106_1',b100'',b101',b102'):=⟨rfl⟩
def zbT (N:Nat)(b106_1:LB)(b100:LS)(b101:LE)(b102:LC)(x2:LB)(b100':List (ByteArray×RunM))(b200:List (ByteArray×A2strN)):Option (Bool) :=
 zaS (zbN N) λ k0 =>
 (f28 N ).bind λ x4 =>
 zhZ N b100' b200 k0 x4 N (0:Int) b106_1 b100 b101 b102
def zec (N:Nat)(b106_1:LB)(b100:LS)(b101:LE)(b102:LC)(x2:LB):Lp ((List (ByteArray×RunM))×(List (ByteArray×A2strN))) (Nat×Unit) (Bool):=lpm ⟨[5,6],[201,zxq,zxl,zxj,zxm,zxn,zxo,zxk,zxp],[],[]⟩ (λ (b100',b200)=>zbT N b106_1 b100 b101 b102 x2 b100' b200) (λ (_,_) (_,_)=>[.mp zxk, .mp zxp]) (λ (b100',b200) (m0,_)=>[(rW x2),(rW b106_1),(sW [zxj] b100),(eW b101),(mW b102), .box [.mp zxl, .mp zxj, .mp zxm], .box [.ptr zxn 0, .rs zxq m0], .fam [] (encF strN RunM.m (b100')) [], .mp (encM strN A2strN.d b200)]) λ (_,_)=>(List.length b106_1,())
instance zs5 {N b106_1 b100 b101 b102 x2 b100' b200}:IsLp 1 2 (zbT N b106_1 b100 b101 b102 x2 b100' b200) (zec N b106_1 b100 b101 b102 x2) (b100',b200):=⟨rfl⟩
instance zs6 {N b106_1 b100 b101 b102 x2}:IsCut 2 (zbT N b106_1 b100 b101 b102 x2) (zec N b106_1 b100 b101 b102 x2) 103000101000107000000063:=⟨⟩
def zbf (b106_1:LB)(b100:LS)(b101:LE)(b102:LC)(x2:LB)(v20:Int)(r4:Int->(List (ByteArray×RunM))->(List (ByteArray×A2strN))->Option (Bool))(b100'':List (ByteArray×RunM))(b200':List (ByteArray×A2strN)):Option (Bool) :=
 r4 (W (v20+(1:Int))) (b100'') (b200')
def zed (b106_1:LB)(b100:LS)(b101:LE)(b102:LC)(x2:LB)(v20:Int)(r4:Int->(List (ByteArray×RunM))->(List (ByteArray×A2strN))->Option (Bool)):Lp ((List (ByteArray×RunM))×(List (ByteArray×A2strN))) (Nat×Nat×Nat) (Bool):=lpm ⟨[5,6,18,19,20],[201,zxq,zxl,zxj,zxm,zxn,zxo,zxk,zxp],[],[]⟩ (λ (b100'',b200')=>zbf b106_1 b100 b101 b102 x2 v20 r4 b100'' b200') (λ (_,_) (m0,m1,_)=>[.mp zxk, .mp zxp, .rs 201 m0, .dat (iN (m1:Int)), .dat (iN v20)]) (λ (b100'',b200') (_,_,m2)=>[(rW x2),(rW b106_1),(sW [zxj] b100),(eW b101),(mW b102), .box [.mp zxl, .mp zxj, .mp zxm], .box [.ptr zxn 0, .rs zxq m2], .fam [] (encF strN RunM.m (b100'')) [], .mp (encM strN A2strN.d (b200'))]) λ (_,_)=>(List.length x2,List.length x2,List.length b106_1)
instance zs7 {b106_1 b100 b101 b102 x2 v20 r4 b100'' b200'}:IsLp 3 2 (zbf b106_1 b100 b101 b102 x2 v20 r4 b100'' b200') (zed b106_1 b100 b101 b102 x2 v20 r4) (b100'',b200'):=⟨rfl⟩
instance zs8 {b106_1 b100 b101 b102 x2 v20 r4}:IsCut 2 (zbf b106_1 b100 b101 b102 x2 v20 r4) (zed b106_1 b100 b101 b102 x2 v20 r4) 103000101000107000000062:=⟨⟩
def zdA (r23:Int->(List (ByteArray×RunM))->Option (Bool))(b106_1:LB)(b100:LS)(b101:LE)(b102:LC)(x2:LB)(v20:Int)(b200:List (ByteArray×A2strN))(k7:(List (ByteArray×RunM))->(List (ByteArray×A2strN))->Option (Bool))(x42:LB)(x59:ByteArray)(x61:Int)(v122:Int)(b100'':List (ByteArray×RunM)):Option (Bool) :=
 bif decide (v122<(min x61 (100:Int))) then (onO (zan x59 (b100'')) none λ x62 =>
 (getF (b100'') x62).bind λ x63 =>
 (app 8 x63.sheets [(0:Int)]).bind λ x64 =>
 (some (setF (b100'') x62 ({ x63 with sheets:=x64 }))).bind λ x65 =>
 r23 (W (v122+(1:Int))) x65)
 else (k7 (b100'') b200)
def zbU (b106_1:LB)(b100:LS)(b101:LE)(b102:LC)(x2:LB)(v20:Int)(b200:List (ByteArray×A2strN))(k7:(List (ByteArray×RunM))->(List (ByteArray×A2strN))->Option (Bool))(x42:LB)(x59:ByteArray)(x61:Int):Nat->Int->(List (ByteArray×RunM))->Option (Bool)
 | 0,_,_=>none
 | n+1,v122,b100'' => zdA (zbU b106_1 b100 b101 b102 x2 v20 b200 k7 x42 x59 x61 n) b106_1 b100 b101 b102 x2 v20 b200 k7 x42 x59 x61 v122 b100''
def zgA (b106_1:LB)(b100:LS)(b101:LE)(b102:LC)(x2:LB)(v20:Int)(b200:List (ByteArray×A2strN))(k7:(List (ByteArray×RunM))->(List (ByteArray×A2strN))->Option (Bool))(x42:LB)(x59:ByteArray)(x61:Int):Lp (Nat×Int×(List (ByteArray×RunM))) (Nat×Nat×Nat×Nat) (Bool):=lpm ⟨[5,6,9,18,19,20,121,122],[201,zxq,zxl,zxj,zxm,zxn,zxo,zxk,zxp,zxr],[],[]⟩ (λ (n,v122,b100'')=>zbU b106_1 b100 b101 b102 x2 v20 b200 k7 x42 x59 x61 n v122 b100'') (λ (_,v122,_) (m0,m1,m2,_)=>[.mp zxk, .mp zxp, .rs zxr m0, .rs 201 m1, .dat (iN (m2:Int)), .dat (iN v20), .dat (iN (min x61 (100:Int))), .dat (iN v122)]) (λ (_,_,b100'') (_,_,_,m3)=>[(rW x2),(rW b106_1),(sW [zxj] b100),(eW b101),(mW b102), .box [.mp zxl, .mp zxj, .mp zxm], .box [.ptr zxn 0, .rs zxq m3], .fam [] (encF strN RunM.m (b100'')) [], .mp (encM strN A2strN.d b200),(rW x42)]) λ (_,_,_)=>(List.length x42,List.length x2,List.length x2,List.length b106_1)
instance ztZ {b106_1 b100 b101 b102 x2 v20 b200 k7 x42 x59 x61 n v122 b100''}:IsLp 4 2 (zbU b106_1 b100 b101 b102 x2 v20 b200 k7 x42 x59 x61 n v122 b100'') (zgA b106_1 b100 b101 b102 x2 v20 b200 k7 x42 x59 x61) (n,v122,b100''):=⟨rfl⟩
def zaN (r1x:Int->Int->(List Int)->Option (Bool))(b106_1:LB)(b100:LS)(b101:LE)(b102:LC)(x2:LB)(b200:List (ByteArray×A2strN))(k7:(List (ByteArray×RunM))->(List (ByteArray×A2strN))->Option (Bool))(x42:LB)(x69:Nat)(v12:Int)(x88:List Int)(x89:List (ByteArray×RunM))(n3':Int)(v15':Int)(b3':List Int):Option (Bool) :=
 bif decide ((v15')<(List.length x88:Int)) then ((ix (b3') (v15')).bind λ x91 =>
 bif decide (x91=v12) then (bif decide ((0:Int)<(n3')) then ((getF x89 x69).bind λ x92 =>
 (zg x92.sheets (b3')).bind λ x93 =>
 (setx (b3') (v15') (W (v12+(1:Int)))).bind λ x94 =>
 r1x (W ((n3')-(1:Int))) (W ((v15')+(1:Int))) x94)
 else (r1x (n3') (W ((v15')+(1:Int))) (b3')))
 else (r1x (n3') (W ((v15')+(1:Int))) (b3')))
 else ((getF x89 x69).bind λ x95 =>
 (zg x95.sheets (b3')).bind λ x96 =>
 (some (setF x89 x69 ({ x95 with sheets:=x96 }))).bind λ x97 =>
 k7 x97 b200)
def zam (b106_1:LB)(b100:LS)(b101:LE)(b102:LC)(x2:LB)(b200:List (ByteArray×A2strN))(k7:(List (ByteArray×RunM))->(List (ByteArray×A2strN))->Option (Bool))(x42:LB)(x69:Nat)(v12:Int)(x88:List Int)(x89:List (ByteArray×RunM)):Nat->Int->Int->(List Int)->Option (Bool)
 | 0,_,_,_=>none
 | n+1,n3',v15',b3' => zaN (zam b106_1 b100 b101 b102 x2 b200 k7 x42 x69 v12 x88 x89 n) b106_1 b100 b101 b102 x2 b200 k7 x42 x69 v12 x88 x89 n3' v15' b3'
def zbn (b106_1:LB)(b100:LS)(b101:LE)(b102:LC)(x2:LB)(b200:List (ByteArray×A2strN))(k7:(List (ByteArray×RunM))->(List (ByteArray×A2strN))->Option (Bool))(x42:LB)(x69:Nat)(v12:Int)(x88:List Int)(x89:List (ByteArray×RunM)):Lp (Nat×Int×Int×(List Int)) (Nat×Nat×Nat) (Bool):=lpm ⟨[0,1,2,3,13,14,15],[201,zxq,zxl,zxj,zxm,zxn,zxo,zxk,zxp,zxr,zxs,zxz,zxA],[],[]⟩ (λ (n,n3',v15',b3')=>zam b106_1 b100 b101 b102 x2 b200 k7 x42 x69 v12 x88 x89 n n3' v15' b3') (λ (_,n3',v15',_) (m0,m1,_)=>[.po zxk x69 0, .dat (iN v12), .dat (iN (W (v12+(1:Int)))), .dat (iN (n3')), .rs zxA m0, .dat (iN (m1:Int)), .dat (iN (v15'))]) (λ (_,_,_,b3') (_,_,m2)=>[(rW x2),(rW b106_1),(sW [zxj] b100),(eW b101),(mW b102), .box [.mp zxl, .mp zxj, .mp zxm], .box [.ptr zxn 0, .rs zxq m2], .fam [] (encF strN RunM.m x89) [(x69,0,zxA)], .mp (encM strN A2strN.d b200),(rW x42), .dead, .dead, .row 3 1 (List.map iN (b3'))]) λ (_,_,_,b3')=>(List.length (b3'),List.length x88,List.length b106_1)
instance zfj {b106_1 b100 b101 b102 x2 b200 k7 x42 x69 v12 x88 x89 n n3' v15' b3'}:IsLp 3 3 (zam b106_1 b100 b101 b102 x2 b200 k7 x42 x69 v12 x88 x89 n n3' v15' b3') (zbn b106_1 b100 b101 b102 x2 b200 k7 x42 x69 v12 x88 x89) (n,n3',v15',b3'):=⟨rfl⟩
def zaO (r1:Int->Int->(List Int)->Option (Bool))(N:Nat)(b106_1:LB)(b100:LS)(b101:LE)(b102:LC)(x2:LB)(b200:List (ByteArray×A2strN))(k7:(List (ByteArray×RunM))->(List (ByteArray×A2strN))->Option (Bool))(x42:LB)(x43:ByteArray)(x69:Nat)(v12:Int)(x70:RunM)(x72:List (ByteArray×RunM))(n3:Int)(v15:Int)(b3:List Int):Option (Bool) :=
 bif decide (v15<(List.length x70.sheets:Int)) then ((ix b3 v15).bind λ x83 =>
 bif decide (x83=v12) then (bif decide ((0:Int)<n3) then ((getF x72 x69).bind λ x84 =>
 (zg x84.sheets b3).bind λ x85 =>
 (setx b3 v15 (-1:Int)).bind λ x86 =>
 r1 (W (n3-(1:Int))) (W (v15+(1:Int))) x86)
 else (r1 n3 (W (v15+(1:Int))) b3))
 else (r1 n3 (W (v15+(1:Int))) b3))
 else ((getF x72 x69).bind λ x87 =>
 (zg x87.sheets b3).bind λ x88 =>
 (some (setF x72 x69 ({ x87 with sheets:=x88 }))).bind λ x89 =>
 (f49 N x43).bind λ x90 =>
 zam b106_1 b100 b101 b102 x2 b200 k7 x42 x69 v12 x88 x89 N x90 (0:Int) x88)
def zas (N:Nat)(b106_1:LB)(b100:LS)(b101:LE)(b102:LC)(x2:LB)(b200:List (ByteArray×A2strN))(k7:(List (ByteArray×RunM))->(List (ByteArray×A2strN))->Option (Bool))(x42:LB)(x43:ByteArray)(x69:Nat)(v12:Int)(x70:RunM)(x72:List (ByteArray×RunM)):Nat->Int->Int->(List Int)->Option (Bool)
 | 0,_,_,_=>none
 | n+1,n3,v15,b3=>zaO (zas N b106_1 b100 b101 b102 x2 b200 k7 x42 x43 x69 v12 x70 x72 n) N b106_1 b100 b101 b102 x2 b200 k7 x42 x43 x69 v12 x70 x72 n3 v15 b3
def zbo (N:Nat)(b106_1:LB)(b100:LS)(b101:LE)(b102:LC)(x2:LB)(b200:List (ByteArray×A2strN))(k7:(List (ByteArray×RunM))->(List (ByteArray×A2strN))->Option (Bool))(x42:LB)(x43:ByteArray)(x69:Nat)(v12:Int)(x70:RunM)(x72:List (ByteArray×RunM)):Lp (Nat×Int×Int×(List Int)) (Nat×Nat) (Bool):=lpm ⟨[0,1,2,3,13,14,15],[201,zxq,zxl,zxj,zxm,zxn,zxo,zxk,zxp,zxr,zxs,zxz],[],[]⟩ (λ (n,n3,v15,b3)=>zas N b106_1 b100 b101 b102 x2 b200 k7 x42 x43 x69 v12 x70 x72 n n3 v15 b3) (λ (_,n3,v15,_) (m0,_)=>[.po zxk x69 0, .dat (iN v12), .dat (iN (-1:Int)), .dat (iN n3), .rs zxz m0, .dat (iN (List.length x70.sheets:Int)), .dat (iN v15)]) (λ (_,_,_,b3) (_,m1)=>[(rW x2),(rW b106_1),(sW [zxj] b100),(eW b101),(mW b102), .box [.mp zxl, .mp zxj, .mp zxm], .box [.ptr zxn 0, .rs zxq m1], .fam [] (encF strN RunM.m x72) [(x69,0,zxz)], .mp (encM strN A2strN.d b200),(rW x42), .dead, .row 3 1 (List.map iN b3)]) λ (_,_,_,b3)=>(List.length b3,List.length b106_1)
instance zfk {N b106_1 b100 b101 b102 x2 b200 k7 x42 x43 x69 v12 x70 x72 n n3 v15 b3}:IsLp 2 3 (zas N b106_1 b100 b101 b102 x2 b200 k7 x42 x43 x69 v12 x70 x72 n n3 v15 b3) (zbo N b106_1 b100 b101 b102 x2 b200 k7 x42 x43 x69 v12 x70 x72) (n,n3,v15,b3):=⟨rfl⟩
def zby (N:Nat)(b106_1:LB)(b100:LS)(b101:LE)(b102:LC)(x2:LB)(v20:Int)(b100':List (ByteArray×RunM))(b200:List (ByteArray×A2strN))(k7:(List (ByteArray×RunM))->(List (ByteArray×A2strN))->Option (Bool))(x42:LB)(x43:ByteArray)(x45:ByteArray)(x66:ByteArray)(x69:Nat)(v12:Int)(b3203:LB):Option (Bool) :=
 (getF (b100') x69).bind λ x70 =>
 (zg x70.stones b3203).bind λ x71 =>
 (some (setF (b100') x69 ({ x70 with stones:=x71 }))).bind λ x72 =>
 bif decide (v12<(0:Int)) then (some (false))
 else (bif decide (x45=(strC [103,114,105,110,100])) then ((some (setF x72 x69 ({ x70 with stones:=x71,ground:=max x70.ground (W (v12+(1:Int))) }))).bind λ x73 =>
 (some (zal (A2strN.mk zaq zaq) x66 b200)).bind λ x74 =>
 (f49 N x74.1.e0).bind λ x75 =>
 (f30 N (W (x75-(1:Int)))).bind λ x76 =>
 (some (setK x66 (A2strN.mk x76 zaq) b200)).bind λ x77 =>
 k7 x73 x77)
 else ((f49 N x43).bind λ x78 =>
 (ix x42 (3:Int)).bind λ x79 =>
 (f49 N x79).bind λ x80 =>
 (f48 N ({ x70 with stones:=x71 }) v12).bind λ x81 =>
 bif decide (x81<(W (x78+x80))) then (some (false))
 else ((f49 N x79).bind λ x82 =>
 zas N b106_1 b100 b101 b102 x2 b200 k7 x42 x43 x69 v12 x70 x72 N x82 (0:Int) x70.sheets)))
def zc0 (N:Nat)(b106_1:LB)(b100:LS)(b101:LE)(b102:LC)(x2:LB)(v20:Int)(b100':List (ByteArray×RunM))(b200:List (ByteArray×A2strN))(k7:(List (ByteArray×RunM))->(List (ByteArray×A2strN))->Option (Bool))(x42:LB)(x43:ByteArray)(x45:ByteArray)(x66:ByteArray)(x69:Nat):Lp (Int×LB) (Nat×Nat×Nat×Nat) (Bool):=lpm ⟨[5,6,9,11,12,18,19,20],[201,zxq,zxl,zxj,zxm,zxn,zxo,zxk,zxp,zxr,zxs],[],[]⟩ (λ (v12,b3203)=>zby N b106_1 b100 b101 b102 x2 v20 b100' b200 k7 x42 x43 x45 x66 x69 v12 b3203) (λ (v12,_) (m0,m1,m2,_)=>[.mp zxk, .mp zxp, .rs zxr m0, .pn zxk (some x69), .dat (iN v12), .rs 201 m1, .dat (iN (m2:Int)), .dat (iN v20)]) (λ (_,b3203) (_,_,_,m3)=>[(rW x2),(rW b106_1),(sW [zxj] b100),(eW b101),(mW b102), .box [.mp zxl, .mp zxj, .mp zxm], .box [.ptr zxn 0, .rs zxq m3], .fam [] (encF strN RunM.m (b100')) [(x69,1,zxs)], .mp (encM strN A2strN.d b200),(rW x42),(rW b3203)]) λ (_,_)=>(List.length x42,List.length x2,List.length x2,List.length b106_1)
instance zs9 {N b106_1 b100 b101 b102 x2 v20 b100' b200 k7 x42 x43 x45 x66 x69 v12 b3203}:IsLp 4 2 (zby N b106_1 b100 b101 b102 x2 v20 b100' b200 k7 x42 x43 x45 x66 x69 v12 b3203) (zc0 N b106_1 b100 b101 b102 x2 v20 b100' b200 k7 x42 x43 x45 x66 x69) (v12,b3203):=⟨rfl⟩
instance zt {N b106_1 b100 b101 b102 x2 v20 b100' b200 k7 x42 x43 x45 x66 x69}:IsCut 2 (zby N b106_1 b100 b101 b102 x2 v20 b100' b200 k7 x42 x43 x45 x66 x69) (zc0 N b106_1 b100 b101 b102 x2 v20 b100' b200 k7 x42 x43 x45 x66 x69) zxB:=⟨⟩
def zgB (r33:Int->Int->Option (Bool))(b106_1:LB)(b100:LS)(b101:LE)(b102:LC)(x2:LB)(v20:Int)(b100':List (ByteArray×RunM))(b200:List (ByteArray×A2strN))(x42:LB)(x66:ByteArray)(x69:Nat)(k8:Int->LB->Option (Bool))(x98:RunM)(v12:Int)(v160:Int):Option (Bool) :=
 bif decide (v160<(List.length x98.stones:Int)) then ((ix x98.stones v160).bind λ x99 =>
 bif decide (x99=x66) then (r33 v160 (W (v160+(1:Int))))
 else (r33 v12 (W (v160+(1:Int)))))
 else (k8 v12 x98.stones)
def zcE (b106_1:LB)(b100:LS)(b101:LE)(b102:LC)(x2:LB)(v20:Int)(b100':List (ByteArray×RunM))(b200:List (ByteArray×A2strN))(x42:LB)(x66:ByteArray)(x69:Nat)(k8:Int->LB->Option (Bool))(x98:RunM):Nat->Int->Int->Option (Bool)
 | 0,_,_=>none
 | n+1,v12,v160=>zgB (zcE b106_1 b100 b101 b102 x2 v20 b100' b200 x42 x66 x69 k8 x98 n) b106_1 b100 b101 b102 x2 v20 b100' b200 x42 x66 x69 k8 x98 v12 v160
def zgC (b106_1:LB)(b100:LS)(b101:LE)(b102:LC)(x2:LB)(v20:Int)(b100':List (ByteArray×RunM))(b200:List (ByteArray×A2strN))(x42:LB)(x66:ByteArray)(x69:Nat)(k8:Int->LB->Option (Bool))(x98:RunM):Lp (Nat×Int×Int) (Nat×Nat×Nat×Nat×Nat) (Bool):=lpm ⟨[5,6,9,11,12,18,19,20,158,159,160],[201,zxq,zxl,zxj,zxm,zxn,zxo,zxk,zxp,zxr,zxs],[],[]⟩ (λ (n,v12,v160)=>zcE b106_1 b100 b101 b102 x2 v20 b100' b200 x42 x66 x69 k8 x98 n v12 v160) (λ (_,v12,v160) (m0,m1,m2,m3,_)=>[.mp zxk, .mp zxp, .rs zxr m0, .pn zxk (some x69), .dat (iN v12), .rs 201 m1, .dat (iN (m2:Int)), .dat (iN v20), .rs zxs m3, .dat (iN (List.length x98.stones:Int)), .dat (iN v160)]) (λ (_,_,_) (_,_,_,_,m4)=>[(rW x2),(rW b106_1),(sW [zxj] b100),(eW b101),(mW b102), .box [.mp zxl, .mp zxj, .mp zxm], .box [.ptr zxn 0, .rs zxq m4], .fam [] (encF strN RunM.m (b100')) [(x69,1,zxs)], .mp (encM strN A2strN.d b200),(rW x42),(rW x98.stones)]) λ (_,_,_)=>(List.length x42,List.length x2,List.length x2,List.length x98.stones,List.length b106_1)
instance zt0 {b106_1 b100 b101 b102 x2 v20 b100' b200 x42 x66 x69 k8 x98 n v12 v160}:IsLp 5 2 (zcE b106_1 b100 b101 b102 x2 v20 b100' b200 x42 x66 x69 k8 x98 n v12 v160) (zgC b106_1 b100 b101 b102 x2 v20 b100' b200 x42 x66 x69 k8 x98) (n,v12,v160):=⟨rfl⟩
def zbe (N:Nat)(b106_1:LB)(b100:LS)(b101:LE)(b102:LC)(x2:LB)(v20:Int)(b100':List (ByteArray×RunM))(b200:List (ByteArray×A2strN))(k7:(List (ByteArray×RunM))->(List (ByteArray×A2strN))->Option (Bool))(x42:LB)(x100:ByteArray)(x103:Nat)(v12:Int)(b3203:LB):Option (Bool) :=
 (getF (b100') x103).bind λ x104 =>
 (zg x104.stones b3203).bind λ x105 =>
 (some (setF (b100') x103 ({ x104 with stones:=x105 }))).bind λ x106 =>
 bif decide (v12<(0:Int)) then (some (false))
 else ((some (setF x106 x103 ({ x104 with stones:=x105,ground:=max x104.ground (W (v12+(1:Int))) }))).bind λ x107 =>
 (some (zal (A2strN.mk zaq zaq) x100 b200)).bind λ x108 =>
 (f49 N x108.1.e0).bind λ x109 =>
 (f30 N (W (x109-(1:Int)))).bind λ x110 =>
 (some (setK x100 (A2strN.mk x110 zaq) b200)).bind λ x111 =>
 k7 x107 x111)
def zcv (N:Nat)(b106_1:LB)(b100:LS)(b101:LE)(b102:LC)(x2:LB)(v20:Int)(b100':List (ByteArray×RunM))(b200:List (ByteArray×A2strN))(k7:(List (ByteArray×RunM))->(List (ByteArray×A2strN))->Option (Bool))(x42:LB)(x100:ByteArray)(x103:Nat):Lp (Int×LB) (Nat×Nat×Nat×Nat) (Bool):=lpm ⟨[5,6,9,11,12,18,19,20],[201,zxq,zxl,zxj,zxm,zxn,zxo,zxk,zxp,zxr,zxs],[],[]⟩ (λ (v12,b3203)=>zbe N b106_1 b100 b101 b102 x2 v20 b100' b200 k7 x42 x100 x103 v12 b3203) (λ (v12,_) (m0,m1,m2,_)=>[.mp zxk, .mp zxp, .rs zxr m0, .pn zxk (some x103), .dat (iN v12), .rs 201 m1, .dat (iN (m2:Int)), .dat (iN v20)]) (λ (_,b3203) (_,_,_,m3)=>[(rW x2),(rW b106_1),(sW [zxj] b100),(eW b101),(mW b102), .box [.mp zxl, .mp zxj, .mp zxm], .box [.ptr zxn 0, .rs zxq m3], .fam [] (encF strN RunM.m (b100')) [(x103,1,zxs)], .mp (encM strN A2strN.d b200),(rW x42),(rW b3203)]) λ (_,_)=>(List.length x42,List.length x2,List.length x2,List.length b106_1)
instance zq7 {N b106_1 b100 b101 b102 x2 v20 b100' b200 k7 x42 x100 x103 v12 b3203}:IsLp 4 2 (zbe N b106_1 b100 b101 b102 x2 v20 b100' b200 k7 x42 x100 x103 v12 b3203) (zcv N b106_1 b100 b101 b102 x2 v20 b100' b200 k7 x42 x100 x103) (v12,b3203):=⟨rfl⟩
instance zq8 {N b106_1 b100 b101 b102 x2 v20 b100' b200 k7 x42 x100 x103}:IsCut 2 (zbe N b106_1 b100 b101 b102 x2 v20 b100' b200 k7 x42 x100 x103) (zcv N b106_1 b100 b101 b102 x2 v20 b100' b200 k7 x42 x100 x103) zxB:=⟨⟩
def zeV (r33:Int->Int->Option (Bool))(b106_1:LB)(b100:LS)(b101:LE)(b102:LC)(x2:LB)(v20:Int)(b100':List (ByteArray×RunM))(b200:List (ByteArray×A2strN))(x42:LB)(x100:ByteArray)(x103:Nat)(k9:Int->LB->Option (Bool))(x112:RunM)(v12:Int)(v160:Int):Option (Bool) :=
 bif decide (v160<(List.length x112.stones:Int)) then ((ix x112.stones v160).bind λ x113 =>
 bif decide (x113=x100) then (r33 v160 (W (v160+(1:Int))))
 else (r33 v12 (W (v160+(1:Int)))))
 else (k9 v12 x112.stones)
def zbX (b106_1:LB)(b100:LS)(b101:LE)(b102:LC)(x2:LB)(v20:Int)(b100':List (ByteArray×RunM))(b200:List (ByteArray×A2strN))(x42:LB)(x100:ByteArray)(x103:Nat)(k9:Int->LB->Option (Bool))(x112:RunM):Nat->Int->Int->Option (Bool)
 | 0,_,_=>none
 | n+1,v12,v160=>zeV (zbX b106_1 b100 b101 b102 x2 v20 b100' b200 x42 x100 x103 k9 x112 n) b106_1 b100 b101 b102 x2 v20 b100' b200 x42 x100 x103 k9 x112 v12 v160
def zeW (b106_1:LB)(b100:LS)(b101:LE)(b102:LC)(x2:LB)(v20:Int)(b100':List (ByteArray×RunM))(b200:List (ByteArray×A2strN))(x42:LB)(x100:ByteArray)(x103:Nat)(k9:Int->LB->Option (Bool))(x112:RunM):Lp (Nat×Int×Int) (Nat×Nat×Nat×Nat×Nat) (Bool):=lpm ⟨[5,6,9,11,12,18,19,20,158,159,160],[201,zxq,zxl,zxj,zxm,zxn,zxo,zxk,zxp,zxr,zxs],[],[]⟩ (λ (n,v12,v160)=>zbX b106_1 b100 b101 b102 x2 v20 b100' b200 x42 x100 x103 k9 x112 n v12 v160) (λ (_,v12,v160) (m0,m1,m2,m3,_)=>[.mp zxk, .mp zxp, .rs zxr m0, .pn zxk (some x103), .dat (iN v12), .rs 201 m1, .dat (iN (m2:Int)), .dat (iN v20), .rs zxs m3, .dat (iN (List.length x112.stones:Int)), .dat (iN v160)]) (λ (_,_,_) (_,_,_,_,m4)=>[(rW x2),(rW b106_1),(sW [zxj] b100),(eW b101),(mW b102), .box [.mp zxl, .mp zxj, .mp zxm], .box [.ptr zxn 0, .rs zxq m4], .fam [] (encF strN RunM.m (b100')) [(x103,1,zxs)], .mp (encM strN A2strN.d b200),(rW x42),(rW x112.stones)]) λ (_,_,_)=>(List.length x42,List.length x2,List.length x2,List.length x112.stones,List.length b106_1)
instance zrI {b106_1 b100 b101 b102 x2 v20 b100' b200 x42 x100 x103 k9 x112 n v12 v160}:IsLp 5 2 (zbX b106_1 b100 b101 b102 x2 v20 b100' b200 x42 x100 x103 k9 x112 n v12 v160) (zeW b106_1 b100 b101 b102 x2 v20 b100' b200 x42 x100 x103 k9 x112) (n,v12,v160):=⟨rfl⟩
def zbp (r1:Int->Int->(List Int)->Option (Bool))(b106_1:LB)(b100:LS)(b101:LE)(b102:LC)(x2:LB)(b100':List (ByteArray×RunM))(b200:List (ByteArray×A2strN))(k7:(List (ByteArray×RunM))->(List (ByteArray×A2strN))->Option (Bool))(x42:LB)(x118:Nat)(x120:Int)(x121:RunM)(x124:ByteArray)(x126:Nat)(n3:Int)(v15:Int)(b3:List Int):Option (Bool) :=
 bif decide (v15<(List.length x121.sheets:Int)) then ((ix b3 v15).bind λ x127 =>
 bif decide (x127=(x126:Int)) then (bif decide ((0:Int)<n3) then ((zg x121.sheets b3).bind λ x128 =>
 (setx b3 v15 (-2:Int)).bind λ x129 =>
 r1 (W (n3-(1:Int))) (W (v15+(1:Int))) x129)
 else (r1 n3 (W (v15+(1:Int))) b3))
 else (r1 n3 (W (v15+(1:Int))) b3))
 else ((zg x121.sheets b3).bind λ x130 =>
 (some (setF (b100') x118 ({ x121 with sheets:=x130 }))).bind λ x131 =>
 (some (zal (0:Int) x124 x121.claims)).bind λ x132 =>
 (some (setK x124 (W (x132.1+(W (0-x120)))) x121.claims)).bind λ x133 =>
 (some (setF x131 x118 ({ x121 with sheets:=x130,claims:=x133 }))).bind λ x134 =>
 k7 x134 b200)
def zaG (b106_1:LB)(b100:LS)(b101:LE)(b102:LC)(x2:LB)(b100':List (ByteArray×RunM))(b200:List (ByteArray×A2strN))(k7:(List (ByteArray×RunM))->(List (ByteArray×A2strN))->Option (Bool))(x42:LB)(x118:Nat)(x120:Int)(x121:RunM)(x124:ByteArray)(x126:Nat):Nat->Int->Int->(List Int)->Option (Bool)
 | 0,_,_,_=>none
 | n+1,n3,v15,b3=>zbp (zaG b106_1 b100 b101 b102 x2 b100' b200 k7 x42 x118 x120 x121 x124 x126 n) b106_1 b100 b101 b102 x2 b100' b200 k7 x42 x118 x120 x121 x124 x126 n3 v15 b3
def zbq (b106_1:LB)(b100:LS)(b101:LE)(b102:LC)(x2:LB)(b100':List (ByteArray×RunM))(b200:List (ByteArray×A2strN))(k7:(List (ByteArray×RunM))->(List (ByteArray×A2strN))->Option (Bool))(x42:LB)(x118:Nat)(x120:Int)(x121:RunM)(x124:ByteArray)(x126:Nat):Lp (Nat×Int×Int×(List Int)) (Nat×Nat) (Bool):=lpm ⟨[0,1,2,3,13,14,15],[201,zxq,zxl,zxj,zxm,zxn,zxo,zxk,zxp,103000101000107000601,103000101000107000602,zxr,zxC,zxy],[],[]⟩ (λ (n,n3,v15,b3)=>zaG b106_1 b100 b101 b102 x2 b100' b200 k7 x42 x118 x120 x121 x124 x126 n n3 v15 b3) (λ (_,n3,v15,_) (m0,_)=>[.po zxk x118 0, .dat (iN (x126:Int)), .dat (iN (-2:Int)), .dat (iN n3), .rs zxy m0, .dat (iN (List.length x121.sheets:Int)), .dat (iN v15)]) (λ (_,_,_,b3) (_,m1)=>[(rW x2),(rW b106_1),(sW [zxj] b100),(eW b101),(mW b102), .box [.mp zxl, .mp zxj, .mp zxm], .box [.ptr zxn 0, .rs zxq m1], .fam [] (encF strN RunM.m (b100')) [(x118,0,zxy)], .mp (encM strN A2strN.d b200), .dead, .row 9 1 (List.map strN [zaq,zaq,zaq]),(rW x42), .dead, .row 3 1 (List.map iN b3)]) λ (_,_,_,b3)=>(List.length b3,List.length b106_1)
instance zfl {b106_1 b100 b101 b102 x2 b100' b200 k7 x42 x118 x120 x121 x124 x126 n n3 v15 b3}:IsLp 2 3 (zaG b106_1 b100 b101 b102 x2 b100' b200 k7 x42 x118 x120 x121 x124 x126 n n3 v15 b3) (zbq b106_1 b100 b101 b102 x2 b100' b200 k7 x42 x118 x120 x121 x124 x126) (n,n3,v15,b3):=⟨rfl⟩
def zaH (r1:Int->Int->(List Int)->Option (Bool))(b106_1:LB)(b100:LS)(b101:LE)(b102:LC)(x2:LB)(b100':List (ByteArray×RunM))(b200:List (ByteArray×A2strN))(k7:(List (ByteArray×RunM))->(List (ByteArray×A2strN))->Option (Bool))(x42:LB)(x140:Nat)(x142:Int)(x143:RunM)(x146:ByteArray)(x148:Nat)(n3:Int)(v15:Int)(b3:List Int):Option (Bool) :=
 bif decide (v15<(List.length x143.sheets:Int)) then ((ix b3 v15).bind λ x149 =>
 bif decide (x149=(x148:Int)) then (bif decide ((0:Int)<n3) then ((zg x143.sheets b3).bind λ x150 =>
 (setx b3 v15 (-2:Int)).bind λ x151 =>
 r1 (W (n3-(1:Int))) (W (v15+(1:Int))) x151)
 else (r1 n3 (W (v15+(1:Int))) b3))
 else (r1 n3 (W (v15+(1:Int))) b3))
 else ((zg x143.sheets b3).bind λ x152 =>
 (some (setF (b100') x140 ({ x143 with sheets:=x152 }))).bind λ x153 =>
 (some (zal (0:Int) x146 x143.claims)).bind λ x154 =>
 (some (setK x146 (W (x154.1+(W (0-x142)))) x143.claims)).bind λ x155 =>
 (some (setF x153 x140 ({ x143 with sheets:=x152,claims:=x155 }))).bind λ x156 =>
 k7 x156 b200)
def zar (b106_1:LB)(b100:LS)(b101:LE)(b102:LC)(x2:LB)(b100':List (ByteArray×RunM))(b200:List (ByteArray×A2strN))(k7:(List (ByteArray×RunM))->(List (ByteArray×A2strN))->Option (Bool))(x42:LB)(x140:Nat)(x142:Int)(x143:RunM)(x146:ByteArray)(x148:Nat):Nat->Int->Int->(List Int)->Option (Bool)
 | 0,_,_,_=>none
 | n+1,n3,v15,b3=>zaH (zar b106_1 b100 b101 b102 x2 b100' b200 k7 x42 x140 x142 x143 x146 x148 n) b106_1 b100 b101 b102 x2 b100' b200 k7 x42 x140 x142 x143 x146 x148 n3 v15 b3
def zbi (b106_1:LB)(b100:LS)(b101:LE)(b102:LC)(x2:LB)(b100':List (ByteArray×RunM))(b200:List (ByteArray×A2strN))(k7:(List (ByteArray×RunM))->(List (ByteArray×A2strN))->Option (Bool))(x42:LB)(x140:Nat)(x142:Int)(x143:RunM)(x146:ByteArray)(x148:Nat):Lp (Nat×Int×Int×(List Int)) (Nat×Nat) (Bool):=lpm ⟨[0,1,2,3,13,14,15],[201,zxq,zxl,zxj,zxm,zxn,zxo,zxk,zxp,103000101000107000601,103000101000107000602,zxr,zxC,zxy],[],[]⟩ (λ (n,n3,v15,b3)=>zar b106_1 b100 b101 b102 x2 b100' b200 k7 x42 x140 x142 x143 x146 x148 n n3 v15 b3) (λ (_,n3,v15,_) (m0,_)=>[.po zxk x140 0, .dat (iN (x148:Int)), .dat (iN (-2:Int)), .dat (iN n3), .rs zxy m0, .dat (iN (List.length x143.sheets:Int)), .dat (iN v15)]) (λ (_,_,_,b3) (_,m1)=>[(rW x2),(rW b106_1),(sW [zxj] b100),(eW b101),(mW b102), .box [.mp zxl, .mp zxj, .mp zxm], .box [.ptr zxn 0, .rs zxq m1], .fam [] (encF strN RunM.m (b100')) [(x140,0,zxy)], .mp (encM strN A2strN.d b200), .dead, .row 9 1 (List.map strN [zaq,zaq,zaq]),(rW x42), .dead, .row 3 1 (List.map iN b3)]) λ (_,_,_,b3)=>(List.length b3,List.length b106_1)
instance zeX {b106_1 b100 b101 b102 x2 b100' b200 k7 x42 x140 x142 x143 x146 x148 n n3 v15 b3}:IsLp 2 3 (zar b106_1 b100 b101 b102 x2 b100' b200 k7 x42 x140 x142 x143 x146 x148 n n3 v15 b3) (zbi b106_1 b100 b101 b102 x2 b100' b200 k7 x42 x140 x142 x143 x146 x148) (n,n3,v15,b3):=⟨rfl⟩
def zaD (r4:Int->(List (ByteArray×RunM))->(List (ByteArray×A2strN))->Option (Bool))(N:Nat)(b106_1:LB)(b100:LS)(b101:LE)(b102:LC)(x2:LB)(k6:(List (ByteArray×RunM))->(List (ByteArray×A2strN))->Option (Bool))(v20:Int)(b100':List (ByteArray×RunM))(b200:List (ByteArray×A2strN)):Option (Bool) :=
 bif decide (v20<(List.length x2:Int)) then (zaS (zbf b106_1 b100 b101 b102 x2 v20 r4) λ k7 =>
 (ix x2 v20).bind λ x40 =>
 (f31 N x40).bind λ x41 =>
 (app 16 x41 [zaq,zaq,zaq]).bind λ x42 =>
 (ix x42 (2:Int)).bind λ x43 =>
 (zoR x43 (b100')).bind λ x44 =>
 (ix x42 (0:Int)).bind λ x45 =>
 bif decide (x45=(strC [115,116,111,110,101])) then ((ix x42 (1:Int)).bind λ x46 =>
 (some (setK x46 (A2strN.mk x43 zaq) b200)).bind λ x47 =>
 k7 (b100') x47)
 else (bif decide (x45=(strC [101,100,105,116,105,111,110])) then ((ix x42 (1:Int)).bind λ x48 =>
 (insF x48 (RunM.mk [] [] (0:Int) false []) (b100')).bind λ x49 =>
 k7 x49 b200)
 else (bif decide (x45=(strC [100,114,97,119])) then (onO x44 (some (false)) λ x50 =>
 (getF (b100') x50).bind λ x51 =>
 bif x51.closed then (some (false))
 else ((ix x42 (1:Int)).bind λ x52 =>
 (some (zal (A2strN.mk zaq zaq) x52 b200)).bind λ x53 =>
 bif decide (x53.1.e0=zaq) then (some (false))
 else ((some (zal (A2strN.mk zaq zaq) x52 b200)).bind λ x54 =>
 bif decide (¬ x54.1.e1=zaq) then (some (false))
 else ((some (zal (A2strN.mk zaq zaq) x52 b200)).bind λ x55 =>
 (some (setK x52 (A2strN.mk x55.1.e0 x43) b200)).bind λ x56 =>
 (app 16 x51.stones [x52]).bind λ x57 =>
 (some (setF (b100') x50 ({ x51 with stones:=x57 }))).bind λ x58 =>
 k7 x58 x56))))
 else (bif decide (x45=(strC [112,97,112,101,114])) then ((ix x42 (1:Int)).bind λ x59 =>
 onO (zan x59 (b100')) (some (false)) λ x60 =>
 (f49 N x43).bind λ x61 =>
 zbU b106_1 b100 b101 b102 x2 v20 b200 k7 x42 x59 x61 N (0:Int) (b100'))
 else (bif decide (x45=(strC [112,114,105,110,116])) then ((ix x42 (1:Int)).bind λ x66 =>
 (some (zal (A2strN.mk zaq zaq) x66 b200)).bind λ x67 =>
 (zoR x67.1.e1 (b100')).bind λ x68 =>
 onO x68 (some (false)) λ x69 =>
 zaS (zby N b106_1 b100 b101 b102 x2 v20 b100' b200 k7 x42 x43 x45 x66 x69) λ k8 =>
 (getF (b100') x69).bind λ x98 =>
 zcE b106_1 b100 b101 b102 x2 v20 b100' b200 x42 x66 x69 k8 x98 N (-1:Int) (0:Int))
 else (bif decide (x45=(strC [103,114,105,110,100])) then ((ix x42 (1:Int)).bind λ x100 =>
 (some (zal (A2strN.mk zaq zaq) x100 b200)).bind λ x101 =>
 (zoR x101.1.e1 (b100')).bind λ x102 =>
 onO x102 (some (false)) λ x103 =>
 zaS (zbe N b106_1 b100 b101 b102 x2 v20 b100' b200 k7 x42 x100 x103) λ k9 =>
 (getF (b100') x103).bind λ x112 =>
 zbX b106_1 b100 b101 b102 x2 v20 b100' b200 x42 x100 x103 k9 x112 N (-1:Int) (0:Int))
 else (bif decide (x45=(strC [99,108,111,115,101])) then ((ix x42 (1:Int)).bind λ x114 =>
 onO (zan x114 (b100')) (some (false)) λ x115 =>
 (getF (b100') x115).bind λ x116 =>
 (some (setF (b100') x115 ({ x116 with closed:=true }))).bind λ x117 =>
 k7 x117 b200)
 else (bif decide (x45=(strC [99,108,97,105,109])) then (onO x44 (some (false)) λ x118 =>
 (ix x42 (3:Int)).bind λ x119 =>
 (f49 N x119).bind λ x120 =>
 bif decide (x45=(strC [100,101,108,105,118,101,114])) then ((getF (b100') x118).bind λ x121 =>
 (lnL x121.stones).bind λ x122 =>
 (f48 N x121 (x122:Int)).bind λ x123 =>
 bif decide (x123<x120) then (some (false))
 else ((ix x42 (1:Int)).bind λ x124 =>
 (some (zal (0:Int) x124 x121.claims)).bind λ x125 =>
 (some ()).bind λ _ =>
 bif decide (x125.1<x120) then (some (false))
 else ((lnL x121.stones).bind λ x126 =>
 zaG b106_1 b100 b101 b102 x2 b100' b200 k7 x42 x118 x120 x121 x124 x126 N x120 (0:Int) x121.sheets)))
 else ((getF (b100') x118).bind λ x135 =>
 (ix x42 (1:Int)).bind λ x136 =>
 (some (zal (0:Int) x136 x135.claims)).bind λ x137 =>
 (some (setK x136 (W (x137.1+x120)) x135.claims)).bind λ x138 =>
 (some (setF (b100') x118 ({ x135 with claims:=x138 }))).bind λ x139 =>
 k7 x139 b200))
 else (bif decide (x45=(strC [100,101,108,105,118,101,114])) then (onO x44 (some (false)) λ x140 =>
 (ix x42 (3:Int)).bind λ x141 =>
 (f49 N x141).bind λ x142 =>
 (getF (b100') x140).bind λ x143 =>
 (lnL x143.stones).bind λ x144 =>
 (f48 N x143 (x144:Int)).bind λ x145 =>
 bif decide (x145<x142) then (some (false))
 else ((ix x42 (1:Int)).bind λ x146 =>
 (some (zal (0:Int) x146 x143.claims)).bind λ x147 =>
 (some ()).bind λ _ =>
 bif decide (x147.1<x142) then (some (false))
 else ((lnL x143.stones).bind λ x148 =>
 zar b106_1 b100 b101 b102 x2 b100' b200 k7 x42 x140 x142 x143 x146 x148 N x142 (0:Int) x143.sheets)))
 else (some (false)))))))))))
 else (k6 (b100') b200)
def zcf (N:Nat)(b106_1:LB)(b100:LS)(b101:LE)(b102:LC)(x2:LB)(k6:(List (ByteArray×RunM))->(List (ByteArray×A2strN))->Option (Bool)):Nat->Int->(List (ByteArray×RunM))->(List (ByteArray×A2strN))->Option (Bool)
 | 0,_,_,_=>none
 | n+1,v20,b100',b200=>zaD (zcf N b106_1 b100 b101 b102 x2 k6 n) N b106_1 b100 b101 b102 x2 k6 v20 b100' b200
def zh0 (N:Nat)(b106_1:LB)(b100:LS)(b101:LE)(b102:LC)(x2:LB)(k6:(List (ByteArray×RunM))->(List (ByteArray×A2strN))->Option (Bool)):Lp (Nat×Int×(List (ByteArray×RunM))×(List (ByteArray×A2strN))) (Nat×Nat×Nat) (Bool):=lpm ⟨[5,6,18,19,20],[201,zxq,zxl,zxj,zxm,zxn,zxo,zxk,zxp],[],[]⟩ (λ (n,v20,b100',b200)=>zcf N b106_1 b100 b101 b102 x2 k6 n v20 b100' b200) (λ (_,v20,_,_) (m0,m1,_)=>[.mp zxk, .mp zxp, .rs 201 m0, .dat (iN (m1:Int)), .dat (iN v20)]) (λ (_,_,b100',b200) (_,_,m2)=>[(rW x2),(rW b106_1),(sW [zxj] b100),(eW b101),(mW b102), .box [.mp zxl, .mp zxj, .mp zxm], .box [.ptr zxn 0, .rs zxq m2], .fam [] (encF strN RunM.m (b100')) [], .mp (encM strN A2strN.d b200)]) λ (_,_,_,_)=>(List.length x2,List.length x2,List.length b106_1)
instance zvb {N b106_1 b100 b101 b102 x2 k6 n v20 b100' b200}:IsLp 3 3 (zcf N b106_1 b100 b101 b102 x2 k6 n v20 b100' b200) (zh0 N b106_1 b100 b101 b102 x2 k6) (n,v20,b100',b200):=⟨rfl⟩
def zbV (N:Nat)(b106_1:LB)(b100:LS)(b101:LE)(b102:LC):Option (Bool) :=
 (f21 N b106_1 b100 b101 b102).bind λ x2 =>
 zaS (zbT N b106_1 b100 b101 b102 x2) λ k6 =>
 zcf N b106_1 b100 b101 b102 x2 k6 N (0:Int) [] []
def zeB (N:Nat):Lp (LB×LS×LE×LC) (Nat×Unit) (Bool):=lpm ⟨[3],[zxq,zxl,zxj,zxm,zxn,zxo],[(.cell zxo 1,zxq,9,1)],[]⟩ (λ (b106_1,b100,b101,b102)=>zbV N b106_1 b100 b101 b102) (λ (_,_,_,_) (_,_)=>[.ptr zxo 0]) (λ (b106_1,b100,b101,b102) (m0,_)=>[(rW b106_1),(sW [zxj] b100),(eW b101),(mW b102), .box [.mp zxl, .mp zxj, .mp zxm], .box [.ptr zxn 0, .rs zxq m0]]) λ (b106_1,_,_,_)=>(List.length b106_1,())
instance zt1 {N b106_1 b100 b101 b102}:IsLp 1 4 (zbV N b106_1 b100 b101 b102) (zeB N) (b106_1,b100,b101,b102):=⟨rfl⟩
instance zt2 {N}:IsCut 4 (zbV N) (zeB N) 103000000007:=⟨⟩
def zcF (N:Nat)(x1:LB)(v9:Int)(b106_1:LB)(b100:LS)(b101:LE)(b102:LC)(r3:Int->LB->LS->LE->LC->Option (Bool))(x5:ByteArray):Option (Bool) :=
 (f18 N x5 b106_1 b100 b101 b102).bind λ x157 =>
 r3 (W (v9+(1:Int))) x157.2.2.2.2 x157.2.1 x157.2.2.1 x157.2.2.2.1
def zeC (N:Nat)(x1:LB)(v9:Int)(b106_1:LB)(b100:LS)(b101:LE)(b102:LC)(r3:Int->LB->LS->LE->LC->Option (Bool)):Lp (ByteArray) (Nat×Nat) (Bool):=lpm ⟨[3,5,7,8,9],[zxq,zxl,zxj,zxm,zxn,zxo],[],[]⟩ (λ x5=>zcF N x1 v9 b106_1 b100 b101 b102 r3 x5) (λ x5 (m0,_)=>[.ptr zxo 0, .dat (strN x5), .dat (zaE x1), .dat (iN (m0:Int)), .dat (iN v9)]) (λ _ (_,m1)=>[(rW b106_1),(sW [zxj] b100),(eW b101),(mW b102), .box [.mp zxl, .mp zxj, .mp zxm], .box [.ptr zxn 0, .rs zxq m1]]) λ _=>(List.length x1,List.length b106_1)
instance zt3 {N x1 v9 b106_1 b100 b101 b102 r3 x5}:IsLp 2 1 (zcF N x1 v9 b106_1 b100 b101 b102 r3 x5) (zeC N x1 v9 b106_1 b100 b101 b102 r3) x5:=⟨rfl⟩
instance zt4 {N x1 v9 b106_1 b100 b101 b102 r3}:IsCut 1 (zcF N x1 v9 b106_1 b100 b101 b102 r3) (zeC N x1 v9 b106_1 b100 b101 b102 r3) 103000000005:=⟨⟩
def zcG (r3:Int->LB->LS->LE->LC->Option (Bool))(N:Nat)(x1:LB)(k10:LB->LS->LE->LC->Option (Bool))(v9:Int)(b106_1:LB)(b100:LS)(b101:LE)(b102:LC):Option (Bool) :=
 bif decide (v9<(List.length x1:Int)) then (zaS (zcF N x1 v9 b106_1 b100 b101 b102 r3) λ k11 =>
 (ix x1 v9).bind λ x158 =>
 k11 x158)
 else (k10 b106_1 b100 b101 b102)
def zc2 (N:Nat)(x1:LB)(k10:LB->LS->LE->LC->Option (Bool)):Nat->Int->LB->LS->LE->LC->Option (Bool)
 | 0,_,_,_,_,_=>none
 | n+1,v9,b106_1,b100,b101,b102=>zcG (zc2 N x1 k10 n) N x1 k10 v9 b106_1 b100 b101 b102
def zh1 (N:Nat)(x1:LB)(k10:LB->LS->LE->LC->Option (Bool)):Lp (Nat×Int×LB×LS×LE×LC) (Nat×Nat) (Bool):=lpm ⟨[3,7,8,9],[zxq,zxl,zxj,zxm,zxn,zxo],[(.cell zxo 1,zxq,9,1)],[]⟩ (λ (n,v9,b106_1,b100,b101,b102)=>zc2 N x1 k10 n v9 b106_1 b100 b101 b102) (λ (_,v9,_,_,_,_) (m0,_)=>[.ptr zxo 0, .dat (zaE x1), .dat (iN (m0:Int)), .dat (iN v9)]) (λ (_,_,b106_1,b100,b101,b102) (_,m1)=>[(rW b106_1),(sW [zxj] b100),(eW b101),(mW b102), .box [.mp zxl, .mp zxj, .mp zxm], .box [.ptr zxn 0, .rs zxq m1]]) λ (_,_,b106_1,_,_,_)=>(List.length x1,List.length b106_1)
instance zvc {N x1 k10 n v9 b106_1 b100 b101 b102}:IsLp 2 5 (zc2 N x1 k10 n v9 b106_1 b100 b101 b102) (zh1 N x1 k10) (n,v9,b106_1,b100,b101,b102):=⟨rfl⟩
def f13 (N:Nat)(a0:List A4u8N):Option (Bool) :=
 (f26 N a0).bind λ x1 =>
 zaS (zbV N) λ k10 =>
 zc2 N x1 k10 N (0:Int) [] [] [] []
def G13 (ds:List D)(d:D):Prop:=∃ (N:Nat) (a0:List A4u8N) (r:Bool),ds=[ze a0]/\f13 N a0=some r/\d=bN r

end Go.Vc
namespace Go.Vc
open Go.Proofs
set_option maxRecDepth 20000 in
theorem wk2 {P:Prop}(h:P:=by repeat' (first
  | ((with_reducible first|refine q0 _ _ ?_|refine q1 _ _ _ _ ?_|refine q2 _ _ _ ?_);clear Q q0 q1 q2)
  | ((with_reducible first|refine zds ?hx (λ Q q0 q1 q2=>?_)|refine zdE ?hx (λ Q q0 q1 q2=>?_));(case hx=>exact rfl);conv=>whnf)
  | ((with_reducible refine zcH ?_);(with_reducible refine hR _ _ ?hx ?_);(case hx=>kernel_rfl);clear R hR)
  | ((with_reducible first|refine zcn ?_|refine idx2 (by assumption) ?_|refine idx3 (by assumption) ?_);conv=>whnf)
  | ((with_reducible refine zco [] ?hx ?_);(case hx=>exact rfl))
  | with_reducible refine zfK ?_
  | (with_reducible first|refine zb7 ?_|refine zci ?_|refine zdq ?_|refine zcT ?_|refine zbv (λ R hR=>?_)|refine zbu ?_|refine zbs ?_|refine zg6 ?_|refine zbR ?_|refine zbC ?_)
  | ((with_reducible refine zdD ?hx (λ R L hL hR=>?_));(case hx=>exact rfl))
  | ((with_reducible have hJ:=isB hF);clear hJ;revert hF;(with_reducible first|refine G64.lend ?hx ?_);(case hx=>exact rfl);intro v hF;conv=>whnf)
  | (cases hF;(refine Or.inl ?_);(conv=>whnf);exact⟨rfl,rfl,rfl⟩)
  | ((with_reducible have hJ:=zvN hF);clear hJ;revert hF;(refine zp7 ?_);intro x hF;conv=>whnf)
  | ((with_reducible have hJ:=isO hF);clear hJ;revert hF;(refine zcD (eK:=strN) (eM:=StoneM.m) za8 ?hk ?hd ?he ?_ ?_);(case hk=>exact λ _=>rfl);(case hd=>exact rfl);(case he=>exact rfl);(intro hl hF;conv=>whnf);rotate_left;(intro i hl hF;conv=>whnf);rotate_right)
  | ((with_reducible have hJ:=isSm hF);clear hJ;revert hF;(refine zes (eK:=strN) (eV:=bN) za8 ?hk ?hz ?hd ?he ?_);(case hk=>exact λ _=>rfl);(case hz=>exact rfl);(case hd=>exact rfl);(case he=>exact rfl);intro x hF;conv=>whnf)
  | ((with_reducible have hJ:=isO hF);clear hJ;revert hF;(refine zcD (eK:=strN) (eM:=EditionM.m) za8 ?hk ?hd ?he ?_ ?_);(case hk=>exact λ _=>rfl);(case hd=>exact rfl);(case he=>exact rfl);(intro hl hF;conv=>whnf);rotate_left;(intro i hl hF;conv=>whnf);rotate_right)
  | ((with_reducible have hG:=zdh hF);clear hF;(obtain⟨⟨x,hx,hF⟩⟩:=hG);first|((with_reducible refine isMc ?_);(refine zd9 rfl hx (by exact rfl) ?_);conv=>whnf)|skip)
  | ((with_reducible refine isMc ?_);(refine zd9 rfl (by assumption) (by exact rfl) ?_);conv=>whnf)
  | ((with_reducible refine Or.inr ?_);(conv=>whnf);(with_reducible refine isTk ?_);(refine zgR (by first|exact zaf|exact zaM (by decide) zaf) ?_);conv=>whnf)
  | ((with_reducible have hJ:=isO hF);clear hJ;revert hF;(refine zfL ?_ ?_);(intro ho hF;conv=>whnf);rotate_left;(intro j ho hF;conv=>whnf);rotate_right)
  | ((with_reducible refine isOP ?_);(refine zjA (by assumption) ?_);conv=>whnf)
  | ((with_reducible refine isLd ?_);(refine zgb rfl (by assumption) (λ key=>?_));conv=>whnf)
  | ((with_reducible have hJ:=zvN hF);clear hJ;revert hF;(refine zql rfl ?_);intro x hF;conv=>whnf)
  | ((with_reducible first|refine zeZ ?hx ?_|refine zdV ?hx ?_|refine zgI ?hx ?_|refine zfw ?hx ?_|refine zcO ?hx ?_|refine zdr ?hx ?_);(case hx=>exact rfl))
  | (revert hF;(with_reducible refine idx1 ?hn ?_);(case hn=>first|exact rfl|exact(List.length_map _)|assumption|omega|simp);intro x hx hF;conv=>whnf)
  | ((with_reducible refine zfI ?_);(first|((first|refine zfa rfl ?hy (λ Q q0 q1 q2=>?_)|refine zd6 rfl ?hy (λ Q q0 q1 q2=>?_));(case hy=>first|assumption|exact notT (by assumption)|exact rfl);conv=>whnf)|((first|refine zd5 rfl ?hy ?_|refine zdf rfl ?hy ?_);(case hy=>first|assumption|exact notF (by assumption)|exact rfl))|(revert hF;(with_reducible first|refine zfb ?hx ?_ ?_|refine zd7 ?hx ?_ ?_);(case hx=>exact rfl);(intro hc hF Q q0 q1 q2;conv=>whnf);rotate_left;(intro hc hF);rotate_right)|(revert hF;(with_reducible first|refine zfc ?hx ?_ ?_|refine zd8 ?hx ?_ ?_);(case hx=>exact rfl);(intro hc hF);rotate_left;(intro hc hF Q q0 q1 q2;conv=>whnf);rotate_right)))
  | ((with_reducible refine zqe ?_);(first|((first|refine znC rfl ?hy (λ Q q0 q1 q2=>?_)|refine zk6 rfl ?hy (λ Q q0 q1 q2=>?_));(case hy=>first|assumption|exact notT (by assumption)|exact rfl);conv=>whnf)|((first|refine zk5 rfl ?hy ?_|refine ziJ rfl ?hy ?_);(case hy=>first|assumption|exact notF (by assumption)|exact rfl))|(revert hF;(with_reducible first|refine znD ?hx ?_ ?_|refine zk7 ?hx ?_ ?_);(case hx=>exact rfl);(intro hc hF Q q0 q1 q2;conv=>whnf);rotate_left;(intro hc hF);rotate_right)|(revert hF;(with_reducible first|refine znE ?hx ?_ ?_|refine zk8 ?hx ?_ ?_);(case hx=>exact rfl);(intro hc hF);rotate_left;(intro hc hF Q q0 q1 q2;conv=>whnf);rotate_right)))
  | ((with_reducible refine zde ?_);(first|((refine zeu rfl ?hy ?_);(case hy=>first|assumption|exact notT (by assumption)|exact rfl))|((refine zev rfl ?hy ?_);(case hy=>first|assumption|exact notF (by assumption)|exact rfl))|(revert hF;(with_reducible refine zhy ?hx ?_ ?_);(case hx=>exact rfl);all_goals (intro hc hF))))
  | ((with_reducible refine zhw ?hn ?_);(case hn=>first|exact rfl|assumption|omega);conv=>whnf)
  | ((with_reducible refine zaX ?_);(with_reducible refine zaX ?_);(with_reducible have hG:=zb3 hF);(refine gZ 2 1611 rfl ?_);(refine zdR 2 1611 rfl rfl rfl (by first|exact zaf|exact zaM (by decide) zaf) (by assumption) (by exact rfl) ?_);(have hF:=hG);clear hG;dsimp only[St.settledF];(first|((with_reducible refine hR _ ?_);clear R hR)|((with_reducible refine hL _ ?_);clear L hL)))
  | ((with_reducible refine zaX ?_);(with_reducible refine zaX ?_);(with_reducible have hG:=zb3 hF);(refine gZ 2 1603 rfl ?_);(refine zdR 2 1603 rfl rfl rfl (by first|exact zaf|exact zaM (by decide) zaf) (by assumption) (by exact rfl) ?_);(have hF:=hG);clear hG;dsimp only[St.settledF];(first|((with_reducible refine hR _ ?_);clear R hR)|((with_reducible refine hL _ ?_);clear L hL)))
  | ((with_reducible refine zcj ?_);(first|((with_reducible refine hR _ ?_);clear R hR)|((with_reducible refine hL _ ?_);clear L hL)))
  | ((with_reducible refine zer ?_);conv=>whnf)
  | ((with_reducible refine zhx ?hx ?_);(case hx=>first|exact rfl|assumption|exact notT (by assumption));conv=>whnf)
  | ((with_reducible refine zgv ?hx ?_);(case hx=>first|exact rfl|assumption|exact notF (by assumption));conv=>whnf)
  | with_reducible refine zeY ?_)):P:=h
set_option maxRecDepth 20000 in
theorem wk3 {P:Prop}(h:P:=by repeat' (first
  | ((with_reducible first|refine q0 _ _ ?_|refine q1 _ _ _ _ ?_|refine q2 _ _ _ ?_);clear Q q0 q1 q2)
  | ((with_reducible first|refine zds ?hx (λ Q q0 q1 q2=>?_)|refine zdU ?hx (λ Q q0 q1 q2=>?_)|refine zdE ?hx (λ Q q0 q1 q2=>?_)|refine zeH ?hx (λ Q q0 q1 q2=>?_));(case hx=>exact rfl);conv=>whnf)
  | ((with_reducible refine zde ?_);(first|((refine zeu rfl ?hy ?_);(case hy=>first|assumption|exact notT (by assumption)|exact rfl))|((refine zev rfl ?hy ?_);(case hy=>first|assumption|exact notF (by assumption)|exact rfl))|(revert hF;(with_reducible refine zhy ?hx ?_ ?_);(case hx=>exact rfl);all_goals (intro hc hF))))
  | ((with_reducible refine zcj ?_);(first|((with_reducible refine hR _ ?_);clear R hR)|((with_reducible refine hL _ ?_);clear L hL)))
  | ((with_reducible refine zcH ?_);(with_reducible refine hR _ _ ?hx ?_);(case hx=>kernel_rfl);clear R hR)
  | ((with_reducible first|refine zcn ?_|refine zcN ?_|refine idx2 (by assumption) ?_|refine idx3 (by assumption) ?_);conv=>whnf)
  | (with_reducible first|refine zb7 ?_|refine zci ?_|refine zdq ?_|refine zcT ?_|refine zbv (λ R hR=>?_)|refine zbu ?_|refine zbs ?_|refine zg6 ?_|refine zbR ?_|refine zbC ?_|refine zcA ?_|refine zca ?_|refine zrM ?_|refine zrL ?_)
  | ((with_reducible refine zdD ?hx (λ R L hL hR=>?_));(case hx=>exact rfl))
  | ((with_reducible replace hF:=isE hF);(dsimp only[zhE,znO,zhG,zjE,zqy,zhF,zlw,zhI,zhJ,zqA,zqC,zlx,zly,zjG,zqG,zlA,zmT,ztP,zqJ,zhN,zhO,znR,zqO,zhP,zlI,zjR,zqX,zlM,zjS,zqZ,zmX,ztT,zlN,zq0,zjT,ztV,zq1] at hF);first|rewrite[zfO] at hF|rewrite[znN] at hF|rewrite[zfP] at hF|rewrite[zhH] at hF|rewrite[zqx] at hF|rewrite[zfQ] at hF|rewrite[zfR] at hF|rewrite[zqz] at hF|rewrite[zqB] at hF|rewrite[zhK] at hF|rewrite[zqF] at hF|rewrite[zlB] at hF|rewrite[ztO] at hF|rewrite[zfS] at hF|rewrite[zfT] at hF|rewrite[znQ] at hF|rewrite[zqN] at hF|rewrite[zhV] at hF|rewrite[zqW] at hF|rewrite[zhW] at hF|rewrite[zqY] at hF|rewrite[zlO] at hF|rewrite[ztS] at hF|rewrite[zhX] at hF|rewrite[ztU] at hF)
  | ((with_reducible refine zey ?_);first|((with_reducible replace hF:=toLp 0 2 hF);exact Lp.backI hF () ⟨_,rfl,rfl,rfl,rfl⟩ rfl)|((with_reducible replace hF:=toLp 0 4 hF);exact Lp.backI hF () ⟨_,rfl,rfl,rfl,rfl⟩ rfl)|((with_reducible replace hF:=toLp 1 2 hF);exact Lp.backI hF (_,()) ⟨_,rfl,rfl,rfl,rfl⟩ (pr2 (by first|exact rfl|assumption|omega|(simp only[List.length_set];done)) rfl))|((with_reducible replace hF:=toLp 1 3 hF);exact Lp.backI hF (_,()) ⟨_,rfl,rfl,rfl,rfl⟩ (pr2 (by first|exact rfl|assumption|omega|(simp only[List.length_set];done)) rfl))|((with_reducible replace hF:=toLp 3 2 hF);exact Lp.backI hF (_,_,_) ⟨_,rfl,rfl,rfl,rfl⟩ (pr2 (by first|exact rfl|assumption|omega|(simp only[List.length_set];done)) (pr2 (by first|exact rfl|assumption|omega|(simp only[List.length_set];done)) (by first|exact rfl|assumption|omega|(simp only[List.length_set];done))))))
  | ((with_reducible refine zcC ?_);first|((with_reducible replace hF:=toLp 0 1 hF);exact Lp.headI hF () ⟨_,rfl,rfl,rfl,rfl⟩ rfl)|((with_reducible replace hF:=toLp 1 1 hF);exact Lp.headI hF (_,()) ⟨_,rfl,rfl,rfl,rfl⟩ (pr2 (by first|exact rfl|assumption|omega|(simp only[List.length_set];done)) rfl))|((with_reducible replace hF:=toLp 1 2 hF);exact Lp.headI hF (_,()) ⟨_,rfl,rfl,rfl,rfl⟩ (pr2 (by first|exact rfl|assumption|omega|(simp only[List.length_set];done)) rfl))|((with_reducible replace hF:=toLp 2 1 hF);exact Lp.headI hF (_,_) ⟨_,rfl,rfl,rfl,rfl⟩ (pr2 (by first|exact rfl|assumption|omega|(simp only[List.length_set];done)) (by first|exact rfl|assumption|omega|(simp only[List.length_set];done)))))
  | ((with_reducible refine zex ?_);first|((with_reducible replace hF:=toLp 0 2 hF);((refine Lp.loopI hF () rfl ⟨_,rfl,rfl,rfl,rfl⟩ rfl (λ _=>rfl) ?_);clear hF);(rintro n ⟨_,_⟩ hF))|((with_reducible replace hF:=toLp 0 4 hF);((refine Lp.loopI hF () rfl ⟨_,rfl,rfl,rfl,rfl⟩ rfl (λ _=>rfl) ?_);clear hF);(rintro n ⟨_,_,_,_⟩ hF))|((with_reducible replace hF:=toLp 1 2 hF);((refine Lp.loopI hF (_,()) rfl ⟨_,rfl,rfl,rfl,rfl⟩ (pr2 (by first|exact rfl|assumption|omega|(simp only[List.length_set];done)) rfl) (λ _=>rfl) ?_);clear hF);(rintro n ⟨_,_⟩ hF))|((with_reducible replace hF:=toLp 1 3 hF);((refine Lp.loopI hF (_,()) rfl ⟨_,rfl,rfl,rfl,rfl⟩ (pr2 (by first|exact rfl|assumption|omega|(simp only[List.length_set];done)) rfl) (λ _=>rfl) ?_);clear hF);(rintro n ⟨_,_,_⟩ hF))|((with_reducible replace hF:=toLp 3 2 hF);((refine Lp.loopI hF (_,_,_) rfl ⟨_,rfl,rfl,rfl,rfl⟩ (pr2 (by first|exact rfl|assumption|omega|(simp only[List.length_set];done)) (pr2 (by first|exact rfl|assumption|omega|(simp only[List.length_set];done)) (by first|exact rfl|assumption|omega|(simp only[List.length_set];done)))) (λ _=>rfl) ?_);clear hF);(rintro n ⟨_,_⟩ hF)))
  | ((with_reducible refine zcU ?_);first|((with_reducible replace hF:=zew 1 hF);((refine Lp.cutI hF rfl rfl ?_ ?_) <;> clear hF);(intro hF);rotate_left;(rintro _ hF);rotate_right)|((with_reducible replace hF:=zew 2 hF);((refine Lp.cutI hF rfl rfl ?_ ?_) <;> clear hF);(intro hF);rotate_left;(rintro⟨_,_⟩ hF);rotate_right))
  | ((with_reducible refine zco [] ?hx ?_);(case hx=>exact rfl))
  | with_reducible refine zfK ?_
  | ((with_reducible have hJ:=isB hF);clear hJ;revert hF;(with_reducible first|refine G117.lend ?hx ?_|refine G148.lend ?hx ?_|refine G116.lend ?hx ?_|refine G118.lend ?hx ?_|refine G83.step ?hx ?_|refine G84.step ?hx ?_|refine G30.lend ?hx ?_|refine G57.lend ?hx ?_);(case hx=>exact rfl);intro v hF;conv=>whnf)
  | (revert hF;(refine zuE (d:=iN) ?hz ?_);(case hz=>exact rfl);intro x hF;conv=>whnf)
  | (revert hF;(refine zsq (d:=iN) ?_);intro x hF;conv=>whnf)
  | ((with_reducible refine Or.inr ?_);(conv=>whnf);(with_reducible refine ziH (List.map bN (List.replicate 10 false)) ?hx ?_);(case hx=>(unfold zn9;kernel_rfl));conv=>whnf)
  | (revert hF;(refine zuF (d:=iN) ?hz ?_);(case hz=>exact rfl);intro x hF;conv=>whnf)
  | (cases hF;(refine Or.inl ?_);(conv=>whnf);exact⟨rfl,rfl,rfl⟩)
  | ((refine zp8 (d:=iN) (by assumption) ?_);conv=>whnf)
  | ((with_reducible refine zq hF ?_);(clear hF;intro hF;conv=>whnf))
  | ((with_reducible have hI:=zqq hF);clear hI;revert hF;(refine zk2 ?_);intro x hF;conv=>whnf)
  | ((with_reducible have hG:=zfG hF);clear hF;(refine zuG (d:=iN) hG ?hn ?ho (λ q hl hF=>?_));(case hn=>first|exact rfl|assumption|omega);(case ho=>(rintro p h;first|cases h;done|(cases h;rfl)));clear hG;conv=>whnf)
  | ((with_reducible have hG:=zny hF);clear hF;(first|(refine zqa hG (by(try simp only[W]);omega) (λ x hF=>?_))|(refine zqb hG (λ _=>rfl) (by(try simp only[W]);omega) (λ x hF=>?_)));clear hG;conv=>whnf)
  | ((with_reducible have hI:=zuN hF);clear hI;revert hF;(refine zp6 ?_);intro x hF;conv=>whnf)
  | ((refine zsr (e:=zbE) (d:=iN) (λ _=>rfl) ?hn ?_);(case hn=>first|exact rfl|assumption|omega);conv=>whnf)
  | ((with_reducible have hG:=zk4 hF);clear hF;(first|(refine znz hG (by(try simp only[W]);omega) rfl rfl (λ q hF=>?_))|(refine znA hG (λ _=>rfl) (by(try simp only[W]);omega) rfl rfl (λ q hF=>?_)));clear hG;conv=>whnf)
  | ((with_reducible have hI:=zmL hF);clear hI;revert hF;(refine zhu ?_);intro x hF;conv=>whnf)
  | (revert hF;(refine zk1 ?_);intro x hF;conv=>whnf)
  | ((with_reducible have hI:=zqp hF);clear hI;revert hF;(refine zmI ?_);intro x hF;conv=>whnf)
  | ((with_reducible have hI:=ztH hF);clear hI;revert hF;(refine zsD ?hn ?_);(case hn=>first|exact rfl|omega);intro hF;conv=>whnf)
  | ((with_reducible have hI:=zuM hF);clear hI;revert hF;(first|refine zqn (λ _ h=>h) ?_|refine zoT ?_);intro x hF;conv=>whnf)
  | ((with_reducible have hI:=ztH hF);clear hI;revert hF;(refine zsC ?hn ?_);(case hn=>first|exact rfl|assumption|omega);intro hF;conv=>whnf)
  | ((with_reducible first|refine zeZ ?hx ?_|refine zdV ?hx ?_|refine zgI ?hx ?_|refine zfw ?hx ?_|refine zcO ?hx ?_|refine zdr ?hx ?_);(case hx=>exact rfl))
  | (revert hF;(with_reducible refine idx1 ?hn ?_);(case hn=>first|exact rfl|exact(List.length_map _)|assumption|omega|simp);intro x hx hF;conv=>whnf)
  | ((with_reducible refine zfI ?_);(first|((first|refine zfa rfl ?hy (λ Q q0 q1 q2=>?_)|refine zd6 rfl ?hy (λ Q q0 q1 q2=>?_));(case hy=>first|assumption|exact notT (by assumption)|exact rfl);conv=>whnf)|((first|refine zd5 rfl ?hy ?_|refine zdf rfl ?hy ?_);(case hy=>first|assumption|exact notF (by assumption)|exact rfl))|(revert hF;(with_reducible first|refine zfb ?hx ?_ ?_|refine zd7 ?hx ?_ ?_);(case hx=>exact rfl);(intro hc hF Q q0 q1 q2;conv=>whnf);rotate_left;(intro hc hF);rotate_right)|(revert hF;(with_reducible first|refine zfc ?hx ?_ ?_|refine zd8 ?hx ?_ ?_);(case hx=>exact rfl);(intro hc hF);rotate_left;(intro hc hF Q q0 q1 q2;conv=>whnf);rotate_right)))
  | ((with_reducible have hG:=zp3 hF);clear hF;(refine Or.inl (Or.inl ?_));(conv=>whnf);(refine zmH hG ?hn (λ q hF=>?_);(case hn=>first|exact rfl|assumption|omega));clear hG;conv=>whnf)
  | ((with_reducible have hG:=zcZ hF);clear hF;(first|((refine zdI hG ?hn ?hs (λ q hF=>?_));(case hn=>first|exact rfl|assumption|omega);(case hs=>exact rfl))|((refine zdH (d:=strN) hG ?hs (λ q hF=>?_));(case hs=>exact rfl))|((refine zdJ (d:=strN) hG ?ho ?hn ?hs (λ q hF=>?_));(case ho=>exact rfl);(case hn=>exact rfl);(case hs=>exact rfl)));clear hG;conv=>whnf)
  | ((with_reducible have hG:=zcZ hF);clear hF;(first|((refine zdI hG ?hn ?hs (λ q hF=>?_));(case hn=>first|exact rfl|assumption|omega);(case hs=>exact rfl))|((refine zdH (d:=u8N) hG ?hs (λ q hF=>?_));(case hs=>exact rfl))|((refine zdJ (d:=u8N) hG ?ho ?hn ?hs (λ q hF=>?_));(case ho=>exact rfl);(case hn=>exact rfl);(case hs=>exact rfl)));clear hG;conv=>whnf)
  | ((with_reducible have hG:=zcZ hF);clear hF;(first|((refine zdI hG ?hn ?hs (λ q hF=>?_));(case hn=>first|exact rfl|assumption|omega);(case hs=>exact rfl))|((refine zdH (d:=iN) hG ?hs (λ q hF=>?_));(case hs=>exact rfl))|((refine zdJ (d:=iN) hG ?ho ?hn ?hs (λ q hF=>?_));(case ho=>exact rfl);(case hn=>exact rfl);(case hs=>exact rfl)));clear hG;conv=>whnf)
  | ((refine zet ?hn ?_);(case hn=>first|exact rfl|(simp;done)|(simp;omega));conv=>whnf)
  | ((with_reducible refine zhw ?hn ?_);(case hn=>first|exact rfl|assumption|omega);conv=>whnf)
  | ((with_reducible have hG:=zfG hF);clear hF;(refine zht hG ?hs (λ q hl hF=>?_));(case hs=>exact rfl);clear hG;conv=>whnf)
  | ((refine⟨?hx, ?_⟩);(case hx=>exact⟨rfl,Nat.le_of_ble_eq_true rfl,rfl⟩);conv=>whnf)
  | ((with_reducible refine zer ?_);conv=>whnf)
  | ((with_reducible have hG:=znB hF);clear hF;(refine⟨?hx, ?_⟩);(case hx=>(first|exact of_decide_eq_true hG.1|exact hG.1));have hF:=hG.2;clear hG;conv=>whnf)
  | ((with_reducible refine zhx ?hx ?_);(case hx=>first|exact rfl|assumption|exact notT (by assumption));conv=>whnf)
  | ((with_reducible refine zgv ?hx ?_);(case hx=>first|exact rfl|assumption|exact notF (by assumption));conv=>whnf)
  | (revert hF;(with_reducible refine zbg ?_ ?_) <;> (intro hc hF;conv=>whnf))
  | ((refine zaz 901 902000000 rfl rfl (Nat.le_of_ble_eq_true rfl) rfl (λ R hR=>?_));(conv=>whnf);(with_reducible refine hR _ ?ha ?_);(case ha=>exact rfl);clear R hR)
  | ((refine zaz 1203 1204000000 rfl rfl (Nat.le_of_ble_eq_true rfl) rfl (λ R hR=>?_));(conv=>whnf);(with_reducible refine hR _ ?ha ?_);(case ha=>exact rfl);clear R hR)
  | ((refine zaz 1101 1102000000 rfl rfl (Nat.le_of_ble_eq_true rfl) rfl (λ R hR=>?_));(conv=>whnf);(with_reducible refine hR _ ?ha ?_);(case ha=>exact rfl);clear R hR)
  | ((refine zaz 1400 1401000000 rfl rfl (Nat.le_of_ble_eq_true rfl) rfl (λ R hR=>?_));(conv=>whnf);(with_reducible refine hR _ ?ha ?_);(case ha=>exact rfl);clear R hR)
  | ((refine zaz 1408 1409000000 rfl rfl (Nat.le_of_ble_eq_true rfl) rfl (λ R hR=>?_));(conv=>whnf);(with_reducible refine hR _ ?ha ?_);(case ha=>exact rfl);clear R hR)
  | ((refine zaz 1806 1807000000 rfl rfl (Nat.le_of_ble_eq_true rfl) rfl (λ R hR=>?_));(conv=>whnf);(with_reducible refine hR _ ?ha ?_);(case ha=>exact rfl);clear R hR)
  | ((refine zaz 2000 2001000000 rfl rfl (Nat.le_of_ble_eq_true rfl) rfl (λ R hR=>?_));(conv=>whnf);(with_reducible refine hR _ ?ha ?_);(case ha=>exact rfl);clear R hR)
  | (show Kinl _ _ _ _ _ _ _;conv=>whnf)
  | ((with_reducible refine zcP ?ha ?hb ?_);(case ha=>exact rfl);(case hb=>exact rfl);conv=>whnf)
  | ((refine⟨?hx,trivial⟩);(case hx=>(cases hF;exact rfl)))
  | ((refine⟨?hx, ?_⟩);(case hx=>decide);conv=>whnf)
  | with_reducible refine zeY ?_
  | (have hF:(none:Option _)=some _:=hF;cases hF))):P:=h
set_option maxRecDepth 20000 in
theorem wk4 {P:Prop}(h:P:=by repeat' (first
  | ((with_reducible first|refine q0 _ _ ?_|refine q1 _ _ _ _ ?_|refine q2 _ _ _ ?_);clear Q q0 q1 q2)
  | ((with_reducible first|refine zds ?hx (λ Q q0 q1 q2=>?_)|refine zdE ?hx (λ Q q0 q1 q2=>?_)|refine zdU ?hx (λ Q q0 q1 q2=>?_)|refine zeH ?hx (λ Q q0 q1 q2=>?_));(case hx=>exact rfl);conv=>whnf)
  | ((with_reducible first|refine zeZ ?hx ?_|refine zdV ?hx ?_|refine zcO ?hx ?_|refine zdr ?hx ?_|refine zgI ?hx ?_|refine zfw ?hx ?_);(case hx=>exact rfl))
  | ((with_reducible refine zde ?_);(first|((refine zeu rfl ?hy ?_);(case hy=>first|assumption|exact notT (by assumption)|exact rfl))|((refine zev rfl ?hy ?_);(case hy=>first|assumption|exact notF (by assumption)|exact rfl))|(revert hF;(with_reducible refine zhy ?hx ?_ ?_);(case hx=>exact rfl);all_goals (intro hc hF))))
  | ((with_reducible refine zco [] ?hx ?_);(case hx=>exact rfl))
  | with_reducible refine zfK ?_
  | ((with_reducible refine zaX ?_);(with_reducible refine zaX ?_);(with_reducible have hG:=zb3 hF);(refine gZ 2 1403 rfl ?_);(refine zfM 2 1403 rfl rfl rfl (by first|exact zaf|exact zaM (by decide) zaf) (by assumption) (by exact rfl) ?_);(have hF:=hG);clear hG;dsimp only[St.settledF];(first|((with_reducible refine hR _ ?_);clear R hR)|((with_reducible refine hL _ ?_);clear L hL)))
  | ((with_reducible refine zaX ?_);(with_reducible refine zaX ?_);(with_reducible have hG:=zb3 hF);(refine gZ 4 1403 rfl ?_);(refine zdR 4 1403 rfl rfl rfl (by first|exact zaf|exact zaM (by decide) zaf) (by assumption) (by exact rfl) ?_);(have hF:=hG);clear hG;dsimp only[St.settledF];(first|((with_reducible refine hR _ ?_);clear R hR)|((with_reducible refine hL _ ?_);clear L hL)))
  | ((with_reducible refine zaX ?_);(with_reducible refine zaX ?_);(with_reducible have hG:=zb3 hF);(refine gZ 4 1803 rfl ?_);(refine zfM 4 1803 rfl rfl rfl (by first|exact zaf|exact zaM (by decide) zaf) (by assumption) (by exact rfl) ?_);(have hF:=hG);clear hG;dsimp only[St.settledF];(first|((with_reducible refine hR _ ?_);clear R hR)|((with_reducible refine hL _ ?_);clear L hL)))
  | ((with_reducible refine zaX ?_);(with_reducible refine zaX ?_);(with_reducible have hG:=zb3 hF);(refine gZ 2 2104 rfl ?_);(refine zdR 2 2104 rfl rfl rfl (by first|exact zaf|exact zaM (by decide) zaf) (by assumption) (by exact rfl) ?_);(have hF:=hG);clear hG;dsimp only[St.settledF];(first|((with_reducible refine hR _ ?_);clear R hR)|((with_reducible refine hL _ ?_);clear L hL)))
  | ((with_reducible refine zcj ?_);(first|((with_reducible refine hR _ ?_);clear R hR)|((with_reducible refine hL _ ?_);clear L hL)))
  | ((with_reducible refine zcH ?_);(with_reducible refine hR _ _ ?hx ?_);(case hx=>kernel_rfl);clear R hR)
  | ((with_reducible first|refine zcn ?_|refine zcN ?_|refine idx2 (by assumption) ?_|refine idx3 (by assumption) ?_);conv=>whnf)
  | (with_reducible first|refine zb7 ?_|refine zci ?_|refine zdq ?_|refine zcT ?_|refine zbv (λ R hR=>?_)|refine zbu ?_|refine zbs ?_|refine zg6 ?_|refine zbR ?_|refine zbC ?_)
  | ((with_reducible refine zdD ?hx (λ R L hL hR=>?_));(case hx=>exact rfl))
  | ((with_reducible refine exg3 ?_);revert hF;(refine G213.step rfl rfl rfl (by assumption) (by exact rfl) (by exact rfl) ?_);(intro y hy hF);conv=>whnf)
  | ((with_reducible have hJ:=isB hF);clear hJ;revert hF;(with_reducible first|refine G61.lend ?hx ?_|refine G64.lend ?hx ?_);(case hx=>exact rfl);intro v hF;conv=>whnf)
  | (cases hF;(refine Or.inl ?_);(conv=>whnf);exact⟨rfl,rfl,rfl⟩)
  | ((with_reducible have hJ:=isSm hF);clear hJ;revert hF;(refine zes (eK:=strN) (eV:=iN) za8 ?hk ?hz ?hd ?he ?_);(case hk=>exact λ _=>rfl);(case hz=>exact rfl);(case hd=>exact rfl);(case he=>exact rfl);intro x hF;conv=>whnf)
  | ((with_reducible have hJ:=isO hF);clear hJ;revert hF;(refine zcD (eK:=strN) (eM:=StoneM.m) za8 ?hk ?hd ?he ?_ ?_);(case hk=>exact λ _=>rfl);(case hd=>exact rfl);(case he=>exact rfl);(intro hl hF;conv=>whnf);rotate_left;(intro i hl hF;conv=>whnf);rotate_right)
  | ((with_reducible have hJ:=isO hF);clear hJ;revert hF;(refine zcD (eK:=strN) (eM:=EditionM.m) za8 ?hk ?hd ?he ?_ ?_);(case hk=>exact λ _=>rfl);(case hd=>exact rfl);(case he=>exact rfl);(intro hl hF;conv=>whnf);rotate_left;(intro i hl hF;conv=>whnf);rotate_right)
  | ((with_reducible refine isLF ?_);(refine zk9 (eK:=strN) (eM:=EditionM.m) za8 (λ _=>rfl) (by exact rfl) (by exact rfl) (by assumption) ?_);conv=>whnf)
  | ((with_reducible have hG:=zdh hF);clear hF;(obtain⟨⟨x,hx,hF⟩⟩:=hG);first|((with_reducible refine isMc ?_);(refine zd9 rfl hx (by exact rfl) ?_);conv=>whnf)|skip)
  | ((with_reducible refine isMc ?_);(refine zd9 rfl (by assumption) (by exact rfl) ?_);conv=>whnf)
  | ((with_reducible refine Or.inr ?_);(conv=>whnf);(with_reducible refine isTk ?_);(refine zgR (by first|exact zaf|exact zaM (by decide) zaf) ?_);conv=>whnf)
  | ((refine⟨(by first|exact zaf|exact zaM (by decide) zaf), ?_⟩);conv=>whnf)
  | ((with_reducible have hJ:=isO hF);clear hJ;revert hF;(refine zfL ?_ ?_);(intro ho hF;conv=>whnf);rotate_left;(intro j ho hF;conv=>whnf);rotate_right)
  | ((with_reducible refine isOP ?_);(refine zjA (by assumption) ?_);conv=>whnf)
  | ((with_reducible refine isLd ?_);(refine zgb rfl (by assumption) (λ key=>?_));conv=>whnf)
  | ((with_reducible have hG:=zcZ hF);clear hF;(first|((refine zdI hG ?hn ?hs (λ q hF=>?_));(case hn=>first|exact rfl|assumption|omega);(case hs=>exact rfl))|((refine zdH (d:=strN) hG ?hs (λ q hF=>?_));(case hs=>exact rfl))|((refine zdJ (d:=strN) hG ?ho ?hn ?hs (λ q hF=>?_));(case ho=>exact rfl);(case hn=>exact rfl);(case hs=>exact rfl)));clear hG;conv=>whnf)
  | ((with_reducible have hG:=zcZ hF);clear hF;(first|((refine zdI hG ?hn ?hs (λ q hF=>?_));(case hn=>first|exact rfl|assumption|omega);(case hs=>exact rfl))|((refine zdH (d:=iN) hG ?hs (λ q hF=>?_));(case hs=>exact rfl))|((refine zdJ (d:=iN) hG ?ho ?hn ?hs (λ q hF=>?_));(case ho=>exact rfl);(case hn=>exact rfl);(case hs=>exact rfl)));clear hG;conv=>whnf)
  | ((refine zet ?hn ?_);(case hn=>first|exact rfl|(simp;done)|(simp;omega));conv=>whnf)
  | (revert hF;(refine zqo ?hn ?_ ?_);(case hn=>first|exact rfl|assumption|omega);(intro hl hF;conv=>whnf);rotate_left;(intro hF;conv=>whnf);rotate_right)
  | ((with_reducible refine zer ?_);conv=>whnf)
  | ((with_reducible refine zgv ?hx ?_);(case hx=>first|exact rfl|assumption|exact notF (by assumption));conv=>whnf)
  | ((refine zaz 1101 1102000000 rfl rfl (Nat.le_of_ble_eq_true rfl) rfl (λ R hR=>?_));(conv=>whnf);(with_reducible refine hR _ ?ha ?_);(case ha=>exact rfl);clear R hR)
  | ((refine zaz 1102 1103000000 rfl rfl (Nat.le_of_ble_eq_true rfl) rfl (λ R hR=>?_));(conv=>whnf);(with_reducible refine hR _ ?ha ?_);(case ha=>exact rfl);clear R hR)
  | ((refine zaz 1304 1305000000 rfl rfl (Nat.le_of_ble_eq_true rfl) rfl (λ R hR=>?_));(conv=>whnf);(with_reducible refine hR _ ?ha ?_);(case ha=>exact rfl);clear R hR)
  | ((refine zaz 1502 1503000000 rfl rfl (Nat.le_of_ble_eq_true rfl) rfl (λ R hR=>?_));(conv=>whnf);(with_reducible refine hR _ ?ha ?_);(case ha=>exact rfl);clear R hR)
  | ((refine zaz 1404 1405000000 rfl rfl (Nat.le_of_ble_eq_true rfl) rfl (λ R hR=>?_));(conv=>whnf);(with_reducible refine hR _ ?ha ?_);(case ha=>exact rfl);clear R hR)
  | ((refine zaz 1503000101 1503000102000000 rfl rfl (Nat.le_of_ble_eq_true rfl) rfl (λ R hR=>?_));(conv=>whnf);(with_reducible refine hR _ ?ha ?_);(case ha=>exact rfl);clear R hR)
  | ((refine zaz 1103000101 1103000102000000 rfl rfl (Nat.le_of_ble_eq_true rfl) rfl (λ R hR=>?_));(conv=>whnf);(with_reducible refine hR _ ?ha ?_);(case ha=>exact rfl);clear R hR)
  | (show Kinl _ _ _ _ _ _ _;conv=>whnf)
  | ((with_reducible refine zcP ?ha ?hb ?_);(case ha=>exact rfl);(case hb=>exact rfl);conv=>whnf)
  | with_reducible refine zeY ?_)):P:=h
set_option maxRecDepth 20000 in
theorem wk5 {P:Prop}(h:P:=by repeat' (first
  | ((with_reducible first|refine q0 _ _ ?_|refine q1 _ _ _ _ ?_|refine q2 _ _ _ ?_);clear Q q0 q1 q2)
  | ((with_reducible first|refine zds ?hx (λ Q q0 q1 q2=>?_)|refine zdE ?hx (λ Q q0 q1 q2=>?_)|refine zdU ?hx (λ Q q0 q1 q2=>?_)|refine zeH ?hx (λ Q q0 q1 q2=>?_));(case hx=>exact rfl);conv=>whnf)
  | ((with_reducible refine zaX ?_);(with_reducible refine zaX ?_);(with_reducible have hG:=zb3 hF);(refine gZ 2 1206 rfl ?_);(refine zdR 2 1206 rfl rfl rfl (by first|exact zaf|exact zaM (by decide) zaf) (by assumption) (by exact rfl) ?_);(have hF:=hG);clear hG;dsimp only[St.settledF];(first|((with_reducible refine hR _ ?_);clear R hR)|((with_reducible refine hL _ ?_);clear L hL)))
  | ((with_reducible refine zaX ?_);(with_reducible refine zaX ?_);(with_reducible have hJ:=zfd hF);clear hJ;(refine gZ 2 1303 rfl ?_);(refine zdy 2 1303 hF rfl rfl rfl (by first|exact zaf|exact zaM (by decide) zaf) (by assumption) (by exact rfl) (by first|exact rfl|assumption|(symm;assumption)|omega) (by exact rfl) (λ q hq hF1=>?_));clear hF;(have hF:=hF1);clear hF1;dsimp only[St.settledF];(first|((with_reducible refine hR _ ?_);clear R hR)|((with_reducible refine hL _ ?_);clear L hL)))
  | ((with_reducible refine zco [] ?hx ?_);(case hx=>exact rfl))
  | with_reducible refine zfK ?_
  | ((with_reducible refine zaX ?_);(with_reducible refine zaX ?_);(with_reducible have hJ:=zfd hF);clear hJ;(refine gZ 2 1206 rfl ?_);(refine zdy 2 1206 hF rfl rfl rfl (by first|exact zaf|exact zaM (by decide) zaf) (by assumption) (by exact rfl) (by first|exact rfl|assumption|(symm;assumption)|omega) (by exact rfl) (λ q hq hF1=>?_));clear hF;(have hF:=hF1);clear hF1;dsimp only[St.settledF];(first|((with_reducible refine hR _ ?_);clear R hR)|((with_reducible refine hL _ ?_);clear L hL)))
  | ((with_reducible refine zaX ?_);(with_reducible refine zaX ?_);(with_reducible have hJ:=zfd hF);clear hJ;(refine gZ 2 1303 rfl ?_);(refine zjB 2 1303 hF rfl rfl rfl (by first|exact zaf|exact zaM (by decide) zaf) (by assumption) (by exact rfl) (by exact rfl) (λ q hq hF1=>?_));clear hF;(have hF:=hF1);clear hF1;dsimp only[St.settledF];(first|((with_reducible refine hR _ ?_);clear R hR)|((with_reducible refine hL _ ?_);clear L hL)))
  | ((with_reducible refine zaX ?_);(with_reducible refine zaX ?_);(with_reducible have hJ:=zfd hF);clear hJ;(refine gZ 2 1203 rfl ?_);(refine zjB 2 1203 hF rfl rfl rfl (by first|exact zaf|exact zaM (by decide) zaf) (by assumption) (by exact rfl) (by exact rfl) (λ q hq hF1=>?_));clear hF;(have hF:=hF1);clear hF1;dsimp only[St.settledF];(first|((with_reducible refine hR _ ?_);clear R hR)|((with_reducible refine hL _ ?_);clear L hL)))
  | ((with_reducible refine zaX ?_);(with_reducible refine zaX ?_);(with_reducible have hJ:=zfd hF);clear hJ;(refine gZ 2 1306 rfl ?_);(refine zdy 2 1306 hF rfl rfl rfl (by first|exact zaf|exact zaM (by decide) zaf) (by assumption) (by exact rfl) (by first|exact rfl|assumption|(symm;assumption)|omega) (by exact rfl) (λ q hq hF1=>?_));clear hF;(have hF:=hF1);clear hF1;dsimp only[St.settledF];(first|((with_reducible refine hR _ ?_);clear R hR)|((with_reducible refine hL _ ?_);clear L hL)))
  | ((with_reducible refine zaX ?_);(with_reducible refine zaX ?_);(with_reducible have hJ:=zfd hF);clear hJ;(refine gZ 2 1501 rfl ?_);(refine zdy 2 1501 hF rfl rfl rfl (by first|exact zaf|exact zaM (by decide) zaf) (by assumption) (by exact rfl) (by first|exact rfl|assumption|(symm;assumption)|omega) (by exact rfl) (λ q hq hF1=>?_));clear hF;(have hF:=hF1);clear hF1;dsimp only[St.settledF];(first|((with_reducible refine hR _ ?_);clear R hR)|((with_reducible refine hL _ ?_);clear L hL)))
  | ((with_reducible refine zcj ?_);(first|((with_reducible refine hR _ ?_);clear R hR)|((with_reducible refine hL _ ?_);clear L hL)))
  | ((with_reducible refine zcH ?_);(with_reducible refine hR _ _ ?hx ?_);(case hx=>kernel_rfl);clear R hR)
  | ((with_reducible first|refine zcn ?_|refine zcN ?_|refine idx2 (by assumption) ?_|refine idx3 (by assumption) ?_);conv=>whnf)
  | (with_reducible first|refine zci ?_|refine zdq ?_|refine zbv (λ R hR=>?_)|refine zbu ?_)
  | ((with_reducible refine zdD ?hx (λ R L hL hR=>?_));(case hx=>exact rfl))
  | ((with_reducible refine exg3 ?_);revert hF;(refine G213.step rfl rfl rfl (by assumption) (by exact rfl) (by exact rfl) ?_);(intro y hy hF);conv=>whnf)
  | (cases hF;(refine Or.inl ?_);(conv=>whnf);exact⟨rfl,rfl,rfl⟩)
  | ((with_reducible have hJ:=isSm hF);clear hJ;revert hF;(refine zes (eK:=strN) (eV:=iN) za8 ?hk ?hz ?hd ?he ?_);(case hk=>exact λ _=>rfl);(case hz=>exact rfl);(case hd=>exact rfl);(case he=>exact rfl);intro x hF;conv=>whnf)
  | ((refine zmJ rfl (by assumption) (λ d hp=>?_));(conv=>whnf);(refine zqk hF hp (by assumption) rfl (by exact rfl) (λ q hq hF1=>?_));clear hp;clear hF;(have hF:=hF1);clear hF1;conv=>whnf)
  | ((with_reducible have hJ:=isSm hF);clear hJ;revert hF;(refine zgP (eK:=strN) (eV:=iN) za8 ?hk ?hv ?hd ?he ?_);(case hk=>exact λ _=>rfl);(case hv=>exact rfl);(case hd=>exact rfl);(case he=>exact rfl);intro x hF;conv=>whnf)
  | ((with_reducible have hJ:=isO hF);clear hJ;revert hF;(refine zcD (eK:=strN) (eM:=StoneM.m) za8 ?hk ?hd ?he ?_ ?_);(case hk=>exact λ _=>rfl);(case hd=>exact rfl);(case he=>exact rfl);(intro hl hF;conv=>whnf);rotate_left;(intro i hl hF;conv=>whnf);rotate_right)
  | ((with_reducible have hJ:=isSm hF);clear hJ;revert hF;(refine zgP (eK:=strN) (eV:=bN) za8 ?hk ?hv ?hd ?he ?_);(case hk=>exact λ _=>rfl);(case hv=>exact rfl);(case hd=>exact rfl);(case he=>exact rfl);intro x hF;conv=>whnf)
  | ((with_reducible have hJ:=isO hF);clear hJ;revert hF;(refine zcD (eK:=strN) (eM:=EditionM.m) za8 ?hk ?hd ?he ?_ ?_);(case hk=>exact λ _=>rfl);(case hd=>exact rfl);(case he=>exact rfl);(intro hl hF;conv=>whnf);rotate_left;(intro i hl hF;conv=>whnf);rotate_right)
  | ((with_reducible have hG:=zdh hF);clear hF;(obtain⟨⟨x,hx,hF⟩⟩:=hG);first|((with_reducible refine isMc ?_);(refine zd9 rfl hx (by exact rfl) ?_);conv=>whnf)|skip)
  | ((with_reducible refine isMc ?_);(refine zd9 rfl (by assumption) (by exact rfl) ?_);conv=>whnf)
  | ((with_reducible refine Or.inr ?_);(conv=>whnf);(with_reducible refine isTk ?_);(refine zgR (by first|exact zaf|exact zaM (by decide) zaf) ?_);conv=>whnf)
  | ((refine⟨(by first|exact zaf|exact zaM (by decide) zaf), ?_⟩);conv=>whnf)
  | ((with_reducible have hJ:=isO hF);clear hJ;revert hF;(refine zfL ?_ ?_);(intro ho hF;conv=>whnf);rotate_left;(intro j ho hF;conv=>whnf);rotate_right)
  | ((with_reducible refine isOP ?_);(refine zjA (by assumption) ?_);conv=>whnf)
  | ((with_reducible refine isOP ?_);(refine zqj (by assumption) ?_);conv=>whnf)
  | ((with_reducible refine isSF ?_);(with_reducible have hJ:=zfd hF);clear hJ;(refine zl hF (by assumption) rfl (by exact rfl) (λ q hq hF1=>?_));clear hF;(have hF:=hF1);clear hF1;conv=>whnf)
  | ((with_reducible refine isPF ?_);(with_reducible have hJ:=zfd hF);clear hJ;(refine zlb hF (by assumption) rfl (by first|exact rfl|assumption|omega) (by exact rfl) (by first|exact zla.trans zgS|exact zgS|exact rfl) (λ q hq hF1=>?_));clear hF;(have hF:=hF1);clear hF1;conv=>whnf)
  | (revert hF;(with_reducible refine idx1 ?hn ?_);(case hn=>first|exact rfl|exact(List.length_map _)|assumption|omega|simp);intro x hx hF;conv=>whnf)
  | ((with_reducible have hG:=zcZ hF);clear hF;(first|((refine zdI hG ?hn ?hs (λ q hF=>?_));(case hn=>first|exact rfl|assumption|omega);(case hs=>exact rfl))|((refine zdH (d:=iN) hG ?hs (λ q hF=>?_));(case hs=>exact rfl))|((refine zdJ (d:=iN) hG ?ho ?hn ?hs (λ q hF=>?_));(case ho=>exact rfl);(case hn=>exact rfl);(case hs=>exact rfl)));clear hG;conv=>whnf)
  | ((refine zet ?hn ?_);(case hn=>first|exact rfl|(simp;done)|(simp;omega));conv=>whnf)
  | ((with_reducible refine zhw ?hn ?_);(case hn=>first|exact rfl|assumption|omega);conv=>whnf)
  | ((with_reducible have hG:=zfG hF);clear hF;(refine zht hG ?hs (λ q hl hF=>?_));(case hs=>exact rfl);clear hG;conv=>whnf)
  | ((refine⟨?hx, ?_⟩);(case hx=>exact⟨rfl,Nat.le_of_ble_eq_true rfl,rfl⟩);conv=>whnf)
  | ((with_reducible refine zer ?_);conv=>whnf)
  | with_reducible refine zeY ?_
  | (have hF:(none:Option _)=some _:=hF;cases hF))):P:=h
set_option maxRecDepth 20000 in
theorem wk6 {P:Prop}(h:P:=by repeat' (first
  | ((with_reducible first|refine q0 _ _ ?_|refine q1 _ _ _ _ ?_|refine q2 _ _ _ ?_);clear Q q0 q1 q2)
  | ((with_reducible first|refine zds ?hx (λ Q q0 q1 q2=>?_)|refine zdU ?hx (λ Q q0 q1 q2=>?_));(case hx=>exact rfl);conv=>whnf)
  | ((with_reducible first|refine zeZ ?hx ?_|refine zdV ?hx ?_|refine zcO ?hx ?_|refine zdr ?hx ?_);(case hx=>exact rfl))
  | ((with_reducible refine zfI ?_);(first|((first|refine zfa rfl ?hy (λ Q q0 q1 q2=>?_)|refine zd6 rfl ?hy (λ Q q0 q1 q2=>?_));(case hy=>first|assumption|exact notT (by assumption)|exact rfl);conv=>whnf)|((first|refine zd5 rfl ?hy ?_|refine zdf rfl ?hy ?_);(case hy=>first|assumption|exact notF (by assumption)|exact rfl))|(revert hF;(with_reducible first|refine zfb ?hx ?_ ?_|refine zd7 ?hx ?_ ?_);(case hx=>exact rfl);(intro hc hF Q q0 q1 q2;conv=>whnf);rotate_left;(intro hc hF);rotate_right)|(revert hF;(with_reducible first|refine zfc ?hx ?_ ?_|refine zd8 ?hx ?_ ?_);(case hx=>exact rfl);(intro hc hF);rotate_left;(intro hc hF Q q0 q1 q2;conv=>whnf);rotate_right)))
  | ((with_reducible refine zde ?_);(first|((refine zeu rfl ?hy ?_);(case hy=>first|assumption|exact notT (by assumption)|exact rfl))|((refine zev rfl ?hy ?_);(case hy=>first|assumption|exact notF (by assumption)|exact rfl))|(revert hF;(with_reducible refine zhy ?hx ?_ ?_);(case hx=>exact rfl);all_goals (intro hc hF))))
  | ((with_reducible refine zcj ?_);(first|((with_reducible refine hR _ ?_);clear R hR)|((with_reducible refine hL _ ?_);clear L hL)))
  | ((with_reducible first|refine zcn ?_|refine zcN ?_|refine idx2 (by assumption) ?_|refine idx3 (by assumption) ?_);conv=>whnf)
  | (with_reducible first|refine zb7 ?_|refine zci ?_|refine zdq ?_|refine zcT ?_|refine zbv (λ R hR=>?_)|refine zbu ?_|refine zbs ?_|refine zg6 ?_|refine zbR ?_|refine zbC ?_|refine zcA ?_|refine zca ?_)
  | ((with_reducible replace hF:=isE hF);(dsimp only[zjC,zqv,zjD,zlf,zmO,ztJ,zqw,zmP,ztK,zlm,zea,zgy,zdj,zmU,ztQ,zlC,zjH,zqM,zlD,zbF,zcq,zbG,zbr,zb5,zcs,za9,za4,zba] at hF);first|((with_reducible replace hF:=chkE (e:=zgc ..) hF);rewrite[zgc] at hF)|((with_reducible replace hF:=chkE (e:=ziM ..) hF);rewrite[ziM] at hF)|((with_reducible replace hF:=chkE (e:=zaY ..) hF);rewrite[zaY] at hF)|((with_reducible replace hF:=chkE (e:=zaZ ..) hF);rewrite[zaZ] at hF)|((with_reducible replace hF:=chkE (e:=zaP ..) hF);rewrite[zaP] at hF)|rewrite[zhC] at hF|rewrite[zqu] at hF|rewrite[ztI] at hF|rewrite[zhD] at hF|rewrite[znM] at hF|rewrite[zcR] at hF|rewrite[zgx] at hF|rewrite[zhL] at hF|rewrite[znP] at hF|rewrite[zhM] at hF|rewrite[zqL] at hF|rewrite[zcp] at hF|rewrite[zb4] at hF|rewrite[zcr] at hF)
  | ((with_reducible refine zey ?_);first|((with_reducible replace hF:=toLp 0 1 hF);exact Lp.backI hF () ⟨_,rfl,rfl,rfl,rfl⟩ rfl)|((with_reducible replace hF:=toLp 0 2 hF);exact Lp.backI hF () ⟨_,rfl,rfl,rfl,rfl⟩ rfl))
  | ((with_reducible refine zcC ?_);first|((with_reducible replace hF:=toLp 0 0 hF);exact Lp.headI hF () ⟨_,rfl,rfl,rfl,rfl⟩ rfl)|((with_reducible replace hF:=toLp 0 1 hF);exact Lp.headI hF () ⟨_,rfl,rfl,rfl,rfl⟩ rfl))
  | ((with_reducible refine zex ?_);first|((with_reducible replace hF:=toLp 0 1 hF);((refine Lp.loopI hF () rfl ⟨_,rfl,rfl,rfl,rfl⟩ rfl (λ _=>rfl) ?_);clear hF);(rintro n _ hF))|((with_reducible replace hF:=toLp 0 2 hF);((refine Lp.loopI hF () rfl ⟨_,rfl,rfl,rfl,rfl⟩ rfl (λ _=>rfl) ?_);clear hF);(rintro n ⟨_,_⟩ hF)))
  | ((with_reducible refine zcU ?_);first|((with_reducible replace hF:=zew 0 hF);((refine Lp.cutI hF rfl rfl ?_ ?_) <;> clear hF);(intro hF);rotate_left;(rintro _ hF);rotate_right)|((with_reducible replace hF:=zew 1 hF);((refine Lp.cutI hF rfl rfl ?_ ?_) <;> clear hF);(intro hF);rotate_left;(rintro _ hF);rotate_right))
  | ((with_reducible refine zco [] ?hx ?_);(case hx=>exact rfl))
  | with_reducible refine zfK ?_
  | ((with_reducible have hI:=zqq hF);clear hI;revert hF;(refine zk2 ?_);intro x hF;conv=>whnf)
  | ((with_reducible have hJ:=isB hF);clear hJ;revert hF;(with_reducible first|refine G73.step ?hx ?_|refine G117.lend ?hx ?_|refine G143.step ?hx ?_|refine G145.lend ?hx ?_);(case hx=>exact rfl);intro v hF;conv=>whnf)
  | (revert hF;(refine zk1 ?_);intro x hF;conv=>whnf)
  | (revert hF;(with_reducible refine idx1 ?hn ?_);(case hn=>first|exact rfl|exact(List.length_map _)|assumption|omega|simp);intro x hx hF;conv=>whnf)
  | ((with_reducible have hG:=zjx hF);clear hF;(refine znx hG (λ q hF=>?_));clear hG;conv=>whnf)
  | ((with_reducible refine zer ?_);conv=>whnf)
  | ((with_reducible have hG:=znB hF);clear hF;(refine⟨?hx, ?_⟩);(case hx=>(first|exact of_decide_eq_true hG.1|exact hG.1));have hF:=hG.2;clear hG;conv=>whnf)
  | ((with_reducible refine zhx ?hx ?_);(case hx=>first|exact rfl|assumption|exact notT (by assumption));conv=>whnf)
  | ((with_reducible refine zgv ?hx ?_);(case hx=>first|exact rfl|assumption|exact notF (by assumption));conv=>whnf)
  | (revert hF;(with_reducible refine zbg ?_ ?_) <;> (intro hc hF;conv=>whnf))
  | ((refine zaz 103 104000000 rfl rfl (Nat.le_of_ble_eq_true rfl) rfl (λ R hR=>?_));(conv=>whnf);(with_reducible refine hR _ ?ha ?_);(case ha=>exact rfl);clear R hR)
  | ((refine zaz 206 207000000 rfl rfl (Nat.le_of_ble_eq_true rfl) rfl (λ R hR=>?_));(conv=>whnf);(with_reducible refine hR _ ?ha ?_);(case ha=>exact rfl);clear R hR)
  | ((refine zaz 104000403 104000404000000 rfl rfl (Nat.le_of_ble_eq_true rfl) rfl (λ R hR=>?_));(conv=>whnf);(with_reducible refine hR _ ?ha ?_);(case ha=>exact rfl);clear R hR)
  | ((refine zaz 403 404000000 rfl rfl (Nat.le_of_ble_eq_true rfl) rfl (λ R hR=>?_));(conv=>whnf);(with_reducible refine hR _ ?ha ?_);(case ha=>exact rfl);clear R hR)
  | ((refine zaz 207000102 207000103000000 rfl rfl (Nat.le_of_ble_eq_true rfl) rfl (λ R hR=>?_));(conv=>whnf);(with_reducible refine hR _ ?ha ?_);(case ha=>exact rfl);clear R hR)
  | ((refine zaz 404000102 404000103000000 rfl rfl (Nat.le_of_ble_eq_true rfl) rfl (λ R hR=>?_));(conv=>whnf);(with_reducible refine hR _ ?ha ?_);(case ha=>exact rfl);clear R hR)
  | ((refine zaz 207000103000405 207000103000406000000 rfl rfl (Nat.le_of_ble_eq_true rfl) rfl (λ R hR=>?_));(conv=>whnf);(with_reducible refine hR _ ?ha ?_);(case ha=>exact rfl);clear R hR)
  | ((refine zaz 404000103000405 404000103000406000000 rfl rfl (Nat.le_of_ble_eq_true rfl) rfl (λ R hR=>?_));(conv=>whnf);(with_reducible refine hR _ ?ha ?_);(case ha=>exact rfl);clear R hR)
  | (show Kinl _ _ _ _ _ _ _;conv=>whnf)
  | ((with_reducible refine zcP ?ha ?hb ?_);(case ha=>exact rfl);(case hb=>exact rfl);conv=>whnf)
  | ((refine⟨?hx,trivial⟩);(case hx=>(cases hF;exact rfl)))
  | with_reducible refine zeY ?_)):P:=h
set_option maxRecDepth 20000 in
theorem wk7 {P:Prop}(h:P:=by repeat' (first
  | ((with_reducible first|refine q0 _ _ ?_|refine q1 _ _ _ _ ?_|refine q2 _ _ _ ?_);clear Q q0 q1 q2)
  | ((with_reducible first|refine zds ?hx (λ Q q0 q1 q2=>?_)|refine zdE ?hx (λ Q q0 q1 q2=>?_)|refine zdU ?hx (λ Q q0 q1 q2=>?_)|refine zeH ?hx (λ Q q0 q1 q2=>?_));(case hx=>exact rfl);conv=>whnf)
  | ((with_reducible refine zde ?_);(first|((refine zeu rfl ?hy ?_);(case hy=>first|assumption|exact notT (by assumption)|exact rfl))|((refine zev rfl ?hy ?_);(case hy=>first|assumption|exact notF (by assumption)|exact rfl))|(revert hF;(with_reducible refine zhy ?hx ?_ ?_);(case hx=>exact rfl);all_goals (intro hc hF))))
  | ((with_reducible refine zcj ?_);(first|((with_reducible refine hR _ ?_);clear R hR)|((with_reducible refine hL _ ?_);clear L hL)))
  | ((with_reducible refine zco [] ?hx ?_);(case hx=>exact rfl))
  | with_reducible refine zfK ?_
  | ((with_reducible refine zcH ?_);(with_reducible refine hR _ _ ?hx ?_);(case hx=>kernel_rfl);clear R hR)
  | (with_reducible first|refine zci ?_|refine zdq ?_|refine zbv (λ R hR=>?_)|refine zbu ?_|refine zb7 ?_|refine zcT ?_|refine zbs ?_|refine zg6 ?_|refine zbR ?_|refine zbC ?_)
  | ((with_reducible refine zdD ?hx (λ R L hL hR=>?_));(case hx=>exact rfl))
  | ((with_reducible have hJ:=isB hF);clear hJ;revert hF;(first|refine G51.step rfl rfl rfl rfl rfl rfl rfl (by first|exact rfl|assumption|omega|(simp only[List.length_set];done)) (by first|exact trivial|exact rfl) ?hn ?_);(case hn=>exact rfl);intro v hF;(obtain⟨v,ve⟩:=v);(try dsimp only at hF);(conv=>whnf))
  | ((with_reducible have hJ:=isB hF);clear hJ;revert hF;(first|refine G197.step rfl rfl rfl rfl rfl  (by first|exact trivial|exact rfl) ?hn ?_|refine G199.step rfl rfl rfl rfl rfl  (by first|exact trivial|exact rfl) ?hn ?_|refine G201.step rfl rfl rfl rfl rfl  (by first|exact trivial|exact rfl) ?hn ?_|refine G203.step rfl rfl rfl rfl rfl  (by first|exact trivial|exact rfl) ?hn ?_|refine G205.step rfl rfl rfl rfl rfl  (by first|exact trivial|exact rfl) ?hn ?_|refine G207.step rfl rfl rfl rfl rfl  (by first|exact trivial|exact rfl) ?hn ?_|refine G209.step rfl rfl rfl rfl rfl  (by first|exact trivial|exact rfl) ?hn ?_|refine G211.step rfl rfl rfl rfl rfl  (by first|exact trivial|exact rfl) ?hn ?_|refine G214.step rfl rfl rfl rfl rfl  (by first|exact trivial|exact rfl) ?hn ?_);(case hn=>exact rfl);intro v hF;conv=>whnf)
  | (cases hF;(refine Or.inl ?_);(conv=>whnf);exact⟨rfl,rfl,rfl⟩)
  | ((with_reducible have hG:=zhA hF);clear hF;(refine zhB (eM:=StoneM.m) hG za8 ?hk ?hd ?he [.d default, .p 0 none, .d default] rfl ?_);(case hk=>exact λ _=>rfl);(case hd=>exact rfl);(case he=>exact rfl);(conv=>whnf);(refine⟨⟨rfl,rfl,(by decide)⟩, ?_⟩);(refine zmK hG rfl rfl rfl (λ q hq hF=>?_));clear hG;conv=>whnf)
  | ((with_reducible have hG:=zhA hF);clear hF;(refine zhB (eM:=EditionM.m) hG za8 ?hk ?hd ?he [.d default, .d default, .r 3 1 [], .d default, .d default, .d default, .d default, .m [], .d default] rfl ?_);(case hk=>exact λ _=>rfl);(case hd=>exact rfl);(case he=>exact rfl);(conv=>whnf);(refine⟨⟨rfl,rfl,(by decide)⟩, ?_⟩);(refine zmK hG rfl rfl rfl (λ q hq hF=>?_));clear hG;conv=>whnf)
  | ((refine zet ?hn ?_);(case hn=>first|exact rfl|(simp;done)|(simp;omega));conv=>whnf)
  | with_reducible refine zeY ?_
  | (have hF:(none:Option _)=some _:=hF;cases hF)
  | (revert hF;(refine I97.on_step ?_ ?_ ?_ ?_ ?_ ?_ ?_ ?_ ?_ ?_) <;> ((intros);(rename_i hx hF);(first|(cases hx;done)|(subst hx;(conv=>whnf))|(cases hx;(conv=>whnf))|(simp only[hx];(conv=>whnf)))))
  | ((with_reducible have hG:=zcZ hF);clear hF;(first|((refine zdI hG ?hn ?hs (λ q hF=>?_));(case hn=>first|exact rfl|assumption|omega);(case hs=>exact rfl))|((refine zdH (d:=strN) hG ?hs (λ q hF=>?_));(case hs=>exact rfl))|((refine zdJ (d:=strN) hG ?ho ?hn ?hs (λ q hF=>?_));(case ho=>exact rfl);(case hn=>exact rfl);(case hs=>exact rfl)));clear hG;conv=>whnf)
  | ((refine I97.fp (K:=λ x=>Q ⟨x,[]⟩ _) ?_);conv=>whnf)
  | ((refine I97.fp (K:=λ x=>mvPg x _ _ _ _) ?_);conv=>whnf))):P:=h
set_option maxRecDepth 20000 in
theorem wk8 {P:Prop}(h:P:=by repeat' (first
  | ((with_reducible first|refine q0 _ _ ?_|refine q1 _ _ _ _ ?_|refine q2 _ _ _ ?_);clear Q q0 q1 q2)
  | ((with_reducible first|refine zds ?hx (λ Q q0 q1 q2=>?_));(case hx=>exact rfl);conv=>whnf)
  | ((with_reducible refine zcj ?_);(first|((with_reducible refine hR _ ?_);clear R hR)|((with_reducible refine hL _ ?_);clear L hL)))
  | (with_reducible first|refine zci ?_|refine zdq ?_|refine zbv (λ R hR=>?_)|refine zbu ?_)
  | ((with_reducible refine zco [] ?hx ?_);(case hx=>exact rfl))
  | with_reducible refine zfK ?_
  | ((with_reducible have hJ:=isB hF);clear hJ;revert hF;(with_reducible first|refine G88.lend ?hx ?_|refine G61.lend ?hx ?_|refine G119.step ?hx ?_);(case hx=>exact rfl);intro v hF;conv=>whnf)
  | ((refine zet ?hn ?_);(case hn=>first|exact rfl|(simp;done)|(simp;omega));conv=>whnf)
  | ((refine⟨?hx,trivial⟩);(case hx=>(cases hF;exact rfl)))
  | with_reducible refine zeY ?_)):P:=h
set_option maxRecDepth 20000 in
theorem wk9 {P:Prop}(h:P:=by repeat' (first
  | ((with_reducible first|refine q0 _ _ ?_|refine q1 _ _ _ _ ?_|refine q2 _ _ _ ?_);clear Q q0 q1 q2)
  | ((with_reducible first|refine zds ?hx (λ Q q0 q1 q2=>?_)|refine zdE ?hx (λ Q q0 q1 q2=>?_));(case hx=>exact rfl);conv=>whnf)
  | ((with_reducible refine zde ?_);(first|((refine zeu rfl ?hy ?_);(case hy=>first|assumption|exact notT (by assumption)|exact rfl))|((refine zev rfl ?hy ?_);(case hy=>first|assumption|exact notF (by assumption)|exact rfl))|(revert hF;(with_reducible refine zhy ?hx ?_ ?_);(case hx=>exact rfl);all_goals (intro hc hF))))
  | ((with_reducible refine zcj ?_);(first|((with_reducible refine hR _ ?_);clear R hR)|((with_reducible refine hL _ ?_);clear L hL)))
  | ((with_reducible refine zcH ?_);(with_reducible refine hR _ _ ?hx ?_);(case hx=>kernel_rfl);clear R hR)
  | ((with_reducible first|refine zcn ?_|refine idx2 (by assumption) ?_|refine idx3 (by assumption) ?_|refine zcN ?_);conv=>whnf)
  | (with_reducible first|refine zb7 ?_|refine zci ?_|refine zdq ?_|refine zcT ?_|refine zbv (λ R hR=>?_)|refine zbu ?_|refine zbs ?_|refine zg6 ?_|refine zbR ?_|refine zbC ?_|refine zcA ?_|refine zca ?_)
  | ((with_reducible refine zdD ?hx (λ R L hL hR=>?_));(case hx=>exact rfl))
  | ((with_reducible replace hF:=isE hF);(dsimp only[zjF,zqE,zlz,zmS,ztN,zqH,zbH,zcu,zbb] at hF);first|((with_reducible replace hF:=chkE (e:=zgd) hF);rewrite[zgd] at hF)|((with_reducible replace hF:=chkE (e:=ziN) hF);rewrite[ziN] at hF)|((with_reducible replace hF:=chkE (e:=za0 ..) hF);rewrite[za0] at hF)|rewrite[zqD] at hF|rewrite[ztM] at hF|rewrite[zct] at hF)
  | ((with_reducible refine zey ?_);first|((with_reducible replace hF:=toLp 0 1 hF);exact Lp.backI hF () ⟨_,rfl,rfl,rfl,rfl⟩ rfl))
  | ((with_reducible refine zcC ?_);first|((with_reducible replace hF:=toLp 0 0 hF);exact Lp.headI hF () ⟨_,rfl,rfl,rfl,rfl⟩ rfl))
  | ((with_reducible refine zex ?_);first|((with_reducible replace hF:=toLp 0 1 hF);((refine Lp.loopI hF () rfl ⟨_,rfl,rfl,rfl,rfl⟩ rfl (λ _=>rfl) ?_);clear hF);(rintro n _ hF)))
  | ((with_reducible refine zcU ?_);first|((with_reducible replace hF:=zew 0 hF);((refine Lp.cutI hF rfl rfl ?_ ?_) <;> clear hF);(intro hF);rotate_left;(rintro _ hF);rotate_right))
  | ((with_reducible refine zco [] ?hx ?_);(case hx=>exact rfl))
  | with_reducible refine zfK ?_
  | ((with_reducible have hJ:=isB hF);clear hJ;revert hF;(with_reducible first|refine G116.lend ?hx ?_|refine G117.lend ?hx ?_|refine G132.lend ?hx ?_|refine G158.lend ?hx ?_|refine G146.lend ?hx ?_|refine G147.lend ?hx ?_);(case hx=>exact rfl);intro v hF;conv=>whnf)
  | (revert hF;(with_reducible refine idx1 ?hn ?_);(case hn=>first|exact rfl|exact(List.length_map _)|assumption|omega|simp);intro x hx hF;conv=>whnf)
  | ((refine zaz 602 603000000 rfl rfl (Nat.le_of_ble_eq_true rfl) rfl (λ R hR=>?_));(conv=>whnf);(with_reducible refine hR _ ?ha ?_);(case ha=>exact rfl);clear R hR)
  | ((refine zaz 603000102 603000103000000 rfl rfl (Nat.le_of_ble_eq_true rfl) rfl (λ R hR=>?_));(conv=>whnf);(with_reducible refine hR _ ?ha ?_);(case ha=>exact rfl);clear R hR)
  | ((refine zaz 603000103000405 603000103000406000000 rfl rfl (Nat.le_of_ble_eq_true rfl) rfl (λ R hR=>?_));(conv=>whnf);(with_reducible refine hR _ ?ha ?_);(case ha=>exact rfl);clear R hR)
  | (show Kinl _ _ _ _ _ _ _;conv=>whnf)
  | ((with_reducible refine zcP ?ha ?hb ?_);(case ha=>exact rfl);(case hb=>exact rfl);conv=>whnf)
  | ((refine⟨?hx,trivial⟩);(case hx=>(cases hF;exact rfl)))
  | ((refine⟨?hx, ?_⟩);(case hx=>decide);conv=>whnf)
  | with_reducible refine zeY ?_)):P:=h

end Go.Vc
