/-
  A library for proofs about Go functions by symbolic evaluation,and plain Lean functions that the walked Go functions compute (written by a program of this claim).
-/
import Derived.Test.YtijmkjnlgcockaaGreatDoorFLNF1
set_option linter.unusedVariables false
set_option linter.unnecessarySimpa false
set_option linter.unusedSimpArgs false
namespace Go.Vc
open Go.Proofs
variable {N id:Nat} {ρ:Type} {q:ρ} {xs:List SV} {m:Nat->Blk} {l:List Loc} {ds:List D} {K:Dl->List Loc->Prop} {k0 k1 k2 k3 k4 k5 k6 k7 k8 k9 k10 k11 k12 k13 k14 k15 m0 m1 m2 m3 m4 m5:Nat}
def zhX (N:Nat)(x18:Int×LS×LE×LC×LB)(x19:Int×ByteArray×Int)(x20:Tally×Int)(b106_1':LB):Option (Bool) :=
 bif decide (x19.2.2=(0:Int)) then (bif decide (x20.2=(0:Int)) then (bif decide (x19.1=(8:Int)) then (bif decide (x19.2.1=zaM) then (bif (decide (x20.1.Paper=(100:Int))&&(decide (x20.1.Delivered=(59:Int))&&(decide (x20.1.Spoilt=(26:Int))&&(decide (x20.1.Lost=(15:Int))&&(decide (x20.1.Rest=(0:Int))&&true))))) then ((f18 N (strC [101,100,105,116,105,111,110,32,77,97,112]) x18.2.2.2.2 x18.2.1 x18.2.2.1 x18.2.2.2.1).bind λ x21 =>
 bif decide (x21.1=(8:Int)) then ((f18 N (strC [115,116,111,110,101,32,99,32,48]) x21.2.2.2.2 x21.2.1 x21.2.2.1 x21.2.2.2.1).bind λ x22 =>
 bif decide (x22.1=(4:Int)) then ((f18 N (strC [112,114,105,110,116,32,98,32,49]) x22.2.2.2.2 x22.2.1 x22.2.2.1 x22.2.2.2.1).bind λ x23 =>
 bif decide (x23.1=(9:Int)) then ((f23 N (b106_1') [] [] []).bind λ x24 =>
 bif decide (x24=(strC [116,117,115,99,104,101,32,48,10])) then ((f18 N (strC [101,100,105,116,105,111,110,32,97]) (b106_1') [] [] []).bind λ x25 =>
 bif decide (x25.1=(0:Int)) then ((f23 N x25.2.2.2.2 x25.2.1 x25.2.2.1 x25.2.2.2.1).bind λ x26 =>
 some (decide (x26=(strC [116,117,115,99,104,101,32,49,10,101,100,105,116,105,111,110,32,97,32,52,49,55,48,54,10]))))
 else (some (false)))
 else (some (false)))
 else (some (false)))
 else (some (false)))
 else (some (false)))
 else (some (false)))
 else (some (false)))
 else (some (false)))
 else (some (false)))
 else (some (false))
def zkd (N:Nat)(x18:Int×LS×LE×LC×LB)(x19:Int×ByteArray×Int)(x20:Tally×Int):Lp (LB) (Nat×Nat) (Bool):=lpm ⟨[1,5,6,7,9,10,11],[905,1813,90520,zyy,zyv,zyz,zyA,zyw,2201000100,2201000101,2201000102,2201000104,2201000106],[(.cell 2201000106 1,90520,9,1)],[]⟩ (λ b106_1' => zhX N x18 x19 x20 b106_1') (λ _ (_,_)=>[.ptr zyw 0, .dat (iN x19.2.2), .ptr 905 0, .dat (iN x20.2), .dat (iN x19.1), .dat (strN x19.2.1), .ptr 2201000106 0]) (λ b106_1' (m0,m1)=>[.box [.dat (iN x20.1.Paper), .dat (iN x20.1.Delivered), .dat (iN x20.1.Spoilt), .dat (iN x20.1.Lost), .dat (iN x20.1.Rest)],(rW x18.2.2.2.2),(rW b106_1'),(sW [zyv] x18.2.1),(eW x18.2.2.1),(mW x18.2.2.2.1), .box [.mp zyy, .mp zyv, .mp zyz], .box [.ptr zyA 0, .rs 1813 m0], .fam [2201000101] (encF strN StoneM.m []) [], .fam [] (encF strN EditionM.m []) [], .mp (encM strN bN []), .box [.mp 2201000100, .mp 2201000101, .mp 2201000102], .box [.ptr 2201000104 0, .rs 90520 m1]]) λ b106_1' => (List.length x18.2.2.2.2,List.length (b106_1'))
instance Ef14_c23 {N x18 x19 x20 b106_1'}:IsLp 2 1 (zhX N x18 x19 x20 b106_1') (zkd N x18 x19 x20) b106_1':=⟨rfl⟩
instance Cf14_c23 {N x18 x19 x20}:IsCut 1 (zhX N x18 x19 x20) (zkd N x18 x19 x20) 23:=⟨⟩
def zlV (N:Nat)(b106_1:LB)(b100:LS)(b101:LE)(b102:LC):Option (Bool) :=
 (f33 N (strC [109,97,112]) b106_1 b100 b101 b102).bind λ x2 =>
 (f34 N (strC [109,97,112]) b106_1 b100 b101 b102).bind λ x3 =>
 bif decide (¬ x2.2=(0:Int)) then (some (false))
 else (bif decide (¬ x3.2=(0:Int)) then (some (false))
 else ((f35 N x2.1 [(15:Int),(28:Int),(50:Int)]).bind λ x4 =>
 bif !x4 then (some (false))
 else (bif !(decide (x3.1.Paper=(100:Int))&&(decide (x3.1.Delivered=(0:Int))&&(decide (x3.1.Spoilt=(7:Int))&&(decide (x3.1.Lost=(0:Int))&&(decide (x3.1.Rest=(93:Int))&&true))))) then (some (false))
 else ((f18 N (strC [100,114,97,119,32,97,32,109,97,112]) b106_1 b100 b101 b102).bind λ x5 =>
 bif decide (¬ x5.1=(20:Int)) then (some (false))
 else ((f18 N (strC [112,114,105,110,116,32,98,32,50,57,32,48]) x5.2.2.2.2 x5.2.1 x5.2.2.1 x5.2.2.2.1).bind λ x6 =>
 bif decide (¬ x6.1=(16:Int)) then (some (false))
 else ((f18 N (strC [100,101,108,105,118,101,114,32,97,110,110,32,109,97,112,32,53,49]) x6.2.2.2.2 x6.2.1 x6.2.2.1 x6.2.2.2.1).bind λ x7 =>
 bif decide (¬ x7.1=(16:Int)) then (some (false))
 else ((f17 N (strC [103,114,105,110,100,32,98]) x7.2.2.2.2 x7.2.1 x7.2.2.1 x7.2.2.2.1).bind λ x8 =>
 bif decide (¬ x8=(12:Int)) then (some (false))
 else ((f18 N (strC [103,114,105,110,100,32,97]) x7.2.2.2.2 x7.2.1 x7.2.2.1 x7.2.2.2.1).bind λ x9 =>
 bif decide (¬ x9.1=(0:Int)) then (some (false))
 else ((f18 N (strC [112,114,105,110,116,32,97,32,49,32,48]) x9.2.2.2.2 x9.2.1 x9.2.2.1 x9.2.2.2.1).bind λ x10 =>
 bif decide (¬ x10.1=(1:Int)) then (some (false))
 else ((f18 N (strC [100,101,108,105,118,101,114,32,97,110,110,32,109,97,112,32,53,48]) x10.2.2.2.2 x10.2.1 x10.2.2.1 x10.2.2.2.1).bind λ x11 =>
 bif decide (¬ x11.1=(0:Int)) then (some (false))
 else ((f36 N (strC [97,110,110]) (strC [109,97,112]) x11.2.2.2.2 x11.2.1 x11.2.2.1 x11.2.2.2.1).bind λ x12 =>
 bif decide (¬ x12.2=(0:Int)) then (some (false))
 else (bif decide (¬ x12.1=(10:Int)) then (some (false))
 else ((f18 N (strC [112,114,105,110,116,32,98,32,57,32,49,56]) x11.2.2.2.2 x11.2.1 x11.2.2.1 x11.2.2.2.1).bind λ x13 =>
 bif decide (¬ x13.1=(0:Int)) then (some (false))
 else ((f18 N (strC [103,114,105,110,100,32,98]) x13.2.2.2.2 x13.2.1 x13.2.2.1 x13.2.2.2.1).bind λ x14 =>
 bif decide (¬ x14.1=(12:Int)) then (some (false))
 else ((f18 N (strC [112,114,105,110,116,32,98,32,48,32,49]) x14.2.2.2.2 x14.2.1 x14.2.2.1 x14.2.2.2.1).bind λ x15 =>
 bif decide (¬ x15.1=(0:Int)) then (some (false))
 else ((f40 N (strC [109,97,112]) x15.2.2.2.2 x15.2.1 x15.2.2.1 x15.2.2.2.1).bind λ x16 =>
 bif decide (¬ x16.2=(0:Int)) then (some (false))
 else (bif decide (¬ x16.1=(1:Int)) then (some (false))
 else ((f18 N (strC [103,114,105,110,100,32,98]) x15.2.2.2.2 x15.2.1 x15.2.2.1 x15.2.2.2.1).bind λ x17 =>
 bif decide (¬ x17.1=(0:Int)) then (some (false))
 else ((f18 N (strC [100,101,108,105,118,101,114,32,97,110,110,32,109,97,112,32,57]) x17.2.2.2.2 x17.2.1 x17.2.2.1 x17.2.2.2.1).bind λ x18 =>
 bif decide (¬ x18.1=(0:Int)) then (some (false))
 else ((f32 N (strC [98]) x18.2.2.2.2 x18.2.1 x18.2.2.1 x18.2.2.2.1).bind λ x19 =>
 (f34 N (strC [109,97,112]) x18.2.2.2.2 x18.2.1 x18.2.2.1 x18.2.2.2.1).bind λ x20 =>
 zax (zhX N x18 x19 x20) λ k0 =>
 k0 []))))))))))))))))))))
def zm9 (N:Nat):Lp (LB×LS×LE×LC) (Nat×Unit) (Bool):=lpm ⟨[1],[90500,zyy,zyv,zyz,zyA,zyw],[(.cell zyw 1,90500,9,1)],[]⟩ (λ (b106_1,b100,b101,b102)=>zlV N b106_1 b100 b101 b102) (λ (_,_,_,_) (_,_)=>[.ptr zyw 0]) (λ (b106_1,b100,b101,b102) (m0,_)=>[(rW b106_1),(sW [zyv] b100),(eW b101),(mW b102), .box [.mp zyy, .mp zyv, .mp zyz], .box [.ptr zyA 0, .rs 90500 m0]]) λ (b106_1,_,_,_)=>(List.length b106_1,())
instance Ef14_c8 {N b106_1 b100 b101 b102}:IsLp 1 4 (zlV N b106_1 b100 b101 b102) (zm9 N) (b106_1,b100,b101,b102):=⟨rfl⟩
instance Cf14_c8 {N}:IsCut 4 (zlV N) (zm9 N) 8:=⟨⟩
def ziU (N:Nat)(x1:LB)(v3:Int)(b106_1:LB)(b100:LS)(b101:LE)(b102:LC)(r4:Int->LB->LS->LE->LC->Option (Bool)):Option (Bool) :=
 (ix x1 v3).bind λ x27 =>
 (f18 N x27 b106_1 b100 b101 b102).bind λ x28 =>
 bif decide (¬ x28.1=(0:Int)) then (some (false))
 else (r4 (W (v3+(1:Int))) x28.2.2.2.2 x28.2.1 x28.2.2.1 x28.2.2.2.1)
def zn (N:Nat)(x1:LB)(v3:Int)(b106_1:LB)(b100:LS)(b101:LE)(b102:LC)(r4:Int->LB->LS->LE->LC->Option (Bool)):Lp (Unit) (Nat×Unit) (Bool):=lpm ⟨[1,2,3],[90500,zyy,zyv,zyz,zyA,zyw],[],[]⟩ (λ _=>ziU N x1 v3 b106_1 b100 b101 b102 r4) (λ _ (_,_)=>[.ptr zyw 0, .dat (zaq x1), .dat (iN v3)]) (λ _ (m0,_)=>[(rW b106_1),(sW [zyv] b100),(eW b101),(mW b102), .box [.mp zyy, .mp zyv, .mp zyz], .box [.ptr zyA 0, .rs 90500 m0]]) λ _=>(List.length b106_1,())
instance Ef14_c6 {N x1 v3 b106_1 b100 b101 b102 r4}:IsLp 1 0 (ziU N x1 v3 b106_1 b100 b101 b102 r4) (zn N x1 v3 b106_1 b100 b101 b102 r4) ():=⟨rfl⟩
instance Cf14_c6 {N x1 v3 b106_1 b100 b101 b102 r4}:IsCut 0 (ziU N x1 v3 b106_1 b100 b101 b102 r4) (zn N x1 v3 b106_1 b100 b101 b102 r4) 6:=⟨⟩
def zud (r4:Int->LB->LS->LE->LC->Option (Bool))(N:Nat)(x1:LB)(k1:LB->LS->LE->LC->Option (Bool))(v3:Int)(b106_1:LB)(b100:LS)(b101:LE)(b102:LC):Option (Bool) :=
 zax (ziU N x1 v3 b106_1 b100 b101 b102 r4) λ k2 =>
 bif decide (v3<(List.length x1:Int)) then k2
 else (k1 b106_1 b100 b101 b102)
def zrl (N:Nat)(x1:LB)(k1:LB->LS->LE->LC->Option (Bool)):Nat->Int->LB->LS->LE->LC->Option (Bool)
 | 0,_,_,_,_,_=>none
 | n+1,v3,b106_1,b100,b101,b102=>zud (zrl N x1 k1 n) N x1 k1 v3 b106_1 b100 b101 b102
def zue (N:Nat)(x1:LB)(k1:LB->LS->LE->LC->Option (Bool)):Lp (Nat×Int×LB×LS×LE×LC) (Nat×Unit) (Bool):=lpm ⟨[1,2,3],[90500,zyy,zyv,zyz,zyA,zyw],[(.cell zyw 1,90500,9,1)],[]⟩ (λ (n,v3,b106_1,b100,b101,b102)=>zrl N x1 k1 n v3 b106_1 b100 b101 b102) (λ (_,v3,_,_,_,_) (_,_)=>[.ptr zyw 0, .dat (zaq x1), .dat (iN v3)]) (λ (_,_,b106_1,b100,b101,b102) (m0,_)=>[(rW b106_1),(sW [zyv] b100),(eW b101),(mW b102), .box [.mp zyy, .mp zyv, .mp zyz], .box [.ptr zyA 0, .rs 90500 m0]]) λ (_,_,b106_1,_,_,_)=>(List.length b106_1,())
instance Ef14_4 {N x1 k1 n v3 b106_1 b100 b101 b102}:IsLp 1 5 (zrl N x1 k1 n v3 b106_1 b100 b101 b102) (zue N x1 k1) (n,v3,b106_1,b100,b101,b102):=⟨rfl⟩
def f14 (N:Nat):Option (Bool) :=
 (f44 N ).bind λ x1 =>
 zax (zlV N) λ k1 =>
 zrl N x1 k1 N (0:Int) [] [] [] []
def G14 (ds:List D)(d:D):Prop:=∃ (N:Nat) (r:Bool),ds=[]/\f14 N  = some r/\d=bN r
theorem G14.lend {A:_->Option ρ}{K:D->Prop}(hd:ds=[])(h:∀ r,A r=some q->K (bN r))(hF:(f14 N ).bind A=some q):∃ d,(G14 ds d/\d.flatB=true)/\K d:=by
 obtain⟨r,hr,hA⟩:=bind_some hF;exact⟨_,⟨⟨N,r,hd,hr,rfl⟩,rfl⟩,h r hA⟩

end Go.Vc
namespace Go.Vc
open Go.Proofs
variable {N id:Nat} {ρ:Type} {q:ρ} {xs:List SV} {m:Nat->Blk} {l:List Loc} {ds:List D} {K:Dl->List Loc->Prop} {k0 k1 k2 k3 k4 k5 k6 k7 k8 k9 k10 k11 k12 k13 k14 k15 m0 m1 m2 m3 m4 m5:Nat}
def zeZ (N:Nat)(b106_1:LB)(b101_1:LB)(b100:LS)(b101:LE)(b102:LC):Option (Bool) :=
 (f21 N b106_1 b100 b101 b102).bind λ x2 =>
 (f55 N (BookM.mk true b101_1)).bind λ x3 =>
 bif x3 then ((f20 N x2 []).bind λ x4 =>
 bif x4 then ((f23 N b106_1 b100 b101 b102).bind λ x5 =>
 (f24 N (BookM.mk true b101_1)).bind λ x6 =>
 bif decide (x5=x6) then ((f14 N ).bind λ x7 =>
 some (x7))
 else (some (false)))
 else (some (false)))
 else ((app 16 [] b101_1).bind λ x8 =>
 (f20 N x2 x8).bind λ x9 =>
 bif x9 then ((f23 N b106_1 b100 b101 b102).bind λ x10 =>
 (f24 N (BookM.mk true b101_1)).bind λ x11 =>
 bif decide (x10=x11) then ((f14 N ).bind λ x12 =>
 some (x12))
 else (some (false)))
 else (some (false)))
def zna (N:Nat):Lp (LB×LB×LS×LE×LC) (Nat×Nat) (Bool):=lpm ⟨[3,4],[90500,90520,zyE,zyx,zyF,zyG,zyB,zyC],[(.cell zyB 1,90500,9,1),(.cell zyC 1,90520,9,1)],[]⟩ (λ (b106_1,b101_1,b100,b101,b102)=>zeZ N b106_1 b101_1 b100 b101 b102) (λ (_,_,_,_,_) (_,_)=>[.ptr zyB 0, .ptr zyC 0]) (λ (b106_1,b101_1,b100,b101,b102) (m0,m1)=>[(rW b106_1),(rW b101_1),(sW [zyx] b100),(eW b101),(mW b102), .box [.mp zyE, .mp zyx, .mp zyF], .box [.ptr zyG 0, .rs 90500 m0], .box [.kb true, .rs 90520 m1]]) λ (b106_1,b101_1,_,_,_)=>(List.length b106_1,List.length b101_1)
instance Ef3_c12 {N b106_1 b101_1 b100 b101 b102}:IsLp 2 5 (zeZ N b106_1 b101_1 b100 b101 b102) (zna N) (b106_1,b101_1,b100,b101,b102):=⟨rfl⟩
instance Cf3_c12 {N}:IsCut 5 (zeZ N) (zna N) 12:=⟨⟩
def znb (a0:LB)(N:Nat)(v5:Int)(b106_1:LB)(b101_1:LB)(b100:LS)(b101:LE)(b102:LC)(r5:Int->LB->LB->LS->LE->LC->Option (Bool)):Option (Bool) :=
 (ix a0 v5).bind λ x13 =>
 (f17 N x13 b106_1 b100 b101 b102).bind λ x14 =>
 (ix a0 v5).bind λ x15 =>
 (f18 N x15 b106_1 b100 b101 b102).bind λ x16 =>
 bif decide (¬ x14=x16.1) then (some (false))
 else ((ix a0 v5).bind λ x17 =>
 (f52 N (BookM.mk true b101_1) x17).bind λ x18 =>
 bif decide (x18=(0:Int)) then ((app 16 b101_1 [x17]).bind λ x19 =>
 bif decide (¬ x16.1=x18) then (some (false))
 else (r5 (W (v5+(1:Int))) x16.2.2.2.2 x19 x16.2.1 x16.2.2.1 x16.2.2.2.1))
 else (bif decide (¬ x16.1=x18) then (some (false))
 else (r5 (W (v5+(1:Int))) x16.2.2.2.2 b101_1 x16.2.1 x16.2.2.1 x16.2.2.2.1)))
def zrm (a0:LB)(N:Nat)(v5:Int)(b106_1:LB)(b101_1:LB)(b100:LS)(b101:LE)(b102:LC)(r5:Int->LB->LB->LS->LE->LC->Option (Bool)):Lp (Unit) (Nat×Nat) (Bool):=lpm ⟨[0,3,4,5],[90500,90520,zyE,zyx,zyF,zyG,zyB,zyC],[],[]⟩ (λ _=>znb a0 N v5 b106_1 b101_1 b100 b101 b102 r5) (λ _ (_,_)=>[.dat (zaq a0), .ptr zyB 0, .ptr zyC 0, .dat (iN v5)]) (λ _ (m0,m1)=>[(rW b106_1),(rW b101_1),(sW [zyx] b100),(eW b101),(mW b102), .box [.mp zyE, .mp zyx, .mp zyF], .box [.ptr zyG 0, .rs 90500 m0], .box [.kb true, .rs 90520 m1]]) λ _=>(List.length b106_1,List.length b101_1)
instance Ef3_c9 {a0 N v5 b106_1 b101_1 b100 b101 b102 r5}:IsLp 2 0 (znb a0 N v5 b106_1 b101_1 b100 b101 b102 r5) (zrm a0 N v5 b106_1 b101_1 b100 b101 b102 r5) ():=⟨rfl⟩
instance Cf3_c9 {a0 N v5 b106_1 b101_1 b100 b101 b102 r5}:IsCut 0 (znb a0 N v5 b106_1 b101_1 b100 b101 b102 r5) (zrm a0 N v5 b106_1 b101_1 b100 b101 b102 r5) 9:=⟨⟩
def zte (r5:Int->LB->LB->LS->LE->LC->Option (Bool))(a0:LB)(N:Nat)(k0:LB->LB->LS->LE->LC->Option (Bool))(v5:Int)(b106_1:LB)(b101_1:LB)(b100:LS)(b101:LE)(b102:LC):Option (Bool) :=
 bif decide (v5<(List.length a0:Int)) then (zax (znb a0 N v5 b106_1 b101_1 b100 b101 b102 r5) λ k1 =>
 (ix a0 v5).bind λ x20 =>
 bif decide ((100:Int)<(ByteArray.size x20:Int)) then ((f14 N ).bind λ x21 =>
 some (x21))
 else k1)
 else (k0 b106_1 b101_1 b100 b101 b102)
def f3_5 (a0:LB)(N:Nat)(k0:LB->LB->LS->LE->LC->Option (Bool)):Nat->Int->LB->LB->LS->LE->LC->Option (Bool)
 | 0,_,_,_,_,_,_=>none
 | n+1,v5,b106_1,b101_1,b100,b101,b102=>zte (f3_5 a0 N k0 n) a0 N k0 v5 b106_1 b101_1 b100 b101 b102
def zxI (a0:LB)(N:Nat)(k0:LB->LB->LS->LE->LC->Option (Bool)):Lp (Nat×Int×LB×LB×LS×LE×LC) (Nat×Nat) (Bool):=lpm ⟨[0,3,4,5],[90500,90520,zyE,zyx,zyF,zyG,zyB,zyC],[(.cell zyB 1,90500,9,1),(.cell zyC 1,90520,9,1)],[]⟩ (λ (n,v5,b106_1,b101_1,b100,b101,b102)=>f3_5 a0 N k0 n v5 b106_1 b101_1 b100 b101 b102) (λ (_,v5,_,_,_,_,_) (_,_)=>[.dat (zaq a0), .ptr zyB 0, .ptr zyC 0, .dat (iN v5)]) (λ (_,_,b106_1,b101_1,b100,b101,b102) (m0,m1)=>[(rW b106_1),(rW b101_1),(sW [zyx] b100),(eW b101),(mW b102), .box [.mp zyE, .mp zyx, .mp zyF], .box [.ptr zyG 0, .rs 90500 m0], .box [.kb true, .rs 90520 m1]]) λ (_,_,b106_1,b101_1,_,_,_)=>(List.length b106_1,List.length b101_1)
instance Ef3_5 {a0 N k0 n v5 b106_1 b101_1 b100 b101 b102}:IsLp 2 6 (f3_5 a0 N k0 n v5 b106_1 b101_1 b100 b101 b102) (zxI a0 N k0) (n,v5,b106_1,b101_1,b100,b101,b102):=⟨rfl⟩
def f3 (N:Nat)(a0:LB):Option (Bool) :=
 bif decide ((160:Int)<(List.length a0:Int)) then ((f14 N ).bind λ x1 =>
 some (x1))
 else (zax (zeZ N) λ k0 =>
 f3_5 a0 N k0 N (0:Int) [] [] [] [] [])
def G3 (ds:List D)(d:D):Prop:=∃ (N:Nat) (a0:LB) (r:Bool),ds=[zaq a0]/\f3 N a0=some r/\d=bN r

end Go.Vc
namespace Go.Vc
open Go.Proofs
set_option maxRecDepth 20000 in
theorem wk2 {P:Prop}(h:P:=by repeat' (first
  | ((with_reducible first|refine q0 _ _ ?_|refine q1 _ _ _ _ ?_|refine q2 _ _ _ ?_);clear Q q0 q1 q2)
  | ((with_reducible first|refine zc2 ?hx (λ Q q0 q1 q2=>?_)|refine zdk ?hx (λ Q q0 q1 q2=>?_)|refine zdG ?hx (λ Q q0 q1 q2=>?_)|refine zfw ?hx (λ Q q0 q1 q2=>?_));(case hx=>exact rfl);conv=>whnf)
  | ((with_reducible first|refine ze0 ?hx ?_|refine zdH ?hx ?_|refine zgG ?hx ?_|refine zfx ?hx ?_|refine zcR ?hx ?_|refine zdF ?hx ?_);(case hx=>exact rfl))
  | ((with_reducible refine zd9 ?_);(first|((first|refine ze rfl ?hy (λ Q q0 q1 q2=>?_)|refine zda rfl ?hy (λ Q q0 q1 q2=>?_));(case hy=>first|assumption|exact notT (by assumption)|exact rfl);conv=>whnf)|((first|refine zc9 rfl ?hy ?_|refine zcy rfl ?hy ?_);(case hy=>first|assumption|exact notF (by assumption)|exact rfl))|(revert hF;(with_reducible first|refine zea ?hx ?_ ?_|refine zdb ?hx ?_ ?_);(case hx=>exact rfl);(intro hc hF Q q0 q1 q2;conv=>whnf);rotate_left;(intro hc hF);rotate_right)|(revert hF;(with_reducible first|refine zeb ?hx ?_ ?_|refine zdc ?hx ?_ ?_);(case hx=>exact rfl);(intro hc hF);rotate_left;(intro hc hF Q q0 q1 q2;conv=>whnf);rotate_right)))
  | ((with_reducible refine zqq ?_);(first|((first|refine znM rfl ?hy (λ Q q0 q1 q2=>?_)|refine zlf rfl ?hy (λ Q q0 q1 q2=>?_));(case hy=>first|assumption|exact notT (by assumption)|exact rfl);conv=>whnf)|((first|refine zle rfl ?hy ?_|refine ziC rfl ?hy ?_);(case hy=>first|assumption|exact notF (by assumption)|exact rfl))|(revert hF;(with_reducible first|refine znN ?hx ?_ ?_|refine zlg ?hx ?_ ?_);(case hx=>exact rfl);(intro hc hF Q q0 q1 q2;conv=>whnf);rotate_left;(intro hc hF);rotate_right)|(revert hF;(with_reducible first|refine znO ?hx ?_ ?_|refine zlh ?hx ?_ ?_);(case hx=>exact rfl);(intro hc hF);rotate_left;(intro hc hF Q q0 q1 q2;conv=>whnf);rotate_right)))
  | ((with_reducible refine zcW ?_);(first|((refine zd7 rfl ?hy ?_);(case hy=>first|assumption|exact notT (by assumption)|exact rfl))|((refine zd8 rfl ?hy ?_);(case hy=>first|assumption|exact notF (by assumption)|exact rfl))|(revert hF;(with_reducible refine zhr ?hx ?_ ?_);(case hx=>exact rfl);all_goals (intro hc hF))))
  | ((with_reducible refine zaH ?_);(with_reducible have hG:=zbK hF);(refine zee 90540 603001115 hG rfl rfl (by assumption) (by exact rfl) (by first|exact rfl|assumption|(symm;assumption)|omega) (by exact rfl) (λ q hq hF1=>?_));clear hG hF;(have hF:=hF1);clear hF1;(first|((with_reducible refine hR _ ?_);clear R hR)|((with_reducible refine hL _ ?_);clear L hL)))
  | ((with_reducible refine zaH ?_);(with_reducible have hG:=zbK hF);(refine zee 90540 603001505 hG rfl rfl (by assumption) (by exact rfl) (by first|exact rfl|assumption|(symm;assumption)|omega) (by exact rfl) (λ q hq hF1=>?_));clear hG hF;(have hF:=hF1);clear hF1;(first|((with_reducible refine hR _ ?_);clear R hR)|((with_reducible refine hL _ ?_);clear L hL)))
  | ((with_reducible refine zaH ?_);(with_reducible have hG:=zbK hF);(refine zee 90540 603001905 hG rfl rfl (by assumption) (by exact rfl) (by first|exact rfl|assumption|(symm;assumption)|omega) (by exact rfl) (λ q hq hF1=>?_));clear hG hF;(have hF:=hF1);clear hF1;(first|((with_reducible refine hR _ ?_);clear R hR)|((with_reducible refine hL _ ?_);clear L hL)))
  | ((with_reducible refine zaH ?_);(with_reducible have hG:=zbK hF);(refine zee 90540 603002005 hG rfl rfl (by assumption) (by exact rfl) (by first|exact rfl|assumption|(symm;assumption)|omega) (by exact rfl) (λ q hq hF1=>?_));clear hG hF;(have hF:=hF1);clear hF1;(first|((with_reducible refine hR _ ?_);clear R hR)|((with_reducible refine hL _ ?_);clear L hL)))
  | ((with_reducible refine zaH ?_);(with_reducible have hG:=zbK hF);(refine zee 90540 603003399 hG rfl rfl (by assumption) (by exact rfl) (by first|exact rfl|assumption|(symm;assumption)|omega) (by exact rfl) (λ q hq hF1=>?_));clear hG hF;(have hF:=hF1);clear hF1;(first|((with_reducible refine hR _ ?_);clear R hR)|((with_reducible refine hL _ ?_);clear L hL)))
  | ((with_reducible refine ztE ?_);(refine ztS 603001299 rfl ?_);(with_reducible have hG:=zqJ hF);clear hF;(obtain⟨x,hx,hF⟩:=hG);(refine zwf 90540 603001299 2 rfl rfl hx (by exact rfl) rfl rfl (λ R L hL hR=>?_));dsimp only[St.takenS])
  | ((with_reducible refine ztE ?_);(refine ztS 603003399 rfl ?_);(with_reducible have hG:=zqJ hF);clear hF;(obtain⟨x,hx,hF⟩:=hG);(refine zwf 90540 603003399 2 rfl rfl hx (by exact rfl) rfl rfl (λ R L hL hR=>?_));dsimp only[St.takenS])
  | ((with_reducible refine zb9 ?_);(first|((with_reducible refine hR _ ?_);clear R hR)|((with_reducible refine hL _ ?_);clear L hL)))
  | ((with_reducible refine zcn ?_);(with_reducible refine hR _ _ ?hx ?_);(case hx=>kernel_rfl);clear R hR)
  | ((with_reducible first|refine zbX ?_|refine zcr ?_|refine idx2 (by assumption) ?_|refine idx3 (by assumption) ?_);conv=>whnf)
  | (with_reducible first|refine zbV ?_|refine zb8 ?_|refine zrX ?_|refine zrW ?_|refine zc1 ?_|refine zcB ?_|refine zbn (λ R hR=>?_)|refine zbm ?_|refine zbk ?_|refine zg0 ?_|refine zbI ?_|refine zbv ?_|refine zcL ?_|refine zck ?_)
  | ((with_reducible refine zdj ?hx (λ R L hL hR=>?_));(case hx=>exact rfl))
  | ((with_reducible replace hF:=isE hF);(dsimp only[zhC,zhD,zqQ,zqS,zlF,zlG,zhJ,zjK,zhK,zq3,zjM,zq4,zgy,zeV,zhS,zhT,zj3,zm6,zdU,zeo,zua,zfX,zj9] at hF);first|((with_reducible replace hF:=chkE (e:=zeJ ..) hF);rewrite[zeJ] at hF)|((with_reducible replace hF:=chkE (e:=zcs ..) hF);rewrite[zcs] at hF)|((with_reducible replace hF:=chkE (e:=zgh ..) hF);rewrite[zgh] at hF)|rewrite[zfQ] at hF|rewrite[zfR] at hF|rewrite[zqP] at hF|rewrite[zqR] at hF|rewrite[zde] at hF|rewrite[zfg] at hF|rewrite[zeI] at hF|rewrite[zjL] at hF|rewrite[zfh] at hF|rewrite[zjN] at hF|rewrite[zhU] at hF|rewrite[zbC] at hF|rewrite[zaT] at hF|rewrite[ziS] at hF|rewrite[zbb] at hF)
  | ((with_reducible refine zfc ?_);first|((with_reducible replace hF:=toLp 0 2 hF);exact Lp.backI hF () ⟨_,rfl,rfl,rfl,rfl⟩ rfl)|((with_reducible replace hF:=toLp 0 3 hF);exact Lp.backI hF () ⟨_,rfl,rfl,rfl,rfl⟩ rfl)|((with_reducible replace hF:=toLp 0 4 hF);exact Lp.backI hF () ⟨_,rfl,rfl,rfl,rfl⟩ rfl)|((with_reducible replace hF:=toLp 3 4 hF);exact Lp.backI hF (_,_,_) ⟨_,rfl,rfl,rfl,rfl⟩ (pr2 (by first|exact rfl|assumption|omega|(simp only[List.length_set];done)) (pr2 (by first|exact rfl|assumption|omega|(simp only[List.length_set];done)) (by first|exact rfl|assumption|omega|(simp only[List.length_set];done))))))
  | ((with_reducible refine zcV ?_);first|((with_reducible replace hF:=toLp 0 0 hF);exact Lp.headI hF () ⟨_,rfl,rfl,rfl,rfl⟩ rfl)|((with_reducible replace hF:=toLp 0 1 hF);exact Lp.headI hF () ⟨_,rfl,rfl,rfl,rfl⟩ rfl)|((with_reducible replace hF:=toLp 0 2 hF);exact Lp.headI hF () ⟨_,rfl,rfl,rfl,rfl⟩ rfl)|((with_reducible replace hF:=toLp 3 3 hF);exact Lp.headI hF (_,_,_) ⟨_,rfl,rfl,rfl,rfl⟩ (pr2 (by first|exact rfl|assumption|omega|(simp only[List.length_set];done)) (pr2 (by first|exact rfl|assumption|omega|(simp only[List.length_set];done)) (by first|exact rfl|assumption|omega|(simp only[List.length_set];done)))))|((with_reducible replace hF:=toLp 5 2 hF);exact Lp.headI hF (_,_,_,_,_) ⟨_,rfl,rfl,rfl,rfl⟩ (pr2 (by first|exact rfl|assumption|omega|(simp only[List.length_set];done)) (pr2 (by first|exact rfl|assumption|omega|(simp only[List.length_set];done)) (pr2 (by first|exact rfl|assumption|omega|(simp only[List.length_set];done)) (pr2 (by first|exact rfl|assumption|omega|(simp only[List.length_set];done)) (by first|exact rfl|assumption|omega|(simp only[List.length_set];done)))))))|((with_reducible replace hF:=toLp 6 1 hF);exact Lp.headI hF (_,_,_,_,_,_) ⟨_,rfl,rfl,rfl,rfl⟩ (pr2 (by first|exact rfl|assumption|omega|(simp only[List.length_set];done)) (pr2 (by first|exact rfl|assumption|omega|(simp only[List.length_set];done)) (pr2 (by first|exact rfl|assumption|omega|(simp only[List.length_set];done)) (pr2 (by first|exact rfl|assumption|omega|(simp only[List.length_set];done)) (pr2 (by first|exact rfl|assumption|omega|(simp only[List.length_set];done)) (by first|exact rfl|assumption|omega|(simp only[List.length_set];done)))))))))
  | ((with_reducible refine zfb ?_);first|((with_reducible replace hF:=toLp 0 2 hF);((refine Lp.loopI hF () rfl ⟨_,rfl,rfl,rfl,rfl⟩ rfl (λ _=>rfl) ?_);clear hF);(rintro n ⟨_,_⟩ hF))|((with_reducible replace hF:=toLp 0 3 hF);((refine Lp.loopI hF () rfl ⟨_,rfl,rfl,rfl,rfl⟩ rfl (λ _=>rfl) ?_);clear hF);(rintro n ⟨_,_,_⟩ hF))|((with_reducible replace hF:=toLp 0 4 hF);((refine Lp.loopI hF () rfl ⟨_,rfl,rfl,rfl,rfl⟩ rfl (λ _=>rfl) ?_);clear hF);(rintro n ⟨_,_,_,_⟩ hF))|((with_reducible replace hF:=toLp 3 4 hF);((refine Lp.loopI hF (_,_,_) rfl ⟨_,rfl,rfl,rfl,rfl⟩ (pr2 (by first|exact rfl|assumption|omega|(simp only[List.length_set];done)) (pr2 (by first|exact rfl|assumption|omega|(simp only[List.length_set];done)) (by first|exact rfl|assumption|omega|(simp only[List.length_set];done)))) (λ _=>rfl) ?_);clear hF);(rintro n ⟨_,_,_,_⟩ hF)))
  | ((with_reducible refine zcU ?_);first|((with_reducible replace hF:=zdP 0 hF);((refine Lp.cutI hF rfl rfl ?_ ?_) <;> clear hF);(intro hF);rotate_left;(rintro _ hF);rotate_right)|((with_reducible replace hF:=zdP 1 hF);((refine Lp.cutI hF rfl rfl ?_ ?_) <;> clear hF);(intro hF);rotate_left;(rintro _ hF);rotate_right)|((with_reducible replace hF:=zdP 2 hF);((refine Lp.cutI hF rfl rfl ?_ ?_) <;> clear hF);(intro hF);rotate_left;(rintro⟨_,_⟩ hF);rotate_right)|((with_reducible replace hF:=zdP 3 hF);((refine Lp.cutI hF rfl rfl ?_ ?_) <;> clear hF);(intro hF);rotate_left;(rintro⟨_,_,_⟩ hF);rotate_right))
  | ((with_reducible refine zcc [] ?hx ?_);(case hx=>exact rfl))
  | with_reducible refine zeT ?_
  | ((with_reducible have hJ:=isB hF);clear hJ;revert hF;(with_reducible first|refine G91.lend ?hx ?_|refine G94.lend ?hx ?_|refine G112.lend ?hx ?_|refine G126.lend ?hx ?_|refine G95.lend ?hx ?_|refine G139.lend ?hx ?_|refine G80.step ?hx ?_|refine G90.step ?hx ?_|refine G113.lend ?hx ?_|refine G114.lend ?hx ?_);(case hx=>exact rfl);intro v hF;conv=>whnf)
  | ((with_reducible refine isSn ?_);(refine zqI (μ:=Edition.mc) (by assumption) (by exact rfl) ?_);conv=>whnf)
  | ((with_reducible refine Or.inr ?_);(conv=>whnf);(with_reducible refine ztP (.bool false) ?hg ?_);(case hg=>exact rfl);(with_reducible refine ziA (List.map bN (List.replicate 10 false)) ?hx ?_);(case hx=>(unfold zks;kernel_rfl));conv=>whnf)
  | ((with_reducible refine isSnS ?_);(with_reducible have hG:=zbK hF);clear hF;(refine ziE (μ:=Edition.mc) hG (by assumption) (by exact rfl) (λ q hl hF=>?_));clear hG;conv=>whnf)
  | ((with_reducible refine zql hF ?_);(clear hF;intro hF;conv=>whnf))
  | ((with_reducible refine zwc ?_);(with_reducible have hG:=zbK hF);clear hF;(refine ziF (μ:=Edition.mc) (δ:=iN) hG (by assumption) ?hn ?ho (by exact rfl) (λ q hl hF=>?_));(case hn=>first|exact rfl|assumption|omega);(case ho=>(rintro p h;first|(cases h;done)|(cases h;exact⟨rfl,rfl⟩)));clear hG;conv=>whnf)
  | ((with_reducible have hG:=znI hF);clear hF;(first|(refine zqm hG (by(try simp only[W]);omega) (λ x hF=>?_))|(refine zqn hG (λ _=>rfl) (by(try simp only[W]);omega) (λ x hF=>?_)));clear hG;conv=>whnf)
  | ((refine ztU (μ:=Edition.mc) (δ:=Edition.d) (λ _=>rfl) (.inl rfl) ?hn ?_);(case hn=>first|exact rfl|assumption|omega);conv=>whnf)
  | ((with_reducible have hG:=zld hF);clear hF;(first|(refine znJ hG (by(try simp only[W]);omega) rfl rfl (λ q hF=>?_))|(refine znK hG (λ _=>rfl) (by(try simp only[W]);omega) rfl rfl (λ q hF=>?_)));clear hG;conv=>whnf)
  | ((with_reducible refine zwd ?_);(refine⟨⟨rfl,rfl⟩, ?_⟩);(conv=>whnf);(refine zqA (by first|exact rfl|assumption|(symm;assumption)|omega) ?_);conv=>whnf)
  | ((with_reducible refine isEx ?_);(refine⟨[.d default, .d default, .r 3 1 [], .d default, .d default, .d default, .d default],rfl, ?_⟩);(conv=>whnf);(refine⟨⟨by decide,rfl⟩, ?_⟩);conv=>whnf)
  | ((with_reducible refine zsO ?hn ?_);(case hn=>exact rfl);conv=>whnf)
  | ((with_reducible have hG:=zcJ hF);(first|refine zo4 (μ:=Edition.mc) hG ?ho ?hn ?hs (λ q hF1=>?_)|refine zmR (μ:=Edition.mc) hG ?hs (λ q hF1=>?_));(try (case ho=>exact rfl));(try (case hn=>first|exact rfl|assumption|omega));(case hs=>exact rfl);clear hG hF;(have hF:=hF1);clear hF1;conv=>whnf)
  | ((with_reducible have hG:=zqj hF);have hk:=hG.1;have hF:=hG.2;clear hG)
  | (revert hF;(with_reducible refine idx1 ?hn ?_);(case hn=>first|exact rfl|exact(List.length_map _)|assumption|omega|simp);intro x hx hF;conv=>whnf)
  | ((with_reducible have hG:=zcJ hF);clear hF;(first|((refine zdO hG ?hn ?hs (λ q hF=>?_));(case hn=>first|exact rfl|assumption|omega);(case hs=>exact rfl))|((refine zdo (d:=ClaimS.d) hG ?hs (λ q hF=>?_));(case hs=>exact rfl))|((refine zdp (d:=ClaimS.d) hG ?ho ?hn ?hs (λ q hF=>?_));(case ho=>exact rfl);(case hn=>exact rfl);(case hs=>exact rfl))| ((refine zdo (d:=Stone.d) hG ?hs (λ q hF=>?_));(case hs=>exact rfl))|((refine zdp (d:=Stone.d) hG ?ho ?hn ?hs (λ q hF=>?_));(case ho=>exact rfl);(case hn=>exact rfl);(case hs=>exact rfl))| ((refine zdo (d:=iN) hG ?hs (λ q hF=>?_));(case hs=>exact rfl))|((refine zdp (d:=iN) hG ?ho ?hn ?hs (λ q hF=>?_));(case ho=>exact rfl);(case hn=>exact rfl);(case hs=>exact rfl)));clear hG;conv=>whnf)
  | ((refine zfa ?hn ?_);(case hn=>first|exact rfl|(simp;done)|(simp;omega));conv=>whnf)
  | ((with_reducible refine zhq ?hn ?_);(case hn=>first|exact rfl|assumption|omega);conv=>whnf)
  | ((with_reducible have hG:=zbK hF);clear hF;(refine zhm hG ?hs (λ q hl hF=>?_));(case hs=>exact rfl);clear hG;conv=>whnf)
  | ((refine⟨?hx, ?_⟩);(case hx=>exact⟨rfl,zyt rfl,rfl⟩);conv=>whnf)
  | ((with_reducible refine zd6 ?_);conv=>whnf)
  | ((with_reducible refine zgt ?hx ?_);(case hx=>first|exact rfl|assumption|exact notT (by assumption));conv=>whnf)
  | ((with_reducible refine zfK ?hx ?_);(case hx=>first|exact rfl|assumption|exact notF (by assumption));conv=>whnf)
  | ((refine zay 602 zyD rfl rfl (zyt rfl) rfl (λ R hR=>?_));(conv=>whnf);(with_reducible refine hR _ ?ha ?_);(case ha=>exact rfl);clear R hR)
  | (show Kinl _ _ _ _ _ _ _;conv=>whnf)
  | ((with_reducible refine zcx ?ha ?hb ?_);(case ha=>exact rfl);(case hb=>exact rfl);conv=>whnf)
  | ((refine⟨?hx,trivial⟩);(case hx=>(cases hF;exact rfl)))
  | with_reducible refine zeN ?_)):P:=h
set_option maxRecDepth 20000 in
theorem wk3 {P:Prop}(h:P:=by repeat' (first
  | ((with_reducible first|refine q0 _ _ ?_|refine q1 _ _ _ _ ?_|refine q2 _ _ _ ?_);clear Q q0 q1 q2)
  | ((with_reducible first|refine zc2 ?hx (λ Q q0 q1 q2=>?_)|refine zdG ?hx (λ Q q0 q1 q2=>?_)|refine zdk ?hx (λ Q q0 q1 q2=>?_)|refine zfw ?hx (λ Q q0 q1 q2=>?_));(case hx=>exact rfl);conv=>whnf)
  | ((with_reducible refine zcW ?_);(first|((refine zd7 rfl ?hy ?_);(case hy=>first|assumption|exact notT (by assumption)|exact rfl))|((refine zd8 rfl ?hy ?_);(case hy=>first|assumption|exact notF (by assumption)|exact rfl))|(revert hF;(with_reducible refine zhr ?hx ?_ ?_);(case hx=>exact rfl);all_goals (intro hc hF))))
  | ((with_reducible refine zd9 ?_);(refine zi5 zyE zyx (ks:=[]) rfl rfl ?_);dsimp only[St.kid];(first|((with_reducible refine hR _ ?_);clear R hR)|((with_reducible refine hL _ ?_);clear L hL)))
  | ((with_reducible refine zb9 ?_);(first|((with_reducible refine hR _ ?_);clear R hR)|((with_reducible refine hL _ ?_);clear L hL)))
  | ((with_reducible refine zcn ?_);(with_reducible refine hR _ _ ?hx ?_);(case hx=>kernel_rfl);clear R hR)
  | ((with_reducible first|refine zbX ?_|refine zcr ?_|refine idx2 (by assumption) ?_|refine idx3 (by assumption) ?_);conv=>whnf)
  | (with_reducible first|refine zbV ?_|refine zb8 ?_|refine zc1 ?_|refine zcB ?_|refine zbn (λ R hR=>?_)|refine zbm ?_|refine zbk ?_|refine zg0 ?_|refine zbI ?_|refine zbv ?_|refine zcL ?_|refine zck ?_)
  | ((with_reducible refine zdj ?hx (λ R L hL hR=>?_));(case hx=>exact rfl))
  | ((with_reducible replace hF:=isE hF);(dsimp only[zhy,zn0,zhA,zjC,zqO,zhz,zlE,zhG,zjF,zqZ,zgw,zhM,zhN,zn6,zq7,zhO,zlR,zjV,zre,zjX,zjY,zjZ,zrf,zj1,zrg,zeX,zgA,zfW,zk,zrj,ziT,zka,zrk,zm8,zub,zfY,zgD,zkc,zuc,zlU,zna,zrm,zxI,f3_5] at hF);first|((with_reducible replace hF:=chkE (e:=zej ..) hF);rewrite[zej] at hF)|((with_reducible replace hF:=chkE (e:=zfi ..) hF);rewrite[zfi] at hF)|((with_reducible replace hF:=chkE (e:=zfk ..) hF);rewrite[zfk] at hF)|((with_reducible replace hF:=chkE (e:=znb ..) hF);rewrite[znb] at hF)|rewrite[zfO] at hF|rewrite[znZ] at hF|rewrite[zfP] at hF|rewrite[zhB] at hF|rewrite[zqN] at hF|rewrite[zeH] at hF|rewrite[zjG] at hF|rewrite[zfS] at hF|rewrite[zfT] at hF|rewrite[zn5] at hF|rewrite[zq6] at hF|rewrite[zjW] at hF|rewrite[zfj] at hF|rewrite[zhR] at hF|rewrite[zj0] at hF|rewrite[zfl] at hF|rewrite[zj2] at hF|rewrite[zgk] at hF|rewrite[zhW] at hF|rewrite[zep] at hF|rewrite[zkb] at hF|rewrite[zeY] at hF|rewrite[zlT] at hF|rewrite[zfn] at hF|rewrite[zn9] at hF|rewrite[zeZ] at hF|rewrite[zte] at hF)
  | ((with_reducible refine zfc ?_);first|((with_reducible replace hF:=toLp 0 2 hF);exact Lp.backI hF () ⟨_,rfl,rfl,rfl,rfl⟩ rfl)|((with_reducible replace hF:=toLp 1 1 hF);exact Lp.backI hF (_,()) ⟨_,rfl,rfl,rfl,rfl⟩ (pr2 (by first|exact rfl|assumption|omega|(simp only[List.length_set];done)) rfl))|((with_reducible replace hF:=toLp 1 2 hF);exact Lp.backI hF (_,()) ⟨_,rfl,rfl,rfl,rfl⟩ (pr2 (by first|exact rfl|assumption|omega|(simp only[List.length_set];done)) rfl))|((with_reducible replace hF:=toLp 1 3 hF);exact Lp.backI hF (_,()) ⟨_,rfl,rfl,rfl,rfl⟩ (pr2 (by first|exact rfl|assumption|omega|(simp only[List.length_set];done)) rfl))|((with_reducible replace hF:=toLp 2 6 hF);exact Lp.backI hF (_,_) ⟨_,rfl,rfl,rfl,rfl⟩ (pr2 (by first|exact rfl|assumption|omega|(simp only[List.length_set];done)) (by first|exact rfl|assumption|omega|(simp only[List.length_set];done))))|((with_reducible replace hF:=toLp 3 2 hF);exact Lp.backI hF (_,_,_) ⟨_,rfl,rfl,rfl,rfl⟩ (pr2 (by first|exact rfl|assumption|omega|(simp only[List.length_set];done)) (pr2 (by first|exact rfl|assumption|omega|(simp only[List.length_set];done)) (by first|exact rfl|assumption|omega|(simp only[List.length_set];done))))))
  | ((with_reducible refine zcV ?_);first|((with_reducible replace hF:=toLp 0 1 hF);exact Lp.headI hF () ⟨_,rfl,rfl,rfl,rfl⟩ rfl)|((with_reducible replace hF:=toLp 1 0 hF);exact Lp.headI hF (_,()) ⟨_,rfl,rfl,rfl,rfl⟩ (pr2 (by first|exact rfl|assumption|omega|(simp only[List.length_set];done)) rfl))|((with_reducible replace hF:=toLp 1 1 hF);exact Lp.headI hF (_,()) ⟨_,rfl,rfl,rfl,rfl⟩ (pr2 (by first|exact rfl|assumption|omega|(simp only[List.length_set];done)) rfl))|((with_reducible replace hF:=toLp 1 2 hF);exact Lp.headI hF (_,()) ⟨_,rfl,rfl,rfl,rfl⟩ (pr2 (by first|exact rfl|assumption|omega|(simp only[List.length_set];done)) rfl))|((with_reducible replace hF:=toLp 2 0 hF);exact Lp.headI hF (_,_) ⟨_,rfl,rfl,rfl,rfl⟩ (pr2 (by first|exact rfl|assumption|omega|(simp only[List.length_set];done)) (by first|exact rfl|assumption|omega|(simp only[List.length_set];done))))|((with_reducible replace hF:=toLp 2 1 hF);exact Lp.headI hF (_,_) ⟨_,rfl,rfl,rfl,rfl⟩ (pr2 (by first|exact rfl|assumption|omega|(simp only[List.length_set];done)) (by first|exact rfl|assumption|omega|(simp only[List.length_set];done))))|((with_reducible replace hF:=toLp 2 5 hF);exact Lp.headI hF (_,_) ⟨_,rfl,rfl,rfl,rfl⟩ (pr2 (by first|exact rfl|assumption|omega|(simp only[List.length_set];done)) (by first|exact rfl|assumption|omega|(simp only[List.length_set];done)))))
  | ((with_reducible refine zfb ?_);first|((with_reducible replace hF:=toLp 0 2 hF);((refine Lp.loopI hF () rfl ⟨_,rfl,rfl,rfl,rfl⟩ rfl (λ _=>rfl) ?_);clear hF);(rintro n ⟨_,_⟩ hF))|((with_reducible replace hF:=toLp 1 1 hF);((refine Lp.loopI hF (_,()) rfl ⟨_,rfl,rfl,rfl,rfl⟩ (pr2 (by first|exact rfl|assumption|omega|(simp only[List.length_set];done)) rfl) (λ _=>rfl) ?_);clear hF);(rintro n _ hF))|((with_reducible replace hF:=toLp 1 2 hF);((refine Lp.loopI hF (_,()) rfl ⟨_,rfl,rfl,rfl,rfl⟩ (pr2 (by first|exact rfl|assumption|omega|(simp only[List.length_set];done)) rfl) (λ _=>rfl) ?_);clear hF);(rintro n ⟨_,_⟩ hF))|((with_reducible replace hF:=toLp 1 3 hF);((refine Lp.loopI hF (_,()) rfl ⟨_,rfl,rfl,rfl,rfl⟩ (pr2 (by first|exact rfl|assumption|omega|(simp only[List.length_set];done)) rfl) (λ _=>rfl) ?_);clear hF);(rintro n ⟨_,_,_⟩ hF))|((with_reducible replace hF:=toLp 2 6 hF);((refine Lp.loopI hF (_,_) rfl ⟨_,rfl,rfl,rfl,rfl⟩ (pr2 (by first|exact rfl|assumption|omega|(simp only[List.length_set];done)) (by first|exact rfl|assumption|omega|(simp only[List.length_set];done))) (λ _=>rfl) ?_);clear hF);(rintro n ⟨_,_,_,_,_,_⟩ hF))|((with_reducible replace hF:=toLp 3 2 hF);((refine Lp.loopI hF (_,_,_) rfl ⟨_,rfl,rfl,rfl,rfl⟩ (pr2 (by first|exact rfl|assumption|omega|(simp only[List.length_set];done)) (pr2 (by first|exact rfl|assumption|omega|(simp only[List.length_set];done)) (by first|exact rfl|assumption|omega|(simp only[List.length_set];done)))) (λ _=>rfl) ?_);clear hF);(rintro n ⟨_,_⟩ hF)))
  | ((with_reducible refine zcU ?_);first|((with_reducible replace hF:=zdP 0 hF);((refine Lp.cutI hF rfl rfl ?_ ?_) <;> clear hF);(intro hF);rotate_left;(rintro _ hF);rotate_right)|((with_reducible replace hF:=zdP 1 hF);((refine Lp.cutI hF rfl rfl ?_ ?_) <;> clear hF);(intro hF);rotate_left;(rintro _ hF);rotate_right)|((with_reducible replace hF:=zdP 2 hF);((refine Lp.cutI hF rfl rfl ?_ ?_) <;> clear hF);(intro hF);rotate_left;(rintro⟨_,_⟩ hF);rotate_right)|((with_reducible replace hF:=zdP 5 hF);((refine Lp.cutI hF rfl rfl ?_ ?_) <;> clear hF);(intro hF);rotate_left;(rintro⟨_,_,_,_,_⟩ hF);rotate_right))
  | ((with_reducible refine zcc [] ?hx ?_);(case hx=>exact rfl))
  | with_reducible refine zeT ?_
  | ((with_reducible have hJ:=isB hF);clear hJ;revert hF;(with_reducible first|refine G117.lend ?hx ?_|refine G148.lend ?hx ?_|refine G71.lend ?hx ?_|refine G89.lend ?hx ?_|refine G109.step ?hx ?_|refine G110.lend ?hx ?_|refine G111.lend ?hx ?_|refine G116.lend ?hx ?_|refine G118.lend ?hx ?_|refine G83.step ?hx ?_|refine G84.step ?hx ?_|refine G30.lend ?hx ?_|refine G57.lend ?hx ?_|refine G14.lend ?hx ?_|refine G20.lend ?hx ?_|refine G24.lend ?hx ?_|refine G52.lend ?hx ?_|refine G55.lend ?hx ?_);(case hx=>exact rfl);intro v hF;conv=>whnf)
  | (revert hF;(refine zuO (d:=iN) ?hz ?_);(case hz=>exact rfl);intro x hF;conv=>whnf)
  | ((with_reducible have hI:=zmP hF);clear hI;revert hF;(refine zho ?_);intro x hF;conv=>whnf)
  | ((with_reducible refine isSn ?_);(refine zqI (μ:=(λ l=>[.r 3 1 (List.map iN l)])) (by assumption) (by exact rfl) ?_);conv=>whnf)
  | ((with_reducible have hJ:=isB hF);clear hJ;revert hF;(first|refine G17.step rfl rfl rfl rfl rfl rfl rfl (by first|exact rfl|assumption|omega|(simp only[List.length_set];done)) (by first|exact trivial|exact rfl) ?hn ?_|refine G18.step rfl rfl rfl rfl rfl rfl rfl (by first|exact rfl|assumption|omega|(simp only[List.length_set];done)) (by first|exact trivial|exact rfl) ?hn ?_|refine G21.step rfl rfl rfl rfl rfl rfl rfl (by first|exact rfl|assumption|omega|(simp only[List.length_set];done)) (by first|exact trivial|exact rfl) ?hn ?_|refine G23.step rfl rfl rfl rfl rfl rfl rfl (by first|exact rfl|assumption|omega|(simp only[List.length_set];done)) (by first|exact trivial|exact rfl) ?hn ?_);(case hn=>exact rfl);intro v hF;conv=>whnf)
  | (revert hF;(refine zuP (d:=iN) ?hz ?_);(case hz=>exact rfl);intro x hF;conv=>whnf)
  | ((with_reducible have hI:=zqH hF);clear hI;revert hF;(refine zla ?_);intro x hF;conv=>whnf)
  | (cases hF;(refine Or.inl ?_);(conv=>whnf);exact⟨rfl,rfl,rfl⟩)
  | ((with_reducible refine zwc ?_);(with_reducible have hG:=zbK hF);clear hF;(refine ziF (μ:=(λ l=>[.r 3 1 (List.map iN l)])) (δ:=iN) hG (by assumption) ?hn ?ho (by exact rfl) (λ q hl hF=>?_));(case hn=>first|exact rfl|assumption|omega);(case ho=>(rintro p h;first|(cases h;done)|(cases h;exact⟨rfl,rfl⟩)));clear hG;conv=>whnf)
  | ((with_reducible have hI:=zqF hF);clear hI;revert hF;(refine zlb ?_);intro x hF;conv=>whnf)
  | ((refine ztU (μ:=(λ l=>[.r 3 1 (List.map iN l)])) (δ:=za7) (λ _=>rfl) (.inr ⟨rfl,by simp[isR1]⟩) ?hn ?_);(case hn=>first|exact rfl|assumption|omega);conv=>whnf)
  | ((with_reducible have hI:=zqG hF);clear hI;revert hF;(refine zmN ?_);intro x hF;(try (with_reducible refine orL ?_));conv=>whnf)
  | (revert hF;(refine zwe (μ:=(λ l=>[.r 3 1 (List.map iN l)])) ?hz ?_);(case hz=>exact rfl);intro x hF;conv=>whnf)
  | ((with_reducible have hI:=ztT hF);clear hI;revert hF;(refine zsM ?hn ?_);(case hn=>first|exact rfl|omega);intro hF;conv=>whnf)
  | ((with_reducible have hI:=zuT hF);clear hI;revert hF;(first|refine zqD (λ _ h=>h) ?_|refine zo3 ?_);intro x hF;conv=>whnf)
  | ((with_reducible have hI:=ztT hF);clear hI;revert hF;(refine zsL ?hn ?_);(case hn=>first|exact rfl|assumption|omega);intro hF;conv=>whnf)
  | ((with_reducible first|refine ze0 ?hx ?_|refine zdH ?hx ?_|refine zcR ?hx ?_|refine zdF ?hx ?_|refine zgG ?hx ?_|refine zfx ?hx ?_);(case hx=>exact rfl))
  | (revert hF;(with_reducible refine idx1 ?hn ?_);(case hn=>first|exact rfl|exact(List.length_map _)|assumption|omega|simp);intro x hx hF;conv=>whnf)
  | ((with_reducible refine zd9 ?_);(first|((first|refine ze rfl ?hy (λ Q q0 q1 q2=>?_)|refine zda rfl ?hy (λ Q q0 q1 q2=>?_));(case hy=>first|assumption|exact notT (by assumption)|exact rfl);conv=>whnf)|((first|refine zc9 rfl ?hy ?_|refine zcy rfl ?hy ?_);(case hy=>first|assumption|exact notF (by assumption)|exact rfl))|(revert hF;(with_reducible first|refine zea ?hx ?_ ?_|refine zdb ?hx ?_ ?_);(case hx=>exact rfl);(intro hc hF Q q0 q1 q2;conv=>whnf);rotate_left;(intro hc hF);rotate_right)|(revert hF;(with_reducible first|refine zeb ?hx ?_ ?_|refine zdc ?hx ?_ ?_);(case hx=>exact rfl);(intro hc hF);rotate_left;(intro hc hF Q q0 q1 q2;conv=>whnf);rotate_right)))
  | ((with_reducible have hG:=zqe hF);clear hF;(refine Or.inl ?_);(conv=>whnf);(refine zmM hG ?hn (λ q hF=>?_);(case hn=>first|exact rfl|assumption|omega));clear hG;conv=>whnf)
  | ((with_reducible have hG:=zcJ hF);clear hF;(first|((refine zdO hG ?hn ?hs (λ q hF=>?_));(case hn=>first|exact rfl|assumption|omega);(case hs=>exact rfl))|((refine zdo (d:=strN) hG ?hs (λ q hF=>?_));(case hs=>exact rfl))|((refine zdp (d:=strN) hG ?ho ?hn ?hs (λ q hF=>?_));(case ho=>exact rfl);(case hn=>exact rfl);(case hs=>exact rfl)));clear hG;conv=>whnf)
  | ((with_reducible have hG:=zfJ hF);clear hF;(refine zgM hG (λ q hF=>?_));clear hG;conv=>whnf)
  | ((with_reducible have hG:=zcJ hF);clear hF;(first|((refine zdO hG ?hn ?hs (λ q hF=>?_));(case hn=>first|exact rfl|assumption|omega);(case hs=>exact rfl))|((refine zdo (d:=u8N) hG ?hs (λ q hF=>?_));(case hs=>exact rfl))|((refine zdp (d:=u8N) hG ?ho ?hn ?hs (λ q hF=>?_));(case ho=>exact rfl);(case hn=>exact rfl);(case hs=>exact rfl)));clear hG;conv=>whnf)
  | ((with_reducible have hG:=zcJ hF);clear hF;(first|((refine zdO hG ?hn ?hs (λ q hF=>?_));(case hn=>first|exact rfl|assumption|omega);(case hs=>exact rfl))|((refine zdo (d:=iN) hG ?hs (λ q hF=>?_));(case hs=>exact rfl))|((refine zdp (d:=iN) hG ?ho ?hn ?hs (λ q hF=>?_));(case ho=>exact rfl);(case hn=>exact rfl);(case hs=>exact rfl)));clear hG;conv=>whnf)
  | ((refine zfa ?hn ?_);(case hn=>first|exact rfl|(simp;done)|(simp;omega));conv=>whnf)
  | ((with_reducible refine zhq ?hn ?_);(case hn=>first|exact rfl|assumption|omega);conv=>whnf)
  | ((with_reducible have hG:=zbK hF);clear hF;(refine zhm hG ?hs (λ q hl hF=>?_));(case hs=>exact rfl);clear hG;conv=>whnf)
  | ((refine⟨?hx, ?_⟩);(case hx=>exact⟨rfl,zyt rfl,rfl⟩);conv=>whnf)
  | ((with_reducible refine zd6 ?_);conv=>whnf)
  | ((with_reducible have hG:=znL hF);clear hF;(refine⟨?hx, ?_⟩);(case hx=>(first|exact of_decide_eq_true hG.1|exact hG.1));have hF:=hG.2;clear hG;conv=>whnf)
  | ((with_reducible refine zgt ?hx ?_);(case hx=>first|exact rfl|assumption|exact notT (by assumption));conv=>whnf)
  | ((with_reducible refine zfK ?hx ?_);(case hx=>first|exact rfl|assumption|exact notF (by assumption));conv=>whnf)
  | ((refine zay 901 902000000 rfl rfl (zyt rfl) rfl (λ R hR=>?_));(conv=>whnf);(with_reducible refine hR _ ?ha ?_);(case ha=>exact rfl);clear R hR)
  | ((refine zay 1101 1102000000 rfl rfl (zyt rfl) rfl (λ R hR=>?_));(conv=>whnf);(with_reducible refine hR _ ?ha ?_);(case ha=>exact rfl);clear R hR)
  | ((refine zay 300 301000000 rfl rfl (zyt rfl) rfl (λ R hR=>?_));(conv=>whnf);(with_reducible refine hR _ ?ha ?_);(case ha=>exact rfl);clear R hR)
  | ((refine zay 1408 1409000000 rfl rfl (zyt rfl) rfl (λ R hR=>?_));(conv=>whnf);(with_reducible refine hR _ ?ha ?_);(case ha=>exact rfl);clear R hR)
  | ((refine zay 301 302000000 rfl rfl (zyt rfl) rfl (λ R hR=>?_));(conv=>whnf);(with_reducible refine hR _ ?ha ?_);(case ha=>exact rfl);clear R hR)
  | ((refine zay 1806 1807000000 rfl rfl (zyt rfl) rfl (λ R hR=>?_));(conv=>whnf);(with_reducible refine hR _ ?ha ?_);(case ha=>exact rfl);clear R hR)
  | ((refine zay 1010 1011000000 rfl rfl (zyt rfl) rfl (λ R hR=>?_));(conv=>whnf);(with_reducible refine hR _ ?ha ?_);(case ha=>exact rfl);clear R hR)
  | ((refine zay 2000 2001000000 rfl rfl (zyt rfl) rfl (λ R hR=>?_));(conv=>whnf);(with_reducible refine hR _ ?ha ?_);(case ha=>exact rfl);clear R hR)
  | ((refine zay 1203 1204000000 rfl rfl (zyt rfl) rfl (λ R hR=>?_));(conv=>whnf);(with_reducible refine hR _ ?ha ?_);(case ha=>exact rfl);clear R hR)
  | ((refine zay 1400 1401000000 rfl rfl (zyt rfl) rfl (λ R hR=>?_));(conv=>whnf);(with_reducible refine hR _ ?ha ?_);(case ha=>exact rfl);clear R hR)
  | (show Kinl _ _ _ _ _ _ _;conv=>whnf)
  | ((with_reducible refine zcx ?ha ?hb ?_);(case ha=>exact rfl);(case hb=>exact rfl);conv=>whnf)
  | ((refine⟨?hx,trivial⟩);(case hx=>(cases hF;exact rfl)))
  | ((refine⟨?hx, ?_⟩);(case hx=>decide);conv=>whnf)
  | with_reducible refine zeN ?_
  | (have hF:(none:Option _)=some _:=hF;cases hF))):P:=h
set_option maxRecDepth 20000 in
theorem wk4 {P:Prop}(h:P:=by repeat' (first
  | ((with_reducible first|refine q0 _ _ ?_|refine q1 _ _ _ _ ?_|refine q2 _ _ _ ?_);clear Q q0 q1 q2)
  | ((with_reducible first|refine zc2 ?hx (λ Q q0 q1 q2=>?_)|refine zdk ?hx (λ Q q0 q1 q2=>?_));(case hx=>exact rfl);conv=>whnf)
  | ((with_reducible refine zcn ?_);(with_reducible refine hR _ _ ?hx ?_);(case hx=>kernel_rfl);clear R hR)
  | ((with_reducible first|refine zbX ?_|refine idx2 (by assumption) ?_|refine idx3 (by assumption) ?_);conv=>whnf)
  | ((with_reducible refine zcc [] ?hx ?_);(case hx=>exact rfl))
  | with_reducible refine zeT ?_
  | (with_reducible first|refine zbV ?_|refine zb8 ?_|refine zc1 ?_|refine zcB ?_|refine zbn (λ R hR=>?_)|refine zbm ?_|refine zbk ?_|refine zg0 ?_|refine zbI ?_|refine zbv ?_)
  | ((with_reducible refine zdj ?hx (λ R L hL hR=>?_));(case hx=>exact rfl))
  | ((with_reducible have hJ:=isB hF);clear hJ;revert hF;(with_reducible first|refine G64.lend ?hx ?_);(case hx=>exact rfl);intro v hF;conv=>whnf)
  | (cases hF;(refine Or.inl ?_);(conv=>whnf);exact⟨rfl,rfl,rfl⟩)
  | ((with_reducible have hJ:=zwa hF);clear hJ;revert hF;(refine zqi ?_);intro x hF;conv=>whnf)
  | ((with_reducible have hJ:=isO hF);clear hJ;revert hF;(refine zcM (eK:=strN) (eM:=StoneM.m) zbH ?hk ?hd ?he ?_ ?_);(case hk=>exact λ _=>rfl);(case hd=>exact rfl);(case he=>exact rfl);(intro hl hF;conv=>whnf);rotate_left;(intro i hl hF;conv=>whnf);rotate_right)
  | ((with_reducible have hJ:=isSm hF);clear hJ;revert hF;(refine zhn (eK:=strN) (eV:=bN) zbH ?hk ?hz ?hd ?he ?_);(case hk=>exact λ _=>rfl);(case hz=>exact rfl);(case hd=>exact rfl);(case he=>exact rfl);intro x hF;conv=>whnf)
  | ((with_reducible have hJ:=isO hF);clear hJ;revert hF;(refine zcM (eK:=strN) (eM:=EditionM.m) zbH ?hk ?hd ?he ?_ ?_);(case hk=>exact λ _=>rfl);(case hd=>exact rfl);(case he=>exact rfl);(intro hl hF;conv=>whnf);rotate_left;(intro i hl hF;conv=>whnf);rotate_right)
  | ((with_reducible have hG:=zht hF);clear hF;(obtain⟨⟨x,hx,hF⟩⟩:=hG);first|((with_reducible refine isMc ?_);(refine zfd rfl hx (by exact rfl) ?_);conv=>whnf)|skip)
  | ((with_reducible refine isMc ?_);(refine zfd rfl (by assumption) (by exact rfl) ?_);conv=>whnf)
  | ((with_reducible refine Or.inr ?_);(conv=>whnf);(with_reducible refine isTk ?_);(refine zjy (by first|exact zav|exact zbh (by decide) zav) ?_);conv=>whnf)
  | ((with_reducible have hJ:=isO hF);clear hJ;revert hF;(refine zhu ?_ ?_);(intro ho hF;conv=>whnf);rotate_left;(intro j ho hF;conv=>whnf);rotate_right)
  | ((with_reducible refine isOP ?_);(refine zjx (by assumption) ?_);conv=>whnf)
  | ((with_reducible refine isLd ?_);(refine ziD rfl (by assumption) (λ key=>?_));conv=>whnf)
  | ((with_reducible have hJ:=zwa hF);clear hJ;revert hF;(refine zqy rfl ?_);intro x hF;conv=>whnf)
  | ((with_reducible first|refine ze0 ?hx ?_|refine zdH ?hx ?_|refine zgG ?hx ?_|refine zfx ?hx ?_|refine zcR ?hx ?_|refine zdF ?hx ?_);(case hx=>exact rfl))
  | (revert hF;(with_reducible refine idx1 ?hn ?_);(case hn=>first|exact rfl|exact(List.length_map _)|assumption|omega|simp);intro x hx hF;conv=>whnf)
  | ((with_reducible refine zd9 ?_);(first|((first|refine ze rfl ?hy (λ Q q0 q1 q2=>?_)|refine zda rfl ?hy (λ Q q0 q1 q2=>?_));(case hy=>first|assumption|exact notT (by assumption)|exact rfl);conv=>whnf)|((first|refine zc9 rfl ?hy ?_|refine zcy rfl ?hy ?_);(case hy=>first|assumption|exact notF (by assumption)|exact rfl))|(revert hF;(with_reducible first|refine zea ?hx ?_ ?_|refine zdb ?hx ?_ ?_);(case hx=>exact rfl);(intro hc hF Q q0 q1 q2;conv=>whnf);rotate_left;(intro hc hF);rotate_right)|(revert hF;(with_reducible first|refine zeb ?hx ?_ ?_|refine zdc ?hx ?_ ?_);(case hx=>exact rfl);(intro hc hF);rotate_left;(intro hc hF Q q0 q1 q2;conv=>whnf);rotate_right)))
  | ((with_reducible refine zqq ?_);(first|((first|refine znM rfl ?hy (λ Q q0 q1 q2=>?_)|refine zlf rfl ?hy (λ Q q0 q1 q2=>?_));(case hy=>first|assumption|exact notT (by assumption)|exact rfl);conv=>whnf)|((first|refine zle rfl ?hy ?_|refine ziC rfl ?hy ?_);(case hy=>first|assumption|exact notF (by assumption)|exact rfl))|(revert hF;(with_reducible first|refine znN ?hx ?_ ?_|refine zlg ?hx ?_ ?_);(case hx=>exact rfl);(intro hc hF Q q0 q1 q2;conv=>whnf);rotate_left;(intro hc hF);rotate_right)|(revert hF;(with_reducible first|refine znO ?hx ?_ ?_|refine zlh ?hx ?_ ?_);(case hx=>exact rfl);(intro hc hF);rotate_left;(intro hc hF Q q0 q1 q2;conv=>whnf);rotate_right)))
  | ((with_reducible refine zcW ?_);(first|((refine zd7 rfl ?hy ?_);(case hy=>first|assumption|exact notT (by assumption)|exact rfl))|((refine zd8 rfl ?hy ?_);(case hy=>first|assumption|exact notF (by assumption)|exact rfl))|(revert hF;(with_reducible refine zhr ?hx ?_ ?_);(case hx=>exact rfl);all_goals (intro hc hF))))
  | ((with_reducible refine zhq ?hn ?_);(case hn=>first|exact rfl|assumption|omega);conv=>whnf)
  | ((with_reducible refine zaH ?_);(with_reducible refine zaH ?_);(with_reducible have hG:=zcX hF);(refine gZ 2 1611 rfl ?_);(refine zed 2 1611 rfl rfl rfl (by first|exact zav|exact zbh (by decide) zav) (by assumption) (by exact rfl) ?_);(have hF:=hG);clear hG;dsimp only[St.settledF];(first|((with_reducible refine hR _ ?_);clear R hR)|((with_reducible refine hL _ ?_);clear L hL)))
  | ((with_reducible refine zaH ?_);(with_reducible refine zaH ?_);(with_reducible have hG:=zcX hF);(refine gZ 2 1603 rfl ?_);(refine zed 2 1603 rfl rfl rfl (by first|exact zav|exact zbh (by decide) zav) (by assumption) (by exact rfl) ?_);(have hF:=hG);clear hG;dsimp only[St.settledF];(first|((with_reducible refine hR _ ?_);clear R hR)|((with_reducible refine hL _ ?_);clear L hL)))
  | ((with_reducible refine zb9 ?_);(first|((with_reducible refine hR _ ?_);clear R hR)|((with_reducible refine hL _ ?_);clear L hL)))
  | ((with_reducible refine zd6 ?_);conv=>whnf)
  | ((with_reducible refine zgt ?hx ?_);(case hx=>first|exact rfl|assumption|exact notT (by assumption));conv=>whnf)
  | ((with_reducible refine zfK ?hx ?_);(case hx=>first|exact rfl|assumption|exact notF (by assumption));conv=>whnf)
  | with_reducible refine zeN ?_)):P:=h
set_option maxRecDepth 20000 in
theorem wk5 {P:Prop}(h:P:=by repeat' (first
  | ((with_reducible first|refine q0 _ _ ?_|refine q1 _ _ _ _ ?_|refine q2 _ _ _ ?_);clear Q q0 q1 q2)
  | ((with_reducible first|refine zc2 ?hx (λ Q q0 q1 q2=>?_)|refine zdk ?hx (λ Q q0 q1 q2=>?_)|refine zdG ?hx (λ Q q0 q1 q2=>?_)|refine zfw ?hx (λ Q q0 q1 q2=>?_));(case hx=>exact rfl);conv=>whnf)
  | ((with_reducible first|refine ze0 ?hx ?_|refine zdH ?hx ?_|refine zcR ?hx ?_|refine zdF ?hx ?_|refine zgG ?hx ?_|refine zfx ?hx ?_);(case hx=>exact rfl))
  | ((with_reducible refine zcW ?_);(first|((refine zd7 rfl ?hy ?_);(case hy=>first|assumption|exact notT (by assumption)|exact rfl))|((refine zd8 rfl ?hy ?_);(case hy=>first|assumption|exact notF (by assumption)|exact rfl))|(revert hF;(with_reducible refine zhr ?hx ?_ ?_);(case hx=>exact rfl);all_goals (intro hc hF))))
  | ((with_reducible refine zcc [] ?hx ?_);(case hx=>exact rfl))
  | with_reducible refine zeT ?_
  | ((with_reducible refine zaH ?_);(with_reducible refine zaH ?_);(with_reducible have hG:=zcX hF);(refine gZ 2 1403 rfl ?_);(refine zll 2 1403 rfl rfl rfl (by first|exact zav|exact zbh (by decide) zav) (by assumption) (by exact rfl) ?_);(have hF:=hG);clear hG;dsimp only[St.settledF];(first|((with_reducible refine hR _ ?_);clear R hR)|((with_reducible refine hL _ ?_);clear L hL)))
  | ((with_reducible refine zaH ?_);(with_reducible refine zaH ?_);(with_reducible have hG:=zcX hF);(refine gZ 4 1403 rfl ?_);(refine zed 4 1403 rfl rfl rfl (by first|exact zav|exact zbh (by decide) zav) (by assumption) (by exact rfl) ?_);(have hF:=hG);clear hG;dsimp only[St.settledF];(first|((with_reducible refine hR _ ?_);clear R hR)|((with_reducible refine hL _ ?_);clear L hL)))
  | ((with_reducible refine zaH ?_);(with_reducible refine zaH ?_);(with_reducible have hG:=zcX hF);(refine gZ 4 1803 rfl ?_);(refine zll 4 1803 rfl rfl rfl (by first|exact zav|exact zbh (by decide) zav) (by assumption) (by exact rfl) ?_);(have hF:=hG);clear hG;dsimp only[St.settledF];(first|((with_reducible refine hR _ ?_);clear R hR)|((with_reducible refine hL _ ?_);clear L hL)))
  | ((with_reducible refine zaH ?_);(with_reducible refine zaH ?_);(with_reducible have hG:=zcX hF);(refine gZ 2 2104 rfl ?_);(refine zed 2 2104 rfl rfl rfl (by first|exact zav|exact zbh (by decide) zav) (by assumption) (by exact rfl) ?_);(have hF:=hG);clear hG;dsimp only[St.settledF];(first|((with_reducible refine hR _ ?_);clear R hR)|((with_reducible refine hL _ ?_);clear L hL)))
  | ((with_reducible refine zb9 ?_);(first|((with_reducible refine hR _ ?_);clear R hR)|((with_reducible refine hL _ ?_);clear L hL)))
  | ((with_reducible refine zcn ?_);(with_reducible refine hR _ _ ?hx ?_);(case hx=>kernel_rfl);clear R hR)
  | ((with_reducible first|refine zbX ?_|refine zcr ?_|refine idx2 (by assumption) ?_|refine idx3 (by assumption) ?_);conv=>whnf)
  | (with_reducible first|refine zbV ?_|refine zb8 ?_|refine zc1 ?_|refine zcB ?_|refine zbn (λ R hR=>?_)|refine zbm ?_|refine zbk ?_|refine zg0 ?_|refine zbI ?_|refine zbv ?_)
  | ((with_reducible refine zdj ?hx (λ R L hL hR=>?_));(case hx=>exact rfl))
  | ((with_reducible refine exg3 ?_);revert hF;(refine G213.step rfl rfl rfl (by assumption) (by exact rfl) (by exact rfl) ?_);(intro y hy hF);conv=>whnf)
  | ((with_reducible have hJ:=isB hF);clear hJ;revert hF;(with_reducible first|refine G61.lend ?hx ?_|refine G64.lend ?hx ?_);(case hx=>exact rfl);intro v hF;conv=>whnf)
  | (cases hF;(refine Or.inl ?_);(conv=>whnf);exact⟨rfl,rfl,rfl⟩)
  | ((with_reducible have hJ:=isSm hF);clear hJ;revert hF;(refine zhn (eK:=strN) (eV:=iN) zbH ?hk ?hz ?hd ?he ?_);(case hk=>exact λ _=>rfl);(case hz=>exact rfl);(case hd=>exact rfl);(case he=>exact rfl);intro x hF;conv=>whnf)
  | ((with_reducible have hJ:=isO hF);clear hJ;revert hF;(refine zcM (eK:=strN) (eM:=StoneM.m) zbH ?hk ?hd ?he ?_ ?_);(case hk=>exact λ _=>rfl);(case hd=>exact rfl);(case he=>exact rfl);(intro hl hF;conv=>whnf);rotate_left;(intro i hl hF;conv=>whnf);rotate_right)
  | ((with_reducible have hJ:=isO hF);clear hJ;revert hF;(refine zcM (eK:=strN) (eM:=EditionM.m) zbH ?hk ?hd ?he ?_ ?_);(case hk=>exact λ _=>rfl);(case hd=>exact rfl);(case he=>exact rfl);(intro hl hF;conv=>whnf);rotate_left;(intro i hl hF;conv=>whnf);rotate_right)
  | ((with_reducible refine isLF ?_);(refine zqu (eK:=strN) (eM:=EditionM.m) zbH (λ _=>rfl) (by exact rfl) (by exact rfl) (by assumption) ?_);conv=>whnf)
  | ((with_reducible have hG:=zht hF);clear hF;(obtain⟨⟨x,hx,hF⟩⟩:=hG);first|((with_reducible refine isMc ?_);(refine zfd rfl hx (by exact rfl) ?_);conv=>whnf)|skip)
  | ((with_reducible refine isMc ?_);(refine zfd rfl (by assumption) (by exact rfl) ?_);conv=>whnf)
  | ((with_reducible refine Or.inr ?_);(conv=>whnf);(with_reducible refine isTk ?_);(refine zjy (by first|exact zav|exact zbh (by decide) zav) ?_);conv=>whnf)
  | ((refine⟨(by first|exact zav|exact zbh (by decide) zav), ?_⟩);conv=>whnf)
  | ((with_reducible have hJ:=isO hF);clear hJ;revert hF;(refine zhu ?_ ?_);(intro ho hF;conv=>whnf);rotate_left;(intro j ho hF;conv=>whnf);rotate_right)
  | ((with_reducible refine isOP ?_);(refine zjx (by assumption) ?_);conv=>whnf)
  | ((with_reducible refine isLd ?_);(refine ziD rfl (by assumption) (λ key=>?_));conv=>whnf)
  | ((with_reducible have hG:=zcJ hF);clear hF;(first|((refine zdO hG ?hn ?hs (λ q hF=>?_));(case hn=>first|exact rfl|assumption|omega);(case hs=>exact rfl))|((refine zdo (d:=strN) hG ?hs (λ q hF=>?_));(case hs=>exact rfl))|((refine zdp (d:=strN) hG ?ho ?hn ?hs (λ q hF=>?_));(case ho=>exact rfl);(case hn=>exact rfl);(case hs=>exact rfl)));clear hG;conv=>whnf)
  | ((with_reducible have hG:=zcJ hF);clear hF;(first|((refine zdO hG ?hn ?hs (λ q hF=>?_));(case hn=>first|exact rfl|assumption|omega);(case hs=>exact rfl))|((refine zdo (d:=iN) hG ?hs (λ q hF=>?_));(case hs=>exact rfl))|((refine zdp (d:=iN) hG ?ho ?hn ?hs (λ q hF=>?_));(case ho=>exact rfl);(case hn=>exact rfl);(case hs=>exact rfl)));clear hG;conv=>whnf)
  | ((refine zfa ?hn ?_);(case hn=>first|exact rfl|(simp;done)|(simp;omega));conv=>whnf)
  | (revert hF;(refine zqE ?hn ?_ ?_);(case hn=>first|exact rfl|assumption|omega);(intro hl hF;conv=>whnf);rotate_left;(intro hF;conv=>whnf);rotate_right)
  | ((with_reducible refine zd6 ?_);conv=>whnf)
  | ((with_reducible refine zfK ?hx ?_);(case hx=>first|exact rfl|assumption|exact notF (by assumption));conv=>whnf)
  | ((refine zay 1101 1102000000 rfl rfl (zyt rfl) rfl (λ R hR=>?_));(conv=>whnf);(with_reducible refine hR _ ?ha ?_);(case ha=>exact rfl);clear R hR)
  | ((refine zay 1102 1103000000 rfl rfl (zyt rfl) rfl (λ R hR=>?_));(conv=>whnf);(with_reducible refine hR _ ?ha ?_);(case ha=>exact rfl);clear R hR)
  | ((refine zay 1304 1305000000 rfl rfl (zyt rfl) rfl (λ R hR=>?_));(conv=>whnf);(with_reducible refine hR _ ?ha ?_);(case ha=>exact rfl);clear R hR)
  | ((refine zay 1502 1503000000 rfl rfl (zyt rfl) rfl (λ R hR=>?_));(conv=>whnf);(with_reducible refine hR _ ?ha ?_);(case ha=>exact rfl);clear R hR)
  | ((refine zay 1404 1405000000 rfl rfl (zyt rfl) rfl (λ R hR=>?_));(conv=>whnf);(with_reducible refine hR _ ?ha ?_);(case ha=>exact rfl);clear R hR)
  | ((refine zay 1503000101 1503000102000000 rfl rfl (zyt rfl) rfl (λ R hR=>?_));(conv=>whnf);(with_reducible refine hR _ ?ha ?_);(case ha=>exact rfl);clear R hR)
  | ((refine zay 1103000101 1103000102000000 rfl rfl (zyt rfl) rfl (λ R hR=>?_));(conv=>whnf);(with_reducible refine hR _ ?ha ?_);(case ha=>exact rfl);clear R hR)
  | (show Kinl _ _ _ _ _ _ _;conv=>whnf)
  | ((with_reducible refine zcx ?ha ?hb ?_);(case ha=>exact rfl);(case hb=>exact rfl);conv=>whnf)
  | with_reducible refine zeN ?_)):P:=h
set_option maxRecDepth 20000 in
theorem wk6 {P:Prop}(h:P:=by repeat' (first
  | ((with_reducible first|refine q0 _ _ ?_|refine q1 _ _ _ _ ?_|refine q2 _ _ _ ?_);clear Q q0 q1 q2)
  | ((with_reducible first|refine zc2 ?hx (λ Q q0 q1 q2=>?_)|refine zdk ?hx (λ Q q0 q1 q2=>?_)|refine zdG ?hx (λ Q q0 q1 q2=>?_)|refine zfw ?hx (λ Q q0 q1 q2=>?_));(case hx=>exact rfl);conv=>whnf)
  | ((with_reducible refine zaH ?_);(with_reducible refine zaH ?_);(with_reducible have hG:=zcX hF);(refine gZ 2 1206 rfl ?_);(refine zed 2 1206 rfl rfl rfl (by first|exact zav|exact zbh (by decide) zav) (by assumption) (by exact rfl) ?_);(have hF:=hG);clear hG;dsimp only[St.settledF];(first|((with_reducible refine hR _ ?_);clear R hR)|((with_reducible refine hL _ ?_);clear L hL)))
  | ((with_reducible refine zaH ?_);(with_reducible refine zaH ?_);(with_reducible have hJ:=zli hF);clear hJ;(refine gZ 2 1303 rfl ?_);(refine zgN 2 1303 hF rfl rfl rfl (by first|exact zav|exact zbh (by decide) zav) (by assumption) (by exact rfl) (by first|exact rfl|assumption|(symm;assumption)|omega) (by exact rfl) (λ q hq hF1=>?_));clear hF;(have hF:=hF1);clear hF1;dsimp only[St.settledF];(first|((with_reducible refine hR _ ?_);clear R hR)|((with_reducible refine hL _ ?_);clear L hL)))
  | ((with_reducible refine zcc [] ?hx ?_);(case hx=>exact rfl))
  | with_reducible refine zeT ?_
  | ((with_reducible refine zaH ?_);(with_reducible refine zaH ?_);(with_reducible have hJ:=zli hF);clear hJ;(refine gZ 2 1206 rfl ?_);(refine zgN 2 1206 hF rfl rfl rfl (by first|exact zav|exact zbh (by decide) zav) (by assumption) (by exact rfl) (by first|exact rfl|assumption|(symm;assumption)|omega) (by exact rfl) (λ q hq hF1=>?_));clear hF;(have hF:=hF1);clear hF1;dsimp only[St.settledF];(first|((with_reducible refine hR _ ?_);clear R hR)|((with_reducible refine hL _ ?_);clear L hL)))
  | ((with_reducible refine zaH ?_);(with_reducible refine zaH ?_);(with_reducible have hJ:=zli hF);clear hJ;(refine gZ 2 1303 rfl ?_);(refine znU 2 1303 hF rfl rfl rfl (by first|exact zav|exact zbh (by decide) zav) (by assumption) (by exact rfl) (by exact rfl) (λ q hq hF1=>?_));clear hF;(have hF:=hF1);clear hF1;dsimp only[St.settledF];(first|((with_reducible refine hR _ ?_);clear R hR)|((with_reducible refine hL _ ?_);clear L hL)))
  | ((with_reducible refine zaH ?_);(with_reducible refine zaH ?_);(with_reducible have hJ:=zli hF);clear hJ;(refine gZ 2 1203 rfl ?_);(refine znU 2 1203 hF rfl rfl rfl (by first|exact zav|exact zbh (by decide) zav) (by assumption) (by exact rfl) (by exact rfl) (λ q hq hF1=>?_));clear hF;(have hF:=hF1);clear hF1;dsimp only[St.settledF];(first|((with_reducible refine hR _ ?_);clear R hR)|((with_reducible refine hL _ ?_);clear L hL)))
  | ((with_reducible refine zaH ?_);(with_reducible refine zaH ?_);(with_reducible have hJ:=zli hF);clear hJ;(refine gZ 2 1306 rfl ?_);(refine zgN 2 1306 hF rfl rfl rfl (by first|exact zav|exact zbh (by decide) zav) (by assumption) (by exact rfl) (by first|exact rfl|assumption|(symm;assumption)|omega) (by exact rfl) (λ q hq hF1=>?_));clear hF;(have hF:=hF1);clear hF1;dsimp only[St.settledF];(first|((with_reducible refine hR _ ?_);clear R hR)|((with_reducible refine hL _ ?_);clear L hL)))
  | ((with_reducible refine zaH ?_);(with_reducible refine zaH ?_);(with_reducible have hJ:=zli hF);clear hJ;(refine gZ 2 1501 rfl ?_);(refine zgN 2 1501 hF rfl rfl rfl (by first|exact zav|exact zbh (by decide) zav) (by assumption) (by exact rfl) (by first|exact rfl|assumption|(symm;assumption)|omega) (by exact rfl) (λ q hq hF1=>?_));clear hF;(have hF:=hF1);clear hF1;dsimp only[St.settledF];(first|((with_reducible refine hR _ ?_);clear R hR)|((with_reducible refine hL _ ?_);clear L hL)))
  | ((with_reducible refine zb9 ?_);(first|((with_reducible refine hR _ ?_);clear R hR)|((with_reducible refine hL _ ?_);clear L hL)))
  | ((with_reducible refine zcn ?_);(with_reducible refine hR _ _ ?hx ?_);(case hx=>kernel_rfl);clear R hR)
  | ((with_reducible first|refine zbX ?_|refine zcr ?_|refine idx2 (by assumption) ?_|refine idx3 (by assumption) ?_);conv=>whnf)
  | (with_reducible first|refine zb8 ?_|refine zc1 ?_|refine zbn (λ R hR=>?_)|refine zbm ?_)
  | ((with_reducible refine zdj ?hx (λ R L hL hR=>?_));(case hx=>exact rfl))
  | ((with_reducible refine exg3 ?_);revert hF;(refine G213.step rfl rfl rfl (by assumption) (by exact rfl) (by exact rfl) ?_);(intro y hy hF);conv=>whnf)
  | (cases hF;(refine Or.inl ?_);(conv=>whnf);exact⟨rfl,rfl,rfl⟩)
  | ((with_reducible have hJ:=isSm hF);clear hJ;revert hF;(refine zhn (eK:=strN) (eV:=iN) zbH ?hk ?hz ?hd ?he ?_);(case hk=>exact λ _=>rfl);(case hz=>exact rfl);(case hd=>exact rfl);(case he=>exact rfl);intro x hF;conv=>whnf)
  | ((refine zmO rfl (by assumption) (λ d hp=>?_));(conv=>whnf);(refine zqx hF hp (by assumption) rfl (by exact rfl) (λ q hq hF1=>?_));clear hp;clear hF;(have hF:=hF1);clear hF1;conv=>whnf)
  | ((with_reducible have hJ:=isSm hF);clear hJ;revert hF;(refine znH (eK:=strN) (eV:=iN) zbH ?hk ?hv ?hd ?he ?_);(case hk=>exact λ _=>rfl);(case hv=>exact rfl);(case hd=>exact rfl);(case he=>exact rfl);intro x hF;conv=>whnf)
  | ((with_reducible have hJ:=isO hF);clear hJ;revert hF;(refine zcM (eK:=strN) (eM:=StoneM.m) zbH ?hk ?hd ?he ?_ ?_);(case hk=>exact λ _=>rfl);(case hd=>exact rfl);(case he=>exact rfl);(intro hl hF;conv=>whnf);rotate_left;(intro i hl hF;conv=>whnf);rotate_right)
  | ((with_reducible have hJ:=isSm hF);clear hJ;revert hF;(refine znH (eK:=strN) (eV:=bN) zbH ?hk ?hv ?hd ?he ?_);(case hk=>exact λ _=>rfl);(case hv=>exact rfl);(case hd=>exact rfl);(case he=>exact rfl);intro x hF;conv=>whnf)
  | ((with_reducible have hJ:=isO hF);clear hJ;revert hF;(refine zcM (eK:=strN) (eM:=EditionM.m) zbH ?hk ?hd ?he ?_ ?_);(case hk=>exact λ _=>rfl);(case hd=>exact rfl);(case he=>exact rfl);(intro hl hF;conv=>whnf);rotate_left;(intro i hl hF;conv=>whnf);rotate_right)
  | ((with_reducible have hG:=zht hF);clear hF;(obtain⟨⟨x,hx,hF⟩⟩:=hG);first|((with_reducible refine isMc ?_);(refine zfd rfl hx (by exact rfl) ?_);conv=>whnf)|skip)
  | ((with_reducible refine isMc ?_);(refine zfd rfl (by assumption) (by exact rfl) ?_);conv=>whnf)
  | ((with_reducible refine Or.inr ?_);(conv=>whnf);(with_reducible refine isTk ?_);(refine zjy (by first|exact zav|exact zbh (by decide) zav) ?_);conv=>whnf)
  | ((refine⟨(by first|exact zav|exact zbh (by decide) zav), ?_⟩);conv=>whnf)
  | ((with_reducible have hJ:=isO hF);clear hJ;revert hF;(refine zhu ?_ ?_);(intro ho hF;conv=>whnf);rotate_left;(intro j ho hF;conv=>whnf);rotate_right)
  | ((with_reducible refine isOP ?_);(refine zjx (by assumption) ?_);conv=>whnf)
  | ((with_reducible refine isOP ?_);(refine zqv (by assumption) ?_);conv=>whnf)
  | ((with_reducible refine isSF ?_);(with_reducible have hJ:=zli hF);clear hJ;(refine zqw hF (by assumption) rfl (by exact rfl) (λ q hq hF1=>?_));clear hF;(have hF:=hF1);clear hF1;conv=>whnf)
  | ((with_reducible refine isPF ?_);(with_reducible have hJ:=zli hF);clear hJ;(refine zqC hF (by assumption) rfl (by first|exact rfl|assumption|omega) (by exact rfl) (by first|exact zqB.trans znT|exact znT|exact rfl) (λ q hq hF1=>?_));clear hF;(have hF:=hF1);clear hF1;conv=>whnf)
  | (revert hF;(with_reducible refine idx1 ?hn ?_);(case hn=>first|exact rfl|exact(List.length_map _)|assumption|omega|simp);intro x hx hF;conv=>whnf)
  | ((with_reducible have hG:=zcJ hF);clear hF;(first|((refine zdO hG ?hn ?hs (λ q hF=>?_));(case hn=>first|exact rfl|assumption|omega);(case hs=>exact rfl))|((refine zdo (d:=iN) hG ?hs (λ q hF=>?_));(case hs=>exact rfl))|((refine zdp (d:=iN) hG ?ho ?hn ?hs (λ q hF=>?_));(case ho=>exact rfl);(case hn=>exact rfl);(case hs=>exact rfl)));clear hG;conv=>whnf)
  | ((refine zfa ?hn ?_);(case hn=>first|exact rfl|(simp;done)|(simp;omega));conv=>whnf)
  | ((with_reducible refine zhq ?hn ?_);(case hn=>first|exact rfl|assumption|omega);conv=>whnf)
  | ((with_reducible have hG:=zbK hF);clear hF;(refine zhm hG ?hs (λ q hl hF=>?_));(case hs=>exact rfl);clear hG;conv=>whnf)
  | ((refine⟨?hx, ?_⟩);(case hx=>exact⟨rfl,zyt rfl,rfl⟩);conv=>whnf)
  | ((with_reducible refine zd6 ?_);conv=>whnf)
  | with_reducible refine zeN ?_
  | (have hF:(none:Option _)=some _:=hF;cases hF))):P:=h
set_option maxRecDepth 20000 in
theorem wk7 {P:Prop}(h:P:=by repeat' (first
  | ((with_reducible first|refine q0 _ _ ?_|refine q1 _ _ _ _ ?_|refine q2 _ _ _ ?_);clear Q q0 q1 q2)
  | ((with_reducible first|refine zc2 ?hx (λ Q q0 q1 q2=>?_)|refine zdG ?hx (λ Q q0 q1 q2=>?_));(case hx=>exact rfl);conv=>whnf)
  | ((with_reducible first|refine ze0 ?hx ?_|refine zdH ?hx ?_|refine zcR ?hx ?_|refine zdF ?hx ?_);(case hx=>exact rfl))
  | ((with_reducible refine zd9 ?_);(first|((first|refine ze rfl ?hy (λ Q q0 q1 q2=>?_)|refine zda rfl ?hy (λ Q q0 q1 q2=>?_));(case hy=>first|assumption|exact notT (by assumption)|exact rfl);conv=>whnf)|((first|refine zc9 rfl ?hy ?_|refine zcy rfl ?hy ?_);(case hy=>first|assumption|exact notF (by assumption)|exact rfl))|(revert hF;(with_reducible first|refine zea ?hx ?_ ?_|refine zdb ?hx ?_ ?_);(case hx=>exact rfl);(intro hc hF Q q0 q1 q2;conv=>whnf);rotate_left;(intro hc hF);rotate_right)|(revert hF;(with_reducible first|refine zeb ?hx ?_ ?_|refine zdc ?hx ?_ ?_);(case hx=>exact rfl);(intro hc hF);rotate_left;(intro hc hF Q q0 q1 q2;conv=>whnf);rotate_right)))
  | ((with_reducible refine zcW ?_);(first|((refine zd7 rfl ?hy ?_);(case hy=>first|assumption|exact notT (by assumption)|exact rfl))|((refine zd8 rfl ?hy ?_);(case hy=>first|assumption|exact notF (by assumption)|exact rfl))|(revert hF;(with_reducible refine zhr ?hx ?_ ?_);(case hx=>exact rfl);all_goals (intro hc hF))))
  | ((with_reducible refine zb9 ?_);(first|((with_reducible refine hR _ ?_);clear R hR)|((with_reducible refine hL _ ?_);clear L hL)))
  | ((with_reducible first|refine zbX ?_|refine zcr ?_|refine idx2 (by assumption) ?_|refine idx3 (by assumption) ?_);conv=>whnf)
  | (with_reducible first|refine zbV ?_|refine zb8 ?_|refine zc1 ?_|refine zcB ?_|refine zbn (λ R hR=>?_)|refine zbm ?_|refine zbk ?_|refine zg0 ?_|refine zbI ?_|refine zbv ?_|refine zcL ?_|refine zck ?_)
  | ((with_reducible replace hF:=isE hF);(dsimp only[zjA,zqM,zjB,zeh,zmS,ztV,zhw,zm0,zt4,zlL,zjO,zq5,zeW,zby,zce,zbz,zbj,zbU,zcg,za0,zaU,za1,zm4,zt7,zjR,zhP,zq9,zjT,zfV,zbA,zch,zaE] at hF);first|((with_reducible replace hF:=chkE (e:=zdQ ..) hF);rewrite[zdQ] at hF)|((with_reducible replace hF:=chkE (e:=zei ..) hF);rewrite[zei] at hF)|((with_reducible replace hF:=chkE (e:=zhI) hF);rewrite[zhI] at hF)|((with_reducible replace hF:=chkE (e:=zaQ ..) hF);rewrite[zaQ] at hF)|((with_reducible replace hF:=chkE (e:=zaR ..) hF);rewrite[zaR] at hF)|((with_reducible replace hF:=chkE (e:=zaK ..) hF);rewrite[zaK] at hF)|((with_reducible replace hF:=chkE (e:=zgz) hF);rewrite[zgz] at hF)|((with_reducible replace hF:=chkE (e:=zek ..) hF);rewrite[zek] at hF)|((with_reducible replace hF:=chkE (e:=zaB ..) hF);rewrite[zaB] at hF)|rewrite[zeg] at hF|rewrite[zhv] at hF|rewrite[zln] at hF|rewrite[zn3] at hF|rewrite[zdq] at hF|rewrite[zhL] at hF|rewrite[zcd] at hF|rewrite[zbT] at hF|rewrite[zcf] at hF|rewrite[zn7] at hF|rewrite[zdS] at hF|rewrite[zjS] at hF|rewrite[zba] at hF)
  | ((with_reducible refine zfc ?_);first|((with_reducible replace hF:=toLp 0 1 hF);exact Lp.backI hF () ⟨_,rfl,rfl,rfl,rfl⟩ rfl)|((with_reducible replace hF:=toLp 0 2 hF);exact Lp.backI hF () ⟨_,rfl,rfl,rfl,rfl⟩ rfl))
  | ((with_reducible refine zcV ?_);first|((with_reducible replace hF:=toLp 0 0 hF);exact Lp.headI hF () ⟨_,rfl,rfl,rfl,rfl⟩ rfl)|((with_reducible replace hF:=toLp 0 1 hF);exact Lp.headI hF () ⟨_,rfl,rfl,rfl,rfl⟩ rfl))
  | ((with_reducible refine zfb ?_);first|((with_reducible replace hF:=toLp 0 1 hF);((refine Lp.loopI hF () rfl ⟨_,rfl,rfl,rfl,rfl⟩ rfl (λ _=>rfl) ?_);clear hF);(rintro n _ hF))|((with_reducible replace hF:=toLp 0 2 hF);((refine Lp.loopI hF () rfl ⟨_,rfl,rfl,rfl,rfl⟩ rfl (λ _=>rfl) ?_);clear hF);(rintro n ⟨_,_⟩ hF)))
  | ((with_reducible refine zcU ?_);first|((with_reducible replace hF:=zdP 0 hF);((refine Lp.cutI hF rfl rfl ?_ ?_) <;> clear hF);(intro hF);rotate_left;(rintro _ hF);rotate_right)|((with_reducible replace hF:=zdP 1 hF);((refine Lp.cutI hF rfl rfl ?_ ?_) <;> clear hF);(intro hF);rotate_left;(rintro _ hF);rotate_right))
  | ((with_reducible refine zcc [] ?hx ?_);(case hx=>exact rfl))
  | with_reducible refine zeT ?_
  | ((with_reducible have hJ:=isB hF);clear hJ;revert hF;(with_reducible first|refine G73.step ?hx ?_|refine G117.lend ?hx ?_|refine G143.step ?hx ?_|refine G145.lend ?hx ?_|refine G124.lend ?hx ?_|refine G116.lend ?hx ?_);(case hx=>exact rfl);intro v hF;conv=>whnf)
  | ((with_reducible have hI:=zmP hF);clear hI;revert hF;(refine zho ?_);intro x hF;conv=>whnf)
  | (revert hF;(refine zqh ?_);intro x hF;conv=>whnf)
  | (revert hF;(with_reducible refine idx1 ?hn ?_);(case hn=>first|exact rfl|exact(List.length_map _)|assumption|omega|simp);intro x hx hF;conv=>whnf)
  | ((with_reducible refine zd6 ?_);conv=>whnf)
  | ((with_reducible refine zgt ?hx ?_);(case hx=>first|exact rfl|assumption|exact notT (by assumption));conv=>whnf)
  | ((with_reducible refine zfK ?hx ?_);(case hx=>first|exact rfl|assumption|exact notF (by assumption));conv=>whnf)
  | (revert hF;(with_reducible refine za9 ?_ ?_) <;> (intro hc hF;conv=>whnf))
  | ((refine zay 206 207000000 rfl rfl (zyt rfl) rfl (λ R hR=>?_));(conv=>whnf);(with_reducible refine hR _ ?ha ?_);(case ha=>exact rfl);clear R hR)
  | ((refine zay 602 zyD rfl rfl (zyt rfl) rfl (λ R hR=>?_));(conv=>whnf);(with_reducible refine hR _ ?ha ?_);(case ha=>exact rfl);clear R hR)
  | ((refine zay 403 404000000 rfl rfl (zyt rfl) rfl (λ R hR=>?_));(conv=>whnf);(with_reducible refine hR _ ?ha ?_);(case ha=>exact rfl);clear R hR)
  | ((refine zay 603000102 603000103000000 rfl rfl (zyt rfl) rfl (λ R hR=>?_));(conv=>whnf);(with_reducible refine hR _ ?ha ?_);(case ha=>exact rfl);clear R hR)
  | ((refine zay 207000102 207000103000000 rfl rfl (zyt rfl) rfl (λ R hR=>?_));(conv=>whnf);(with_reducible refine hR _ ?ha ?_);(case ha=>exact rfl);clear R hR)
  | ((refine zay 603000103000405 603000103000406000000 rfl rfl (zyt rfl) rfl (λ R hR=>?_));(conv=>whnf);(with_reducible refine hR _ ?ha ?_);(case ha=>exact rfl);clear R hR)
  | ((refine zay 404000102 404000103000000 rfl rfl (zyt rfl) rfl (λ R hR=>?_));(conv=>whnf);(with_reducible refine hR _ ?ha ?_);(case ha=>exact rfl);clear R hR)
  | ((refine zay 207000103000405 207000103000406000000 rfl rfl (zyt rfl) rfl (λ R hR=>?_));(conv=>whnf);(with_reducible refine hR _ ?ha ?_);(case ha=>exact rfl);clear R hR)
  | ((refine zay 404000103000405 404000103000406000000 rfl rfl (zyt rfl) rfl (λ R hR=>?_));(conv=>whnf);(with_reducible refine hR _ ?ha ?_);(case ha=>exact rfl);clear R hR)
  | (show Kinl _ _ _ _ _ _ _;conv=>whnf)
  | ((with_reducible refine zcx ?ha ?hb ?_);(case ha=>exact rfl);(case hb=>exact rfl);conv=>whnf)
  | ((refine⟨?hx,trivial⟩);(case hx=>(cases hF;exact rfl)))
  | with_reducible refine zeN ?_)):P:=h
set_option maxRecDepth 20000 in
theorem wk8 {P:Prop}(h:P:=by repeat' (first
  | ((with_reducible first|refine q0 _ _ ?_|refine q1 _ _ _ _ ?_|refine q2 _ _ _ ?_);clear Q q0 q1 q2)
  | ((with_reducible first|refine zc2 ?hx (λ Q q0 q1 q2=>?_)|refine zdk ?hx (λ Q q0 q1 q2=>?_)|refine zdG ?hx (λ Q q0 q1 q2=>?_));(case hx=>exact rfl);conv=>whnf)
  | ((with_reducible refine zcW ?_);(first|((refine zd7 rfl ?hy ?_);(case hy=>first|assumption|exact notT (by assumption)|exact rfl))|((refine zd8 rfl ?hy ?_);(case hy=>first|assumption|exact notF (by assumption)|exact rfl))|(revert hF;(with_reducible refine zhr ?hx ?_ ?_);(case hx=>exact rfl);all_goals (intro hc hF))))
  | ((with_reducible refine zb9 ?_);(first|((with_reducible refine hR _ ?_);clear R hR)|((with_reducible refine hL _ ?_);clear L hL)))
  | ((with_reducible refine zcc [] ?hx ?_);(case hx=>exact rfl))
  | with_reducible refine zeT ?_
  | ((with_reducible refine zcn ?_);(with_reducible refine hR _ _ ?hx ?_);(case hx=>kernel_rfl);clear R hR)
  | ((with_reducible first|refine zbX ?_|refine idx2 (by assumption) ?_|refine idx3 (by assumption) ?_);conv=>whnf)
  | (with_reducible first|refine zbV ?_|refine zb8 ?_|refine zc1 ?_|refine zcB ?_|refine zbn (λ R hR=>?_)|refine zbm ?_|refine zbk ?_|refine zg0 ?_|refine zbI ?_|refine zbv ?_)
  | ((with_reducible refine zdj ?hx (λ R L hL hR=>?_));(case hx=>exact rfl))
  | ((with_reducible have hJ:=isB hF);clear hJ;revert hF;(with_reducible first|refine G132.lend ?hx ?_|refine G158.lend ?hx ?_|refine G146.lend ?hx ?_|refine G147.lend ?hx ?_|refine G55.lend ?hx ?_|refine G80.step ?hx ?_|refine G81.lend ?hx ?_);(case hx=>exact rfl);intro v hF;conv=>whnf)
  | (revert hF;(with_reducible refine idx1 ?hn ?_);(case hn=>first|exact rfl|exact(List.length_map _)|assumption|omega|simp);intro x hx hF;conv=>whnf)
  | ((refine⟨?hx,trivial⟩);(case hx=>(cases hF;exact rfl)))
  | ((refine⟨?hx, ?_⟩);(case hx=>decide);conv=>whnf)
  | with_reducible refine zeN ?_)):P:=h
set_option maxRecDepth 20000 in
theorem wk9 {P:Prop}(h:P:=by repeat' (first
  | ((with_reducible first|refine q0 _ _ ?_|refine q1 _ _ _ _ ?_|refine q2 _ _ _ ?_);clear Q q0 q1 q2)
  | ((with_reducible first|refine zc2 ?hx (λ Q q0 q1 q2=>?_)|refine zdk ?hx (λ Q q0 q1 q2=>?_));(case hx=>exact rfl);conv=>whnf)
  | ((with_reducible refine zcW ?_);(first|((refine zd7 rfl ?hy ?_);(case hy=>first|assumption|exact notT (by assumption)|exact rfl))|((refine zd8 rfl ?hy ?_);(case hy=>first|assumption|exact notF (by assumption)|exact rfl))|(revert hF;(with_reducible refine zhr ?hx ?_ ?_);(case hx=>exact rfl);all_goals (intro hc hF))))
  | ((with_reducible refine zb9 ?_);(first|((with_reducible refine hR _ ?_);clear R hR)|((with_reducible refine hL _ ?_);clear L hL)))
  | ((with_reducible refine zcn ?_);(with_reducible refine hR _ _ ?hx ?_);(case hx=>kernel_rfl);clear R hR)
  | ((with_reducible first|refine zbX ?_|refine zcr ?_|refine idx2 (by assumption) ?_|refine idx3 (by assumption) ?_);conv=>whnf)
  | (with_reducible first|refine zbV ?_|refine zb8 ?_|refine zc1 ?_|refine zcB ?_|refine zbn (λ R hR=>?_)|refine zbm ?_|refine zbk ?_|refine zg0 ?_|refine zbI ?_|refine zbv ?_|refine zcL ?_|refine zck ?_)
  | ((with_reducible refine zdj ?hx (λ R L hL hR=>?_));(case hx=>exact rfl))
  | ((with_reducible replace hF:=isE hF);(dsimp only[zmT,ztW,zlu,zdR,zgv,zbM,zjD,zqU,zlH,zjE,zqW,zlI,zmW,ztZ,zqX,zmX,zt0,zlJ,zmY,zt1,zlK,zmZ,zt3,zo6,zjH,zq1,ziJ,zm1,zt5,zlM,zjI,zq2,zgx,zm2,zt6,zm3,zm5,zt8,zlS] at hF);first|((with_reducible replace hF:=chkE (e:=zgf) hF);rewrite[zgf] at hF)|((with_reducible replace hF:=chkE (e:=ziH) hF);rewrite[ziH] at hF)|((with_reducible replace hF:=chkE (e:=zhF) hF);rewrite[zhF] at hF)|((with_reducible replace hF:=chkE (e:=zhH) hF);rewrite[zhH] at hF)|((with_reducible replace hF:=chkE (e:=zff) hF);rewrite[zff] at hF)|rewrite[zhx] at hF|rewrite[znY] at hF|rewrite[zbL] at hF|rewrite[zdd] at hF|rewrite[zqT] at hF|rewrite[zhE] at hF|rewrite[zqV] at hF|rewrite[ztY] at hF|rewrite[zn1] at hF|rewrite[ziI] at hF|rewrite[zn2] at hF|rewrite[zt2] at hF|rewrite[zq0] at hF|rewrite[ziK] at hF|rewrite[zn4] at hF|rewrite[zgg] at hF|rewrite[zjJ] at hF|rewrite[zfU] at hF|rewrite[zq8] at hF|rewrite[zhQ] at hF|rewrite[zn8] at hF)
  | ((with_reducible refine zfc ?_);first|((with_reducible replace hF:=toLp 0 1 hF);exact Lp.backI hF () ⟨_,rfl,rfl,rfl,rfl⟩ rfl)|((with_reducible replace hF:=toLp 0 2 hF);exact Lp.backI hF () ⟨_,rfl,rfl,rfl,rfl⟩ rfl))
  | ((with_reducible refine zcV ?_);first|((with_reducible replace hF:=toLp 0 0 hF);exact Lp.headI hF () ⟨_,rfl,rfl,rfl,rfl⟩ rfl)|((with_reducible replace hF:=toLp 0 1 hF);exact Lp.headI hF () ⟨_,rfl,rfl,rfl,rfl⟩ rfl))
  | ((with_reducible refine zfb ?_);first|((with_reducible replace hF:=toLp 0 1 hF);((refine Lp.loopI hF () rfl ⟨_,rfl,rfl,rfl,rfl⟩ rfl (λ _=>rfl) ?_);clear hF);(rintro n _ hF))|((with_reducible replace hF:=toLp 0 2 hF);((refine Lp.loopI hF () rfl ⟨_,rfl,rfl,rfl,rfl⟩ rfl (λ _=>rfl) ?_);clear hF);(rintro n ⟨_,_⟩ hF)))
  | ((with_reducible refine zcU ?_);first|((with_reducible replace hF:=zdP 0 hF);((refine Lp.cutI hF rfl rfl ?_ ?_) <;> clear hF);(intro hF);rotate_left;(rintro _ hF);rotate_right)|((with_reducible replace hF:=zdP 1 hF);((refine Lp.cutI hF rfl rfl ?_ ?_) <;> clear hF);(intro hF);rotate_left;(rintro _ hF);rotate_right))
  | ((with_reducible refine zcc [] ?hx ?_);(case hx=>exact rfl))
  | with_reducible refine zeT ?_
  | ((with_reducible have hJ:=isB hF);clear hJ;revert hF;(with_reducible first|refine G30.lend ?hx ?_|refine G86.lend ?hx ?_|refine G55.lend ?hx ?_|refine G59.lend ?hx ?_);(case hx=>exact rfl);intro v hF;conv=>whnf)
  | ((with_reducible have hI:=zmP hF);clear hI;revert hF;(refine zho ?_);intro x hF;conv=>whnf)
  | ((with_reducible have hI:=zqH hF);clear hI;revert hF;(refine zla ?_);intro x hF;conv=>whnf)
  | ((with_reducible have hI:=zqF hF);clear hI;revert hF;(refine zlb ?_);intro x hF;conv=>whnf)
  | (revert hF;(with_reducible refine idx1 ?hn ?_);(case hn=>first|exact rfl|exact(List.length_map _)|assumption|omega|simp);intro x hx hF;conv=>whnf)
  | ((with_reducible have hG:=zfJ hF);clear hF;(refine zgM hG (λ q hF=>?_));clear hG;conv=>whnf)
  | ((with_reducible refine zd6 ?_);conv=>whnf)
  | ((with_reducible have hG:=znL hF);clear hF;(refine⟨?hx, ?_⟩);(case hx=>(first|exact of_decide_eq_true hG.1|exact hG.1));have hF:=hG.2;clear hG;conv=>whnf)
  | ((refine zay 103 104000000 rfl rfl (zyt rfl) rfl (λ R hR=>?_));(conv=>whnf);(with_reducible refine hR _ ?ha ?_);(case ha=>exact rfl);clear R hR)
  | ((refine zay 104000403 104000404000000 rfl rfl (zyt rfl) rfl (λ R hR=>?_));(conv=>whnf);(with_reducible refine hR _ ?ha ?_);(case ha=>exact rfl);clear R hR)
  | (show Kinl _ _ _ _ _ _ _;conv=>whnf)
  | ((with_reducible refine zcx ?ha ?hb ?_);(case ha=>exact rfl);(case hb=>exact rfl);conv=>whnf)
  | ((refine⟨?hx,trivial⟩);(case hx=>(cases hF;exact rfl)))
  | ((refine⟨?hx, ?_⟩);(case hx=>decide);conv=>whnf)
  | with_reducible refine zeN ?_)):P:=h
set_option maxRecDepth 20000 in
theorem wk10 {P:Prop}(h:P:=by repeat' (first
  | ((with_reducible first|refine q0 _ _ ?_|refine q1 _ _ _ _ ?_|refine q2 _ _ _ ?_);clear Q q0 q1 q2)
  | ((with_reducible first|refine zc2 ?hx (λ Q q0 q1 q2=>?_)|refine zdk ?hx (λ Q q0 q1 q2=>?_)|refine zdG ?hx (λ Q q0 q1 q2=>?_)|refine zfw ?hx (λ Q q0 q1 q2=>?_));(case hx=>exact rfl);conv=>whnf)
  | ((with_reducible refine zcW ?_);(first|((refine zd7 rfl ?hy ?_);(case hy=>first|assumption|exact notT (by assumption)|exact rfl))|((refine zd8 rfl ?hy ?_);(case hy=>first|assumption|exact notF (by assumption)|exact rfl))|(revert hF;(with_reducible refine zhr ?hx ?_ ?_);(case hx=>exact rfl);all_goals (intro hc hF))))
  | ((with_reducible refine zb9 ?_);(first|((with_reducible refine hR _ ?_);clear R hR)|((with_reducible refine hL _ ?_);clear L hL)))
  | ((with_reducible refine zcc [] ?hx ?_);(case hx=>exact rfl))
  | with_reducible refine zeT ?_
  | ((with_reducible refine zcn ?_);(with_reducible refine hR _ _ ?hx ?_);(case hx=>kernel_rfl);clear R hR)
  | (with_reducible first|refine zb8 ?_|refine zc1 ?_|refine zbn (λ R hR=>?_)|refine zbm ?_|refine zbV ?_|refine zcB ?_|refine zbk ?_|refine zg0 ?_|refine zbI ?_|refine zbv ?_)
  | ((with_reducible refine zdj ?hx (λ R L hL hR=>?_));(case hx=>exact rfl))
  | ((with_reducible have hJ:=isB hF);clear hJ;revert hF;(first|refine G51.step rfl rfl rfl rfl rfl rfl rfl (by first|exact rfl|assumption|omega|(simp only[List.length_set];done)) (by first|exact trivial|exact rfl) ?hn ?_);(case hn=>exact rfl);intro v hF;(obtain⟨v,ve⟩:=v);(try dsimp only at hF);(conv=>whnf))
  | ((with_reducible have hJ:=isB hF);clear hJ;revert hF;(first|refine G197.step rfl rfl rfl rfl rfl  (by first|exact trivial|exact rfl) ?hn ?_|refine G199.step rfl rfl rfl rfl rfl  (by first|exact trivial|exact rfl) ?hn ?_|refine G201.step rfl rfl rfl rfl rfl  (by first|exact trivial|exact rfl) ?hn ?_|refine G203.step rfl rfl rfl rfl rfl  (by first|exact trivial|exact rfl) ?hn ?_|refine G205.step rfl rfl rfl rfl rfl  (by first|exact trivial|exact rfl) ?hn ?_|refine G207.step rfl rfl rfl rfl rfl  (by first|exact trivial|exact rfl) ?hn ?_|refine G209.step rfl rfl rfl rfl rfl  (by first|exact trivial|exact rfl) ?hn ?_|refine G211.step rfl rfl rfl rfl rfl  (by first|exact trivial|exact rfl) ?hn ?_|refine G214.step rfl rfl rfl rfl rfl  (by first|exact trivial|exact rfl) ?hn ?_);(case hn=>exact rfl);intro v hF;conv=>whnf)
  | (cases hF;(refine Or.inl ?_);(conv=>whnf);exact⟨rfl,rfl,rfl⟩)
  | (with_reducible first|(replace hF:=I97.go0 hF)|(replace hF:=I97.go1 hF)|(replace hF:=I97.go2 hF)|(replace hF:=I97.go3 hF)|(replace hF:=I97.go4 hF)|(replace hF:=I97.go5 hF)|(replace hF:=I97.go6 hF)|(replace hF:=I97.go7 hF)|(replace hF:=I97.go8 hF)|(replace hF:=I97.go9 hF))
  | ((with_reducible have hG:=zlj hF);clear hF;(refine zlk (eM:=StoneM.m) hG zbH ?hk ?hd ?he [.d default, .p 0 none, .d default] rfl ?_);(case hk=>exact λ _=>rfl);(case hd=>exact rfl);(case he=>exact rfl);(conv=>whnf);(refine⟨⟨rfl,rfl,(by decide)⟩, ?_⟩);(refine zqz hG rfl rfl rfl (λ q hq hF=>?_));clear hG;conv=>whnf)
  | ((with_reducible have hG:=zlj hF);clear hF;(refine zlk (eM:=EditionM.m) hG zbH ?hk ?hd ?he [.d default, .d default, .r 3 1 [], .d default, .d default, .d default, .d default, .m [], .d default] rfl ?_);(case hk=>exact λ _=>rfl);(case hd=>exact rfl);(case he=>exact rfl);(conv=>whnf);(refine⟨⟨rfl,rfl,(by decide)⟩, ?_⟩);(refine zqz hG rfl rfl rfl (λ q hq hF=>?_));clear hG;conv=>whnf)
  | ((refine zfa ?hn ?_);(case hn=>first|exact rfl|(simp;done)|(simp;omega));conv=>whnf)
  | with_reducible refine zeN ?_
  | (have hF:(none:Option _)=some _:=hF;cases hF)
  | ((with_reducible have hG:=zcJ hF);clear hF;(first|((refine zdO hG ?hn ?hs (λ q hF=>?_));(case hn=>first|exact rfl|assumption|omega);(case hs=>exact rfl))|((refine zdo (d:=strN) hG ?hs (λ q hF=>?_));(case hs=>exact rfl))|((refine zdp (d:=strN) hG ?ho ?hn ?hs (λ q hF=>?_));(case ho=>exact rfl);(case hn=>exact rfl);(case hs=>exact rfl)));clear hG;conv=>whnf)
  | ((refine I97.fp (K:=λ x=>Q ⟨x,[]⟩ _) ?_);conv=>whnf)
  | ((rename I97=>xi);cases xi <;> ((try dsimp only at hF);(try (conv=>whnf)))))):P:=h
set_option maxRecDepth 20000 in
theorem wk11 {P:Prop}(h:P:=by repeat' (first
  | ((with_reducible first|refine q0 _ _ ?_|refine q1 _ _ _ _ ?_|refine q2 _ _ _ ?_);clear Q q0 q1 q2)
  | ((with_reducible first|refine zc2 ?hx (λ Q q0 q1 q2=>?_));(case hx=>exact rfl);conv=>whnf)
  | ((with_reducible refine zd9 ?_);(first|((first|refine ze rfl ?hy (λ Q q0 q1 q2=>?_)|refine zda rfl ?hy (λ Q q0 q1 q2=>?_));(case hy=>first|assumption|exact notT (by assumption)|exact rfl);conv=>whnf)|((first|refine zc9 rfl ?hy ?_|refine zcy rfl ?hy ?_);(case hy=>first|assumption|exact notF (by assumption)|exact rfl))|(revert hF;(with_reducible first|refine zea ?hx ?_ ?_|refine zdb ?hx ?_ ?_);(case hx=>exact rfl);(intro hc hF Q q0 q1 q2;conv=>whnf);rotate_left;(intro hc hF);rotate_right)|(revert hF;(with_reducible first|refine zeb ?hx ?_ ?_|refine zdc ?hx ?_ ?_);(case hx=>exact rfl);(intro hc hF);rotate_left;(intro hc hF Q q0 q1 q2;conv=>whnf);rotate_right)))
  | ((with_reducible refine zb9 ?_);(first|((with_reducible refine hR _ ?_);clear R hR)|((with_reducible refine hL _ ?_);clear L hL)))
  | ((with_reducible refine zcc [] ?hx ?_);(case hx=>exact rfl))
  | with_reducible refine zeT ?_
  | ((with_reducible first|refine zbX ?_|refine zcr ?_);conv=>whnf)
  | (with_reducible first|refine zb8 ?_|refine zc1 ?_|refine zbn (λ R hR=>?_)|refine zbm ?_)
  | ((with_reducible have hJ:=isB hF);clear hJ;revert hF;(with_reducible first|refine G88.lend ?hx ?_|refine G96.lend ?hx ?_|refine G93.lend ?hx ?_|refine G61.lend ?hx ?_|refine G119.step ?hx ?_);(case hx=>exact rfl);intro v hF;conv=>whnf)
  | ((with_reducible have hG:=zfJ hF);clear hF;(refine zgM hG (λ q hF=>?_));clear hG;conv=>whnf)
  | ((refine zfa ?hn ?_);(case hn=>first|exact rfl|(simp;done)|(simp;omega));conv=>whnf)
  | ((with_reducible refine zgt ?hx ?_);(case hx=>first|exact rfl|assumption|exact notT (by assumption));conv=>whnf)
  | ((with_reducible refine zfK ?hx ?_);(case hx=>first|exact rfl|assumption|exact notF (by assumption));conv=>whnf)
  | ((refine⟨?hx,trivial⟩);(case hx=>(cases hF;exact rfl)))
  | with_reducible refine zeN ?_)):P:=h

end Go.Vc
