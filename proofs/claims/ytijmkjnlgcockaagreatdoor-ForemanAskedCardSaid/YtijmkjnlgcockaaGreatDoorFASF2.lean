/-
  A library for proofs about Go functions by symbolic evaluation,and plain Lean functions that the walked Go functions compute (written by a program of this claim).
-/
import Derived.Test.YtijmkjnlgcockaaGreatDoorFASF1
set_option linter.unusedVariables false
set_option linter.unnecessarySimpa false
set_option linter.unusedSimpArgs false
namespace Go.Vc
open Go.Proofs
variable {N id:Nat} {ρ:Type} {q:ρ} {xs:List SV} {m:Nat->Blk} {l:List Loc} {ds:List D} {K:Dl->List Loc->Prop} {k0 k1 k2 k3 k4 k5 k6 k7 k8 k9 k10 k11 k12 k13 k14 k15 m0 m1 m2 m3 m4 m5:Nat}
def zhU (s0:LB)(s1:LS)(s2:LE)(s3:LC)(b1300_1:List Int):Option (ByteArray) :=
 (neN b1300_1).bind λ _ =>
 (neN b1300_1).bind λ _ =>
 (some (strB b1300_1)).bind λ x6 =>
 some (x6)
def zj9 (s0:LB)(s1:LS)(s2:LE)(s3:LC):Lp ((List Int)) (Nat×Nat) (ByteArray):=lpm ⟨[3],[0,1,2,3,4,5,1300,91500],[(.cell 1300 1,91500,5,1)],[]⟩ (λ b1300_1=>zhU s0 s1 s2 s3 b1300_1) (λ _ (_,_)=>[.ptr 1300 0]) (λ b1300_1 (m0,m1)=>[.box [.ptr 1 0, .rs 2 m0], .box [.mp 3, .mp 4, .mp 5],(rW s0),(sW [4] s1),(eW s2),(mW s3), .box [.slf 1300 106, .rs 91500 m1], .row 5 1 (List.map u8N b1300_1)]) λ b1300_1=>(List.length s0,List.length b1300_1)
instance Ef23_c10 {s0 s1 s2 s3 b1300_1}:IsLp 2 1 (zhU s0 s1 s2 s3 b1300_1) (zj9 s0 s1 s2 s3) b1300_1:=⟨rfl⟩
instance Cf23_c10 {s0 s1 s2 s3}:IsCut 1 (zhU s0 s1 s2 s3) (zj9 s0 s1 s2 s3) 1000010:=⟨⟩
def zt2 (r6:Int->(List Int)->Option (ByteArray))(s0:LB)(s1:LS)(s2:LE)(s3:LC)(N:Nat)(k0:(List Int)->Option (ByteArray))(v22:Int)(b1300_1:List Int):Option (ByteArray) :=
 bif decide (v22<(List.length s0:Int)) then ((ix s0 v22).bind λ x7 =>
 (addS x7 (strC [32])).bind λ x8 =>
 (f57 N x7).bind λ x9 =>
 (addS x8 x9).bind λ x10 =>
 (addS x10 (strC [10])).bind λ x11 =>
 (some (zl x11)).bind λ x12 =>
 (app 1 b1300_1 x12).bind λ x13 =>
 r6 (W (v22+(1:Int))) x13)
 else (k0 b1300_1)
def zrf (s0:LB)(s1:LS)(s2:LE)(s3:LC)(N:Nat)(k0:(List Int)->Option (ByteArray)):Nat->Int->(List Int)->Option (ByteArray)
 | 0,_,_=>none
 | n+1,v22,b1300_1=>zt2 (zrf s0 s1 s2 s3 N k0 n) s0 s1 s2 s3 N k0 v22 b1300_1
def zt3 (s0:LB)(s1:LS)(s2:LE)(s3:LC)(N:Nat)(k0:(List Int)->Option (ByteArray)):Lp (Nat×Int×(List Int)) (Nat×Nat×Nat) (ByteArray):=lpm ⟨[3,20,21,22],[0,1,2,3,4,5,1300,91500],[(.cell 1300 1,91500,5,1)],[]⟩ (λ (n,v22,b1300_1)=>zrf s0 s1 s2 s3 N k0 n v22 b1300_1) (λ (_,v22,_) (m0,_,_)=>[.ptr 1300 0, .rs 2 m0, .dat (iN (List.length s0:Int)), .dat (iN v22)]) (λ (_,_,b1300_1) (_,m1,m2)=>[.box [.ptr 1 0, .rs 2 m1], .box [.mp 3, .mp 4, .mp 5],(rW s0),(sW [4] s1),(eW s2),(mW s3), .box [.slf 1300 106, .rs 91500 m2], .row 5 1 (List.map u8N b1300_1)]) λ (_,_,b1300_1)=>(List.length s0,List.length s0,List.length b1300_1)
instance Ef23_6 {s0 s1 s2 s3 N k0 n v22 b1300_1}:IsLp 3 2 (zrf s0 s1 s2 s3 N k0 n v22 b1300_1) (zt3 s0 s1 s2 s3 N k0) (n,v22,b1300_1):=⟨rfl⟩
def f23b (self:LB->LS->LE->LC->Option (ByteArray))(N:Nat)(s0:LB)(s1:LS)(s2:LE)(s3:LC):Option (ByteArray) :=
 (f30 N (List.length s0:Int)).bind λ x1 =>
 (addS (strC [116,117,115,99,104,101,32]) x1).bind λ x2 =>
 (addS x2 (strC [10])).bind λ x3 =>
 (some (zl x3)).bind λ x4 =>
 (app 1 [] x4).bind λ x5 =>
 zay (zhU s0 s1 s2 s3) λ k0 =>
 zrf s0 s1 s2 s3 N k0 N (0:Int) x5
def f23:Nat->LB->LS->LE->LC->Option (ByteArray)
 | 0,_,_,_,_=>none
 | N+1,s0,s1,s2,s3=>f23b (f23 N) N s0 s1 s2 s3
def Af23 (s0:LB)(s1:LS)(s2:LE)(s3:LC):List SV:=[.ptr 0 0]
def Bf23 (s0:LB)(s1:LS)(s2:LE)(s3:LC):List Blk:=[.box [.ptr 1 0, .rs 2 (List.length s0)], .box [.mp 3, .mp 4, .mp 5],(rW s0),(sW [4] s1),(eW s2),(mW s3)]
def Rf23 (y:ByteArray):List SV:=[.dat (strN y)]
def B1f23 (s0:LB)(s1:LS)(s2:LE)(s3:LC)(y:ByteArray):List Blk:=[.box [.ptr 1 0, .rs 2 (List.length s0)], .box [.mp 3, .mp 4, .mp 5],(rW s0),(sW [4] s1),(eW s2),(mW s3)]
def BZf23 (y:ByteArray):List Blk:=[]
def zrg:Spec (LB×LS×LE×LC) (ByteArray):=⟨6,[],λ x=>Af23 x.1 x.2.1 x.2.2.1 x.2.2.2,λ x=>Bf23 x.1 x.2.1 x.2.2.1 x.2.2.2,λ _ y=>Rf23 y,λ x y=>B1f23 x.1 x.2.1 x.2.2.1 x.2.2.2 y,λ _ y=>BZf23 y⟩
def H23 (N:Nat)(x:LB×LS×LE×LC)(y:ByteArray):Prop:=f23 N x.1 x.2.1 x.2.2.1 x.2.2.2=some y
def G23 (x:LB×LS×LE×LC)(y:ByteArray):Prop:=∃ N,H23 N x y
theorem G23.step {s0 s1 s2 s3}{A:_->Option ρ}(ha:xs=[.ptr k0 0])(b0:m k0 = .box [.ptr k1 0, .rs k2 m0])(b1:m k1 = .box [.mp k3, .mp k4, .mp k5])(b2:m k2=(rW s0))(b3:m k3=(sW [k4] s1))(b4:m k4=(eW s2))(b5:m k5=(mW s3))(em0:m0=List.length s0)(hu:True)(hn:zaX [k0,k1,k2,k3,k4,k5]=true)(h:∀ y,A y=some q->K ⟨.dat (strN y),[(k0, .box [.ptr k1 0, .rs k2 (List.length s0)]),(k1, .box [.mp k3, .mp k4, .mp k5]),(k2,(rW s0)),(k3,(sW [k4] s1)),(k4,(eW s2)),(k5,(mW s3))]⟩ ([Loc.b k0,Loc.b k1,Loc.b k2,Loc.b k3,Loc.b k4,Loc.b k5]++l))(hF:(f23 N s0 s1 s2 s3).bind A=some q):effPg zrg (G23) xs id (λ _=>SV.no) m l K:=by
 subst em0;obtain⟨y,hy,hA⟩:=bind_some hF;exact zaI [k0,k1,k2,k3,k4,k5] (s0,s1,s2,s3) y _ ⟨N,hy⟩ rfl hn ha (by simp only[List.map_cons,List.map_nil,b0,b1,b2,b3,b4,b5];rfl) rfl rfl rfl (h y hA)
def Srf23:Ann:=⟨[0],[0,1,2,3,4,5],[],[]⟩
def zxI:Ann:=⟨[0],[0,1,2,3,4,5],[],[]⟩

end Go.Vc
namespace Go.Vc
open Go.Proofs
variable {N id:Nat} {ρ:Type} {q:ρ} {xs:List SV} {m:Nat->Blk} {l:List Loc} {ds:List D} {K:Dl->List Loc->Prop} {k0 k1 k2 k3 k4 k5 k6 k7 k8 k9 k10 k11 k12 k13 k14 k15 m0 m1 m2 m3 m4 m5:Nat}
def zhV (N:Nat)(x18:Int×LS×LE×LC×LB)(x19:Int×ByteArray×Int)(x20:Tally×Int)(b106_1':LB):Option (Bool) :=
 bif decide (x19.2.2=(0:Int)) then (bif decide (x20.2=(0:Int)) then (bif decide (x19.1=(8:Int)) then (bif decide (x19.2.1=zaG) then (bif (decide (x20.1.Paper=(100:Int))&&(decide (x20.1.Delivered=(59:Int))&&(decide (x20.1.Spoilt=(26:Int))&&(decide (x20.1.Lost=(15:Int))&&(decide (x20.1.Rest=(0:Int))&&true))))) then ((f18 N (strC [101,100,105,116,105,111,110,32,77,97,112]) x18.2.2.2.2 x18.2.1 x18.2.2.1 x18.2.2.2.1).bind λ x21 =>
 bif decide (x21.1=(8:Int)) then ((f18 N (strC [115,116,111,110,101,32,99,32,48]) x21.2.2.2.2 x21.2.1 x21.2.2.1 x21.2.2.2.1).bind λ x22 =>
 bif decide (x22.1=(4:Int)) then ((f18 N (strC [112,114,105,110,116,32,98,32,49]) x22.2.2.2.2 x22.2.1 x22.2.2.1 x22.2.2.2.1).bind λ x23 =>
 bif decide (x23.1=(9:Int)) then ((f23 N (b106_1') [] [] []).bind λ x24 =>
 bif decide (x24=(strC [116,117,115,99,104,101,32,48,10])) then ((f18 N (strC [101,100,105,116,105,111,110,32,97]) (b106_1') [] [] []).bind λ x25 =>
 bif decide (x25.1=(0:Int)) then ((f23 N x25.2.2.2.2 x25.2.1 x25.2.2.1 x25.2.2.2.1).bind λ x26 =>
 some (decide (x26=(strC [116,117,115,99,104,101,32,49,10,101,100,105,116,105,111,110,32,97,32,52,49,55,48,54,10]))))
 else (some (false)))
 else (some (false)))
 else (some (false)))
 else (some (false)))
 else (some (false)))
 else (some (false)))
 else (some (false)))
 else (some (false)))
 else (some (false)))
 else (some (false))
def zk (N:Nat)(x18:Int×LS×LE×LC×LB)(x19:Int×ByteArray×Int)(x20:Tally×Int):Lp (LB) (Nat×Nat) (Bool):=lpm ⟨[1,5,6,7,9,10,11],[905,1813,90520,zyB,zyt,zyC,zyD,zyz,2201000100,2201000101,2201000102,2201000104,2201000106],[(.cell 2201000106 1,90520,9,1)],[]⟩ (λ b106_1' => zhV N x18 x19 x20 b106_1') (λ _ (_,_)=>[.ptr zyz 0, .dat (iN x19.2.2), .ptr 905 0, .dat (iN x20.2), .dat (iN x19.1), .dat (strN x19.2.1), .ptr 2201000106 0]) (λ b106_1' (m0,m1)=>[.box [.dat (iN x20.1.Paper), .dat (iN x20.1.Delivered), .dat (iN x20.1.Spoilt), .dat (iN x20.1.Lost), .dat (iN x20.1.Rest)],(rW x18.2.2.2.2),(rW b106_1'),(sW [zyt] x18.2.1),(eW x18.2.2.1),(mW x18.2.2.2.1), .box [.mp zyB, .mp zyt, .mp zyC], .box [.ptr zyD 0, .rs 1813 m0], .fam [2201000101] (encF strN StoneM.m []) [], .fam [] (encF strN EditionM.m []) [], .mp (encM strN bN []), .box [.mp 2201000100, .mp 2201000101, .mp 2201000102], .box [.ptr 2201000104 0, .rs 90520 m1]]) λ b106_1' => (List.length x18.2.2.2.2,List.length (b106_1'))
instance Ef14_c23 {N x18 x19 x20 b106_1'}:IsLp 2 1 (zhV N x18 x19 x20 b106_1') (zk N x18 x19 x20) b106_1':=⟨rfl⟩
instance Cf14_c23 {N x18 x19 x20}:IsCut 1 (zhV N x18 x19 x20) (zk N x18 x19 x20) 23:=⟨⟩
def zlV (N:Nat)(b106_1:LB)(b100:LS)(b101:LE)(b102:LC):Option (Bool) :=
 (f33 N (strC [109,97,112]) b106_1 b100 b101 b102).bind λ x2 =>
 (f34 N (strC [109,97,112]) b106_1 b100 b101 b102).bind λ x3 =>
 bif decide (¬ x2.2=(0:Int)) then (some (false))
 else (bif decide (¬ x3.2=(0:Int)) then (some (false))
 else ((f35 N x2.1 [(15:Int),(28:Int),(50:Int)]).bind λ x4 =>
 bif !x4 then (some (false))
 else (bif !(decide (x3.1.Paper=(100:Int))&&(decide (x3.1.Delivered=(0:Int))&&(decide (x3.1.Spoilt=(7:Int))&&(decide (x3.1.Lost=(0:Int))&&(decide (x3.1.Rest=(93:Int))&&true))))) then (some (false))
 else ((f18 N (strC [100,114,97,119,32,97,32,109,97,112]) b106_1 b100 b101 b102).bind λ x5 =>
 bif decide (¬ x5.1=(20:Int)) then (some (false))
 else ((f18 N (strC [112,114,105,110,116,32,98,32,50,57,32,48]) x5.2.2.2.2 x5.2.1 x5.2.2.1 x5.2.2.2.1).bind λ x6 =>
 bif decide (¬ x6.1=(16:Int)) then (some (false))
 else ((f18 N (strC [100,101,108,105,118,101,114,32,97,110,110,32,109,97,112,32,53,49]) x6.2.2.2.2 x6.2.1 x6.2.2.1 x6.2.2.2.1).bind λ x7 =>
 bif decide (¬ x7.1=(16:Int)) then (some (false))
 else ((f17 N (strC [103,114,105,110,100,32,98]) x7.2.2.2.2 x7.2.1 x7.2.2.1 x7.2.2.2.1).bind λ x8 =>
 bif decide (¬ x8=(12:Int)) then (some (false))
 else ((f18 N (strC [103,114,105,110,100,32,97]) x7.2.2.2.2 x7.2.1 x7.2.2.1 x7.2.2.2.1).bind λ x9 =>
 bif decide (¬ x9.1=(0:Int)) then (some (false))
 else ((f18 N (strC [112,114,105,110,116,32,97,32,49,32,48]) x9.2.2.2.2 x9.2.1 x9.2.2.1 x9.2.2.2.1).bind λ x10 =>
 bif decide (¬ x10.1=(1:Int)) then (some (false))
 else ((f18 N (strC [100,101,108,105,118,101,114,32,97,110,110,32,109,97,112,32,53,48]) x10.2.2.2.2 x10.2.1 x10.2.2.1 x10.2.2.2.1).bind λ x11 =>
 bif decide (¬ x11.1=(0:Int)) then (some (false))
 else ((f36 N (strC [97,110,110]) (strC [109,97,112]) x11.2.2.2.2 x11.2.1 x11.2.2.1 x11.2.2.2.1).bind λ x12 =>
 bif decide (¬ x12.2=(0:Int)) then (some (false))
 else (bif decide (¬ x12.1=(10:Int)) then (some (false))
 else ((f18 N (strC [112,114,105,110,116,32,98,32,57,32,49,56]) x11.2.2.2.2 x11.2.1 x11.2.2.1 x11.2.2.2.1).bind λ x13 =>
 bif decide (¬ x13.1=(0:Int)) then (some (false))
 else ((f18 N (strC [103,114,105,110,100,32,98]) x13.2.2.2.2 x13.2.1 x13.2.2.1 x13.2.2.2.1).bind λ x14 =>
 bif decide (¬ x14.1=(12:Int)) then (some (false))
 else ((f18 N (strC [112,114,105,110,116,32,98,32,48,32,49]) x14.2.2.2.2 x14.2.1 x14.2.2.1 x14.2.2.2.1).bind λ x15 =>
 bif decide (¬ x15.1=(0:Int)) then (some (false))
 else ((f40 N (strC [109,97,112]) x15.2.2.2.2 x15.2.1 x15.2.2.1 x15.2.2.2.1).bind λ x16 =>
 bif decide (¬ x16.2=(0:Int)) then (some (false))
 else (bif decide (¬ x16.1=(1:Int)) then (some (false))
 else ((f18 N (strC [103,114,105,110,100,32,98]) x15.2.2.2.2 x15.2.1 x15.2.2.1 x15.2.2.2.1).bind λ x17 =>
 bif decide (¬ x17.1=(0:Int)) then (some (false))
 else ((f18 N (strC [100,101,108,105,118,101,114,32,97,110,110,32,109,97,112,32,57]) x17.2.2.2.2 x17.2.1 x17.2.2.1 x17.2.2.2.1).bind λ x18 =>
 bif decide (¬ x18.1=(0:Int)) then (some (false))
 else ((f32 N (strC [98]) x18.2.2.2.2 x18.2.1 x18.2.2.1 x18.2.2.2.1).bind λ x19 =>
 (f34 N (strC [109,97,112]) x18.2.2.2.2 x18.2.1 x18.2.2.1 x18.2.2.2.1).bind λ x20 =>
 zay (zhV N x18 x19 x20) λ k0 =>
 k0 []))))))))))))))))))))
def zm7 (N:Nat):Lp (LB×LS×LE×LC) (Nat×Unit) (Bool):=lpm ⟨[1],[90500,zyB,zyt,zyC,zyD,zyz],[(.cell zyz 1,90500,9,1)],[]⟩ (λ (b106_1,b100,b101,b102)=>zlV N b106_1 b100 b101 b102) (λ (_,_,_,_) (_,_)=>[.ptr zyz 0]) (λ (b106_1,b100,b101,b102) (m0,_)=>[(rW b106_1),(sW [zyt] b100),(eW b101),(mW b102), .box [.mp zyB, .mp zyt, .mp zyC], .box [.ptr zyD 0, .rs 90500 m0]]) λ (b106_1,_,_,_)=>(List.length b106_1,())
instance Ef14_c8 {N b106_1 b100 b101 b102}:IsLp 1 4 (zlV N b106_1 b100 b101 b102) (zm7 N) (b106_1,b100,b101,b102):=⟨rfl⟩
instance Cf14_c8 {N}:IsCut 4 (zlV N) (zm7 N) 8:=⟨⟩
def ziQ (N:Nat)(x1:LB)(v3:Int)(b106_1:LB)(b100:LS)(b101:LE)(b102:LC)(r4:Int->LB->LS->LE->LC->Option (Bool)):Option (Bool) :=
 (ix x1 v3).bind λ x27 =>
 (f18 N x27 b106_1 b100 b101 b102).bind λ x28 =>
 bif decide (¬ x28.1=(0:Int)) then (some (false))
 else (r4 (W (v3+(1:Int))) x28.2.2.2.2 x28.2.1 x28.2.2.1 x28.2.2.2.1)
def zm8 (N:Nat)(x1:LB)(v3:Int)(b106_1:LB)(b100:LS)(b101:LE)(b102:LC)(r4:Int->LB->LS->LE->LC->Option (Bool)):Lp (Unit) (Nat×Unit) (Bool):=lpm ⟨[1,2,3],[90500,zyB,zyt,zyC,zyD,zyz],[],[]⟩ (λ _=>ziQ N x1 v3 b106_1 b100 b101 b102 r4) (λ _ (_,_)=>[.ptr zyz 0, .dat (zaq x1), .dat (iN v3)]) (λ _ (m0,_)=>[(rW b106_1),(sW [zyt] b100),(eW b101),(mW b102), .box [.mp zyB, .mp zyt, .mp zyC], .box [.ptr zyD 0, .rs 90500 m0]]) λ _=>(List.length b106_1,())
instance Ef14_c6 {N x1 v3 b106_1 b100 b101 b102 r4}:IsLp 1 0 (ziQ N x1 v3 b106_1 b100 b101 b102 r4) (zm8 N x1 v3 b106_1 b100 b101 b102 r4) ():=⟨rfl⟩
instance Cf14_c6 {N x1 v3 b106_1 b100 b101 b102 r4}:IsCut 0 (ziQ N x1 v3 b106_1 b100 b101 b102 r4) (zm8 N x1 v3 b106_1 b100 b101 b102 r4) 6:=⟨⟩
def zt4 (r4:Int->LB->LS->LE->LC->Option (Bool))(N:Nat)(x1:LB)(k1:LB->LS->LE->LC->Option (Bool))(v3:Int)(b106_1:LB)(b100:LS)(b101:LE)(b102:LC):Option (Bool) :=
 zay (ziQ N x1 v3 b106_1 b100 b101 b102 r4) λ k2 =>
 bif decide (v3<(List.length x1:Int)) then k2
 else (k1 b106_1 b100 b101 b102)
def zrh (N:Nat)(x1:LB)(k1:LB->LS->LE->LC->Option (Bool)):Nat->Int->LB->LS->LE->LC->Option (Bool)
 | 0,_,_,_,_,_=>none
 | n+1,v3,b106_1,b100,b101,b102=>zt4 (zrh N x1 k1 n) N x1 k1 v3 b106_1 b100 b101 b102
def zt5 (N:Nat)(x1:LB)(k1:LB->LS->LE->LC->Option (Bool)):Lp (Nat×Int×LB×LS×LE×LC) (Nat×Unit) (Bool):=lpm ⟨[1,2,3],[90500,zyB,zyt,zyC,zyD,zyz],[(.cell zyz 1,90500,9,1)],[]⟩ (λ (n,v3,b106_1,b100,b101,b102)=>zrh N x1 k1 n v3 b106_1 b100 b101 b102) (λ (_,v3,_,_,_,_) (_,_)=>[.ptr zyz 0, .dat (zaq x1), .dat (iN v3)]) (λ (_,_,b106_1,b100,b101,b102) (m0,_)=>[(rW b106_1),(sW [zyt] b100),(eW b101),(mW b102), .box [.mp zyB, .mp zyt, .mp zyC], .box [.ptr zyD 0, .rs 90500 m0]]) λ (_,_,b106_1,_,_,_)=>(List.length b106_1,())
instance Ef14_4 {N x1 k1 n v3 b106_1 b100 b101 b102}:IsLp 1 5 (zrh N x1 k1 n v3 b106_1 b100 b101 b102) (zt5 N x1 k1) (n,v3,b106_1,b100,b101,b102):=⟨rfl⟩
def f14 (N:Nat):Option (Bool) :=
 (f44 N ).bind λ x1 =>
 zay (zlV N) λ k1 =>
 zrh N x1 k1 N (0:Int) [] [] [] []
def G14 (ds:List D)(d:D):Prop:=∃ (N:Nat) (r:Bool),ds=[]/\f14 N  = some r/\d=bN r
theorem G14.lend {A:_->Option ρ}{K:D->Prop}(hd:ds=[])(h:∀ r,A r=some q->K (bN r))(hF:(f14 N ).bind A=some q):∃ d,(G14 ds d/\d.flatB=true)/\K d:=by
 obtain⟨r,hr,hA⟩:=bind_some hF;exact⟨_,⟨⟨N,r,hd,hr,rfl⟩,rfl⟩,h r hA⟩

end Go.Vc
namespace Go.Vc
open Go.Proofs
variable {N id:Nat} {ρ:Type} {q:ρ} {xs:List SV} {m:Nat->Blk} {l:List Loc} {ds:List D} {K:Dl->List Loc->Prop} {k0 k1 k2 k3 k4 k5 k6 k7 k8 k9 k10 k11 k12 k13 k14 k15 m0 m1 m2 m3 m4 m5:Nat}
def zaD (a1:ByteArray)(a2:ByteArray)(a3:ByteArray)(a4:Int)(N:Nat)(b106_1:LB)(b101_1:LB)(b100:LS)(b101:LE)(b102:LC)(b106_1':LB)(b100':LS)(b101':LE)(b102':LC):Option (Bool) :=
 (f55 N (BookM.mk true b101_1)).bind λ x14 =>
 bif x14 then (some (false))
 else ((f71 N a4 (0:Int) (List.length b101_1:Int)).bind λ x15 =>
 bif !x15 then (some (false))
 else ((vw b101_1 a4).bind λ x16 =>
 (app 16 [] (List.take x16 b101_1)).bind λ x17 =>
 (f21 N (b106_1') (b100') (b101') (b102')).bind λ x18 =>
 (f55 N (BookM.mk true x17)).bind λ x19 =>
 bif x19 then ((f20 N x18 []).bind λ x20 =>
 bif x20 then ((f37 N a1 a2 a3 true (b106_1') x17 (b100') (b101') (b102')).bind λ x21 =>
 bif x21 then ((f14 N ).bind λ x22 =>
 some (x22))
 else (some (false)))
 else (some (false)))
 else ((app 16 [] x17).bind λ x23 =>
 (f20 N x18 x23).bind λ x24 =>
 bif x24 then ((f37 N a1 a2 a3 true (b106_1') x17 (b100') (b101') (b102')).bind λ x25 =>
 bif x25 then ((f14 N ).bind λ x26 =>
 some (x26))
 else (some (false)))
 else (some (false)))))
def zbH (a1:ByteArray)(a2:ByteArray)(a3:ByteArray)(a4:Int)(N:Nat)(b106_1:LB)(b101_1:LB)(b100:LS)(b101:LE)(b102:LC):Lp (LB×LS×LE×LC) (Nat×Nat×Nat) (Bool):=lpm ⟨[4],[90500,90520,zyu,zys,zyv,zyw,zyx,zyy,zyE,zyH,zyA,zyI,zyJ,zyF],[(.cell zyF 1,zyE,9,1)],[90520]⟩ (λ (b106_1',b100',b101',b102')=>zaD a1 a2 a3 a4 N b106_1 b101_1 b100 b101 b102 b106_1' b100' b101' b102') (λ (_,_,_,_) (_,_,_)=>[.ptr zyF 0]) (λ (b106_1',b100',b101',b102') (m0,m1,m2)=>[(rW b106_1), .fz 9 1 (List.map strN b101_1),(sW [zys] b100),(eW b101),(mW b102), .box [.mp zyu, .mp zys, .mp zyv], .box [.ptr zyw 0, .rs 90500 m0], .box [.kb true, .rs 90520 m1],(rW b106_1'),(sW [zyA] b100'),(eW b101'),(mW b102'), .box [.mp zyH, .mp zyA, .mp zyI], .box [.ptr zyJ 0, .rs zyE m2]]) λ (b106_1',_,_,_)=>(List.length b106_1,List.length b101_1,List.length (b106_1'))
instance ziR {a1 a2 a3 a4 N b106_1 b101_1 b100 b101 b102 b106_1' b100' b101' b102'}:IsLp 3 4 (zaD a1 a2 a3 a4 N b106_1 b101_1 b100 b101 b102 b106_1' b100' b101' b102') (zbH a1 a2 a3 a4 N b106_1 b101_1 b100 b101 b102) (b106_1',b100',b101',b102'):=⟨rfl⟩
instance ziS {a1 a2 a3 a4 N b106_1 b101_1 b100 b101 b102}:IsCut 4 (zaD a1 a2 a3 a4 N b106_1 b101_1 b100 b101 b102) (zbH a1 a2 a3 a4 N b106_1 b101_1 b100 b101 b102) 1303000507000000009:=⟨⟩
def zaT (a4:Int)(N:Nat)(b106_1:LB)(b101_1:LB)(b100:LS)(b101:LE)(b102:LC)(x13:Nat)(v11:Int)(b106_1':LB)(b100':LS)(b101':LE)(b102':LC)(r3:Int->LB->LS->LE->LC->Option (Bool))(l6:ByteArray):Option (Bool) :=
 (f18 N l6 (b106_1') (b100') (b101') (b102')).bind λ x27 =>
 bif decide (¬ x27.1=(0:Int)) then ((f55 N (BookM.mk true b101_1)).bind λ x28 =>
 bif x28 then (bif decide (¬ x27.1=(11:Int)) then (some (false))
 else ((f14 N ).bind λ x29 =>
 some (x29)))
 else ((f71 N a4 (0:Int) (List.length b101_1:Int)).bind λ x30 =>
 bif !x30 then (bif decide (¬ x27.1=(4:Int)) then (some (false))
 else ((f14 N ).bind λ x31 =>
 some (x31)))
 else ((vw b101_1 a4).bind λ x32 =>
 (app 16 [] (List.take x32 b101_1)).bind λ x33 =>
 some (false))))
 else (r3 (W (v11+(1:Int))) x27.2.2.2.2 x27.2.1 x27.2.2.1 x27.2.2.2.1)
def zbI (a4:Int)(N:Nat)(b106_1:LB)(b101_1:LB)(b100:LS)(b101:LE)(b102:LC)(x13:Nat)(v11:Int)(b106_1':LB)(b100':LS)(b101':LE)(b102':LC)(r3:Int->LB->LS->LE->LC->Option (Bool)):Lp (ByteArray) (Nat×Nat×Nat) (Bool):=lpm ⟨[4,6,9,10,11],[90500,90520,zyu,zys,zyv,zyw,zyx,zyy,zyE,zyH,zyA,zyI,zyJ,zyF],[],[90520]⟩ (λ l6=>zaT a4 N b106_1 b101_1 b100 b101 b102 x13 v11 b106_1' b100' b101' b102' r3 l6) (λ l6 (_,_,_)=>[.ptr zyF 0, .dat (strN l6), .rs 90500 x13, .dat (iN (x13:Int)), .dat (iN v11)]) (λ _ (m0,m1,m2)=>[(rW b106_1), .fz 9 1 (List.map strN b101_1),(sW [zys] b100),(eW b101),(mW b102), .box [.mp zyu, .mp zys, .mp zyv], .box [.ptr zyw 0, .rs 90500 m0], .box [.kb true, .rs 90520 m1],(rW b106_1'),(sW [zyA] b100'),(eW b101'),(mW b102'), .box [.mp zyH, .mp zyA, .mp zyI], .box [.ptr zyJ 0, .rs zyE m2]]) λ _=>(List.length b106_1,List.length b101_1,List.length (b106_1'))
instance ziT {a4 N b106_1 b101_1 b100 b101 b102 x13 v11 b106_1' b100' b101' b102' r3 l6}:IsLp 3 1 (zaT a4 N b106_1 b101_1 b100 b101 b102 x13 v11 b106_1' b100' b101' b102' r3 l6) (zbI a4 N b106_1 b101_1 b100 b101 b102 x13 v11 b106_1' b100' b101' b102' r3) l6:=⟨rfl⟩
instance ziU {a4 N b106_1 b101_1 b100 b101 b102 x13 v11 b106_1' b100' b101' b102' r3}:IsCut 1 (zaT a4 N b106_1 b101_1 b100 b101 b102 x13 v11 b106_1' b100' b101' b102' r3) (zbI a4 N b106_1 b101_1 b100 b101 b102 x13 v11 b106_1' b100' b101' b102' r3) 1303000507000000005:=⟨⟩
def zbg (r3:Int->LB->LS->LE->LC->Option (Bool))(a4:Int)(N:Nat)(b106_1:LB)(b101_1:LB)(b100:LS)(b101:LE)(b102:LC)(x13:Nat)(k0:LB->LS->LE->LC->Option (Bool))(v11:Int)(b106_1':LB)(b100':LS)(b101':LE)(b102':LC):Option (Bool) :=
 bif decide (v11<(x13:Int)) then (zay (zaT a4 N b106_1 b101_1 b100 b101 b102 x13 v11 b106_1' b100' b101' b102' r3) λ k1 =>
 (ixV b106_1 x13 v11).bind λ x34 =>
 k1 x34)
 else (k0 (b106_1') (b100') (b101') (b102'))
def zaA (a4:Int)(N:Nat)(b106_1:LB)(b101_1:LB)(b100:LS)(b101:LE)(b102:LC)(x13:Nat)(k0:LB->LS->LE->LC->Option (Bool)):Nat->Int->LB->LS->LE->LC->Option (Bool)
 | 0,_,_,_,_,_=>none
 | n+1,v11,b106_1',b100',b101',b102' => zbg (zaA a4 N b106_1 b101_1 b100 b101 b102 x13 k0 n) a4 N b106_1 b101_1 b100 b101 b102 x13 k0 v11 b106_1' b100' b101' b102'
def zco (a4:Int)(N:Nat)(b106_1:LB)(b101_1:LB)(b100:LS)(b101:LE)(b102:LC)(x13:Nat)(k0:LB->LS->LE->LC->Option (Bool)):Lp (Nat×Int×LB×LS×LE×LC) (Nat×Nat×Nat) (Bool):=lpm ⟨[4,9,10,11],[90500,90520,zyu,zys,zyv,zyw,zyx,zyy,zyE,zyH,zyA,zyI,zyJ,zyF],[(.cell zyF 1,zyE,9,1)],[90520]⟩ (λ (n,v11,b106_1',b100',b101',b102')=>zaA a4 N b106_1 b101_1 b100 b101 b102 x13 k0 n v11 b106_1' b100' b101' b102') (λ (_,v11,_,_,_,_) (_,_,_)=>[.ptr zyF 0, .rs 90500 x13, .dat (iN (x13:Int)), .dat (iN v11)]) (λ (_,_,b106_1',b100',b101',b102') (m0,m1,m2)=>[(rW b106_1), .fz 9 1 (List.map strN b101_1),(sW [zys] b100),(eW b101),(mW b102), .box [.mp zyu, .mp zys, .mp zyv], .box [.ptr zyw 0, .rs 90500 m0], .box [.kb true, .rs 90520 m1],(rW b106_1'),(sW [zyA] b100'),(eW b101'),(mW b102'), .box [.mp zyH, .mp zyA, .mp zyI], .box [.ptr zyJ 0, .rs zyE m2]]) λ (_,_,b106_1',_,_,_)=>(List.length b106_1,List.length b101_1,List.length (b106_1'))
instance zka {a4 N b106_1 b101_1 b100 b101 b102 x13 k0 n v11 b106_1' b100' b101' b102'}:IsLp 3 5 (zaA a4 N b106_1 b101_1 b100 b101 b102 x13 k0 n v11 b106_1' b100' b101' b102') (zco a4 N b106_1 b101_1 b100 b101 b102 x13 k0) (n,v11,b106_1',b100',b101',b102'):=⟨rfl⟩
def zfZ (a1:ByteArray)(a2:ByteArray)(a3:ByteArray)(a4:Int)(N:Nat)(b106_1:LB)(b101_1:LB)(b100:LS)(b101:LE)(b102:LC):Option (Bool) :=
 (f37 N a1 a2 a3 true b106_1 b101_1 b100 b101 b102).bind λ x2 =>
 bif !x2 then (some (false))
 else (bif decide (a4<(0:Int)) then ((f55 N (BookM.mk true b101_1)).bind λ x3 =>
 bif x3 then (some (false))
 else ((f71 N a4 (0:Int) (List.length b101_1:Int)).bind λ x4 =>
 bif !x4 then ((f14 N ).bind λ x5 =>
 some (x5))
 else ((vw b101_1 a4).bind λ x6 =>
 (app 16 [] (List.take x6 b101_1)).bind λ x7 =>
 some (false))))
 else (bif decide ((List.length b106_1:Int)<a4) then ((f55 N (BookM.mk true b101_1)).bind λ x8 =>
 bif x8 then (some (false))
 else ((f71 N a4 (0:Int) (List.length b101_1:Int)).bind λ x9 =>
 bif !x9 then ((f14 N ).bind λ x10 =>
 some (x10))
 else ((vw b101_1 a4).bind λ x11 =>
 (app 16 [] (List.take x11 b101_1)).bind λ x12 =>
 some (false))))
 else ((vw b106_1 a4).bind λ x13 =>
 zay (zaD a1 a2 a3 a4 N b106_1 b101_1 b100 b101 b102) λ k0 =>
 zaA a4 N b106_1 b101_1 b100 b101 b102 x13 k0 N (0:Int) [] [] [] [])))
def zm9 (a1:ByteArray)(a2:ByteArray)(a3:ByteArray)(a4:Int)(N:Nat):Lp (LB×LB×LS×LE×LC) (Nat×Nat) (Bool):=lpm ⟨[1,2,3,4,11,12],[90500,90520,zyu,zys,zyv,zyw,zyx,zyy],[(.cell zyx 1,90500,9,1),(.cell zyy 1,90520,9,1)],[]⟩ (λ (b106_1,b101_1,b100,b101,b102)=>zfZ a1 a2 a3 a4 N b106_1 b101_1 b100 b101 b102) (λ (_,_,_,_,_) (_,_)=>[.dat (strN a1), .dat (strN a2), .dat (strN a3), .dat (iN a4), .ptr zyx 0, .ptr zyy 0]) (λ (b106_1,b101_1,b100,b101,b102) (m0,m1)=>[(rW b106_1),(rW b101_1),(sW [zys] b100),(eW b101),(mW b102), .box [.mp zyu, .mp zys, .mp zyv], .box [.ptr zyw 0, .rs 90500 m0], .box [.kb true, .rs 90520 m1]]) λ (b106_1,b101_1,_,_,_)=>(List.length b106_1,List.length b101_1)
instance Ef5_c11 {a1 a2 a3 a4 N b106_1 b101_1 b100 b101 b102}:IsLp 2 5 (zfZ a1 a2 a3 a4 N b106_1 b101_1 b100 b101 b102) (zm9 a1 a2 a3 a4 N) (b106_1,b101_1,b100,b101,b102):=⟨rfl⟩
instance Cf5_c11 {a1 a2 a3 a4 N}:IsCut 5 (zfZ a1 a2 a3 a4 N) (zm9 a1 a2 a3 a4 N) 11:=⟨⟩
def zn (a0:LB)(a1:ByteArray)(a2:ByteArray)(a3:ByteArray)(a4:Int)(N:Nat)(v13:Int)(b106_1:LB)(b101_1:LB)(b100:LS)(b101:LE)(b102:LC)(r5:Int->LB->LB->LS->LE->LC->Option (Bool)):Option (Bool) :=
 (ix a0 v13).bind λ x35 =>
 (f18 N x35 b106_1 b100 b101 b102).bind λ x36 =>
 (ix a0 v13).bind λ x37 =>
 (f19 N x37 true b101_1).bind λ x38 =>
 bif decide (¬ x36.1=x38.1) then (some (false))
 else (r5 (W (v13+(1:Int))) x36.2.2.2.2 x38.2 x36.2.1 x36.2.2.1 x36.2.2.2.1)
def zri (a0:LB)(a1:ByteArray)(a2:ByteArray)(a3:ByteArray)(a4:Int)(N:Nat)(v13:Int)(b106_1:LB)(b101_1:LB)(b100:LS)(b101:LE)(b102:LC)(r5:Int->LB->LB->LS->LE->LC->Option (Bool)):Lp (Unit) (Nat×Nat) (Bool):=lpm ⟨[0,1,2,3,4,11,12,13],[90500,90520,zyu,zys,zyv,zyw,zyx,zyy],[],[]⟩ (λ _=>zn a0 a1 a2 a3 a4 N v13 b106_1 b101_1 b100 b101 b102 r5) (λ _ (_,_)=>[.dat (zaq a0), .dat (strN a1), .dat (strN a2), .dat (strN a3), .dat (iN a4), .ptr zyx 0, .ptr zyy 0, .dat (iN v13)]) (λ _ (m0,m1)=>[(rW b106_1),(rW b101_1),(sW [zys] b100),(eW b101),(mW b102), .box [.mp zyu, .mp zys, .mp zyv], .box [.ptr zyw 0, .rs 90500 m0], .box [.kb true, .rs 90520 m1]]) λ _=>(List.length b106_1,List.length b101_1)
instance Ef5_c9 {a0 a1 a2 a3 a4 N v13 b106_1 b101_1 b100 b101 b102 r5}:IsLp 2 0 (zn a0 a1 a2 a3 a4 N v13 b106_1 b101_1 b100 b101 b102 r5) (zri a0 a1 a2 a3 a4 N v13 b106_1 b101_1 b100 b101 b102 r5) ():=⟨rfl⟩
instance Cf5_c9 {a0 a1 a2 a3 a4 N v13 b106_1 b101_1 b100 b101 b102 r5}:IsCut 0 (zn a0 a1 a2 a3 a4 N v13 b106_1 b101_1 b100 b101 b102 r5) (zri a0 a1 a2 a3 a4 N v13 b106_1 b101_1 b100 b101 b102 r5) 9:=⟨⟩
def zt (r5:Int->LB->LB->LS->LE->LC->Option (Bool))(a0:LB)(a1:ByteArray)(a2:ByteArray)(a3:ByteArray)(a4:Int)(N:Nat)(k2:LB->LB->LS->LE->LC->Option (Bool))(v13:Int)(b106_1:LB)(b101_1:LB)(b100:LS)(b101:LE)(b102:LC):Option (Bool) :=
 bif decide (v13<(List.length a0:Int)) then (zay (zn a0 a1 a2 a3 a4 N v13 b106_1 b101_1 b100 b101 b102 r5) λ k3 =>
 (ix a0 v13).bind λ x39 =>
 bif decide ((100:Int)<(ByteArray.size x39:Int)) then ((f14 N ).bind λ x40 =>
 some (x40))
 else k3)
 else (k2 b106_1 b101_1 b100 b101 b102)
def f5_5 (a0:LB)(a1:ByteArray)(a2:ByteArray)(a3:ByteArray)(a4:Int)(N:Nat)(k2:LB->LB->LS->LE->LC->Option (Bool)):Nat->Int->LB->LB->LS->LE->LC->Option (Bool)
 | 0,_,_,_,_,_,_=>none
 | n+1,v13,b106_1,b101_1,b100,b101,b102=>zt (f5_5 a0 a1 a2 a3 a4 N k2 n) a0 a1 a2 a3 a4 N k2 v13 b106_1 b101_1 b100 b101 b102
def zxJ (a0:LB)(a1:ByteArray)(a2:ByteArray)(a3:ByteArray)(a4:Int)(N:Nat)(k2:LB->LB->LS->LE->LC->Option (Bool)):Lp (Nat×Int×LB×LB×LS×LE×LC) (Nat×Nat) (Bool):=lpm ⟨[0,1,2,3,4,11,12,13],[90500,90520,zyu,zys,zyv,zyw,zyx,zyy],[(.cell zyx 1,90500,9,1),(.cell zyy 1,90520,9,1)],[]⟩ (λ (n,v13,b106_1,b101_1,b100,b101,b102)=>f5_5 a0 a1 a2 a3 a4 N k2 n v13 b106_1 b101_1 b100 b101 b102) (λ (_,v13,_,_,_,_,_) (_,_)=>[.dat (zaq a0), .dat (strN a1), .dat (strN a2), .dat (strN a3), .dat (iN a4), .ptr zyx 0, .ptr zyy 0, .dat (iN v13)]) (λ (_,_,b106_1,b101_1,b100,b101,b102) (m0,m1)=>[(rW b106_1),(rW b101_1),(sW [zys] b100),(eW b101),(mW b102), .box [.mp zyu, .mp zys, .mp zyv], .box [.ptr zyw 0, .rs 90500 m0], .box [.kb true, .rs 90520 m1]]) λ (_,_,b106_1,b101_1,_,_,_)=>(List.length b106_1,List.length b101_1)
instance Ef5_5 {a0 a1 a2 a3 a4 N k2 n v13 b106_1 b101_1 b100 b101 b102}:IsLp 2 6 (f5_5 a0 a1 a2 a3 a4 N k2 n v13 b106_1 b101_1 b100 b101 b102) (zxJ a0 a1 a2 a3 a4 N k2) (n,v13,b106_1,b101_1,b100,b101,b102):=⟨rfl⟩
def f5 (N:Nat)(a0:LB)(a1:ByteArray)(a2:ByteArray)(a3:ByteArray)(a4:Int):Option (Bool) :=
 bif decide ((100:Int)<(List.length a0:Int)) then ((f14 N ).bind λ x1 =>
 some (x1))
 else (zay (zfZ a1 a2 a3 a4 N) λ k2 =>
 f5_5 a0 a1 a2 a3 a4 N k2 N (0:Int) [] [] [] [] [])
def G5 (ds:List D)(d:D):Prop:=∃ (N:Nat) (a0:LB) (a1:ByteArray) (a2:ByteArray) (a3:ByteArray) (a4:Int) (r:Bool),ds=[zaq a0,strN a1,strN a2,strN a3,iN a4]/\f5 N a0 a1 a2 a3 a4=some r/\d=bN r

end Go.Vc
namespace Go.Vc
open Go.Proofs
set_option maxRecDepth 20000 in
theorem wk2 {P:Prop}(h:P:=by repeat' (first
  | ((with_reducible first|refine q0 _ _ ?_|refine q1 _ _ _ _ ?_|refine q2 _ _ _ ?_);clear Q q0 q1 q2)
  | ((with_reducible first|refine zdc ?hx (λ Q q0 q1 q2=>?_)|refine zds ?hx (λ Q q0 q1 q2=>?_)|refine zdN ?hx (λ Q q0 q1 q2=>?_)|refine zeB ?hx (λ Q q0 q1 q2=>?_));(case hx=>exact rfl);conv=>whnf)
  | ((with_reducible refine zd5 ?_);(first|((first|refine zeg rfl ?hy (λ Q q0 q1 q2=>?_)|refine zdk rfl ?hy (λ Q q0 q1 q2=>?_));(case hy=>first|assumption|exact notT (by assumption)|exact rfl);conv=>whnf)|((first|refine zdj rfl ?hy ?_|refine zcH rfl ?hy ?_);(case hy=>first|assumption|exact notF (by assumption)|exact rfl))|(revert hF;(with_reducible first|refine zeh ?hx ?_ ?_|refine zdl ?hx ?_ ?_);(case hx=>exact rfl);(intro hc hF Q q0 q1 q2;conv=>whnf);rotate_left;(intro hc hF);rotate_right)|(revert hF;(with_reducible first|refine zei ?hx ?_ ?_|refine zdm ?hx ?_ ?_);(case hx=>exact rfl);(intro hc hF);rotate_left;(intro hc hF Q q0 q1 q2;conv=>whnf);rotate_right)))
  | ((with_reducible refine zc4 ?_);(first|((refine zec rfl ?hy ?_);(case hy=>first|assumption|exact notT (by assumption)|exact rfl))|((refine zed rfl ?hy ?_);(case hy=>first|assumption|exact notF (by assumption)|exact rfl))|(revert hF;(with_reducible refine zhn ?hx ?_ ?_);(case hx=>exact rfl);all_goals (intro hc hF))))
  | ((with_reducible refine zaJ ?_);(with_reducible have hG:=zbX hF);(refine zel 90540 603001115 hG rfl rfl (by assumption) (by exact rfl) (by first|exact rfl|assumption|(symm;assumption)|omega) (by exact rfl) (λ q hq hF1=>?_));clear hG hF;(have hF:=hF1);clear hF1;(first|((with_reducible refine hR _ ?_);clear R hR)|((with_reducible refine hL _ ?_);clear L hL)))
  | ((with_reducible refine zd5 ?_);(refine zgF zyu zys (ks:=[]) rfl rfl ?_);dsimp only[St.kid];(first|((with_reducible refine hR _ ?_);clear R hR)|((with_reducible refine hL _ ?_);clear L hL)))
  | ((with_reducible refine zaJ ?_);(with_reducible have hG:=zbX hF);(refine zel 90540 603001505 hG rfl rfl (by assumption) (by exact rfl) (by first|exact rfl|assumption|(symm;assumption)|omega) (by exact rfl) (λ q hq hF1=>?_));clear hG hF;(have hF:=hF1);clear hF1;(first|((with_reducible refine hR _ ?_);clear R hR)|((with_reducible refine hL _ ?_);clear L hL)))
  | ((with_reducible refine zd5 ?_);(refine zgF zyH zyA (ks:=[]) rfl rfl ?_);dsimp only[St.kid];(first|((with_reducible refine hR _ ?_);clear R hR)|((with_reducible refine hL _ ?_);clear L hL)))
  | ((with_reducible refine zaJ ?_);(with_reducible have hG:=zbX hF);(refine zel 90540 603001905 hG rfl rfl (by assumption) (by exact rfl) (by first|exact rfl|assumption|(symm;assumption)|omega) (by exact rfl) (λ q hq hF1=>?_));clear hG hF;(have hF:=hF1);clear hF1;(first|((with_reducible refine hR _ ?_);clear R hR)|((with_reducible refine hL _ ?_);clear L hL)))
  | ((with_reducible refine zaJ ?_);(with_reducible have hG:=zbX hF);(refine zel 90540 603002005 hG rfl rfl (by assumption) (by exact rfl) (by first|exact rfl|assumption|(symm;assumption)|omega) (by exact rfl) (λ q hq hF1=>?_));clear hG hF;(have hF:=hF1);clear hF1;(first|((with_reducible refine hR _ ?_);clear R hR)|((with_reducible refine hL _ ?_);clear L hL)))
  | ((with_reducible refine zaJ ?_);(with_reducible have hG:=zbX hF);(refine zel 90540 603003399 hG rfl rfl (by assumption) (by exact rfl) (by first|exact rfl|assumption|(symm;assumption)|omega) (by exact rfl) (λ q hq hF1=>?_));clear hG hF;(have hF:=hF1);clear hF1;(first|((with_reducible refine hR _ ?_);clear R hR)|((with_reducible refine hL _ ?_);clear L hL)))
  | ((with_reducible refine ztw ?_);(refine ztK 603001299 rfl ?_);(with_reducible have hG:=zqF hF);clear hF;(obtain⟨x,hx,hF⟩:=hG);(refine zwe 90540 603001299 2 rfl rfl hx (by exact rfl) rfl rfl (λ R L hL hR=>?_));dsimp only[St.takenS])
  | ((with_reducible refine ztw ?_);(refine ztK 603003399 rfl ?_);(with_reducible have hG:=zqF hF);clear hF;(obtain⟨x,hx,hF⟩:=hG);(refine zwe 90540 603003399 2 rfl rfl hx (by exact rfl) rfl rfl (λ R L hL hR=>?_));dsimp only[St.takenS])
  | ((with_reducible refine zcc ?_);(first|((with_reducible refine hR _ ?_);clear R hR)|((with_reducible refine hL _ ?_);clear L hL)))
  | ((with_reducible refine zcv ?_);(with_reducible refine hR _ _ ?hx ?_);(case hx=>kernel_rfl);clear R hR)
  | ((with_reducible first|refine zbR ?_|refine zcg ?_|refine idx2 (by assumption) ?_|refine idx3 (by assumption) ?_);conv=>whnf)
  | (with_reducible first|refine zb0 ?_|refine zcb ?_|refine zdb ?_|refine zcK ?_|refine zbt (λ R hR=>?_)|refine zbs ?_|refine zbp ?_|refine zgY ?_|refine zbO ?_|refine zbB ?_|refine zcs ?_|refine zb3 ?_)
  | ((with_reducible refine zdr ?hx (λ R L hL hR=>?_));(case hx=>exact rfl))
  | ((with_reducible replace hF:=isE hF);(dsimp only[zhC,zjC,zqS,zgx,zhJ,zhK,zn2,zq1,zhL,zlR,zjS,zq3,zjU,zjV,zjW,zq4,zjY,zq5,ze7,zgB,zfX,zm3,zd0,zew,ztZ,zfY,zj7,zr,zlS,zbH,zbI,zco,zm9,zri,zxJ,zaA,f5_5] at hF);first|((with_reducible replace hF:=chkE (e:=zer ..) hF);rewrite[zer] at hF)|((with_reducible replace hF:=chkE (e:=zfn ..) hF);rewrite[zfn] at hF)|((with_reducible replace hF:=chkE (e:=zfp ..) hF);rewrite[zfp] at hF)|((with_reducible replace hF:=chkE (e:=zn ..) hF);rewrite[zn] at hF)|rewrite[zeP] at hF|rewrite[zjD] at hF|rewrite[zfU] at hF|rewrite[zfV] at hF|rewrite[zn1] at hF|rewrite[zq0] at hF|rewrite[zjT] at hF|rewrite[zfo] at hF|rewrite[zhN] at hF|rewrite[zjX] at hF|rewrite[zfq] at hF|rewrite[zjZ] at hF|rewrite[zhQ] at hF|rewrite[zbJ] at hF|rewrite[zaY] at hF|rewrite[ziP] at hF|rewrite[zhS] at hF|rewrite[zq9] at hF|rewrite[zaD] at hF|rewrite[zaT] at hF|rewrite[zbg] at hF|rewrite[zfZ] at hF|rewrite[zt] at hF)
  | ((with_reducible refine zef ?_);first|((with_reducible replace hF:=toLp 1 1 hF);exact Lp.backI hF (_,()) ⟨_,rfl,rfl,rfl,rfl⟩ (pr2 (by first|exact rfl|assumption|omega|(simp only[List.length_set];done)) rfl))|((with_reducible replace hF:=toLp 1 2 hF);exact Lp.backI hF (_,()) ⟨_,rfl,rfl,rfl,rfl⟩ (pr2 (by first|exact rfl|assumption|omega|(simp only[List.length_set];done)) rfl))|((with_reducible replace hF:=toLp 1 3 hF);exact Lp.backI hF (_,()) ⟨_,rfl,rfl,rfl,rfl⟩ (pr2 (by first|exact rfl|assumption|omega|(simp only[List.length_set];done)) rfl))|((with_reducible replace hF:=toLp 2 6 hF);exact Lp.backI hF (_,_) ⟨_,rfl,rfl,rfl,rfl⟩ (pr2 (by first|exact rfl|assumption|omega|(simp only[List.length_set];done)) (by first|exact rfl|assumption|omega|(simp only[List.length_set];done))))|((with_reducible replace hF:=toLp 3 4 hF);exact Lp.backI hF (_,_,_) ⟨_,rfl,rfl,rfl,rfl⟩ (pr2 (by first|exact rfl|assumption|omega|(simp only[List.length_set];done)) (pr2 (by first|exact rfl|assumption|omega|(simp only[List.length_set];done)) (by first|exact rfl|assumption|omega|(simp only[List.length_set];done)))))|((with_reducible replace hF:=toLp 3 5 hF);exact Lp.backI hF (_,_,_) ⟨_,rfl,rfl,rfl,rfl⟩ (pr2 (by first|exact rfl|assumption|omega|(simp only[List.length_set];done)) (pr2 (by first|exact rfl|assumption|omega|(simp only[List.length_set];done)) (by first|exact rfl|assumption|omega|(simp only[List.length_set];done))))))
  | ((with_reducible refine zcN ?_);first|((with_reducible replace hF:=toLp 1 0 hF);exact Lp.headI hF (_,()) ⟨_,rfl,rfl,rfl,rfl⟩ (pr2 (by first|exact rfl|assumption|omega|(simp only[List.length_set];done)) rfl))|((with_reducible replace hF:=toLp 1 1 hF);exact Lp.headI hF (_,()) ⟨_,rfl,rfl,rfl,rfl⟩ (pr2 (by first|exact rfl|assumption|omega|(simp only[List.length_set];done)) rfl))|((with_reducible replace hF:=toLp 1 2 hF);exact Lp.headI hF (_,()) ⟨_,rfl,rfl,rfl,rfl⟩ (pr2 (by first|exact rfl|assumption|omega|(simp only[List.length_set];done)) rfl))|((with_reducible replace hF:=toLp 2 0 hF);exact Lp.headI hF (_,_) ⟨_,rfl,rfl,rfl,rfl⟩ (pr2 (by first|exact rfl|assumption|omega|(simp only[List.length_set];done)) (by first|exact rfl|assumption|omega|(simp only[List.length_set];done))))|((with_reducible replace hF:=toLp 2 5 hF);exact Lp.headI hF (_,_) ⟨_,rfl,rfl,rfl,rfl⟩ (pr2 (by first|exact rfl|assumption|omega|(simp only[List.length_set];done)) (by first|exact rfl|assumption|omega|(simp only[List.length_set];done))))|((with_reducible replace hF:=toLp 3 1 hF);exact Lp.headI hF (_,_,_) ⟨_,rfl,rfl,rfl,rfl⟩ (pr2 (by first|exact rfl|assumption|omega|(simp only[List.length_set];done)) (pr2 (by first|exact rfl|assumption|omega|(simp only[List.length_set];done)) (by first|exact rfl|assumption|omega|(simp only[List.length_set];done)))))|((with_reducible replace hF:=toLp 3 3 hF);exact Lp.headI hF (_,_,_) ⟨_,rfl,rfl,rfl,rfl⟩ (pr2 (by first|exact rfl|assumption|omega|(simp only[List.length_set];done)) (pr2 (by first|exact rfl|assumption|omega|(simp only[List.length_set];done)) (by first|exact rfl|assumption|omega|(simp only[List.length_set];done)))))|((with_reducible replace hF:=toLp 3 4 hF);exact Lp.headI hF (_,_,_) ⟨_,rfl,rfl,rfl,rfl⟩ (pr2 (by first|exact rfl|assumption|omega|(simp only[List.length_set];done)) (pr2 (by first|exact rfl|assumption|omega|(simp only[List.length_set];done)) (by first|exact rfl|assumption|omega|(simp only[List.length_set];done)))))|((with_reducible replace hF:=toLp 5 2 hF);exact Lp.headI hF (_,_,_,_,_) ⟨_,rfl,rfl,rfl,rfl⟩ (pr2 (by first|exact rfl|assumption|omega|(simp only[List.length_set];done)) (pr2 (by first|exact rfl|assumption|omega|(simp only[List.length_set];done)) (pr2 (by first|exact rfl|assumption|omega|(simp only[List.length_set];done)) (pr2 (by first|exact rfl|assumption|omega|(simp only[List.length_set];done)) (by first|exact rfl|assumption|omega|(simp only[List.length_set];done)))))))|((with_reducible replace hF:=toLp 6 1 hF);exact Lp.headI hF (_,_,_,_,_,_) ⟨_,rfl,rfl,rfl,rfl⟩ (pr2 (by first|exact rfl|assumption|omega|(simp only[List.length_set];done)) (pr2 (by first|exact rfl|assumption|omega|(simp only[List.length_set];done)) (pr2 (by first|exact rfl|assumption|omega|(simp only[List.length_set];done)) (pr2 (by first|exact rfl|assumption|omega|(simp only[List.length_set];done)) (pr2 (by first|exact rfl|assumption|omega|(simp only[List.length_set];done)) (by first|exact rfl|assumption|omega|(simp only[List.length_set];done)))))))))
  | ((with_reducible refine zee ?_);first|((with_reducible replace hF:=toLp 1 1 hF);((refine Lp.loopI hF (_,()) rfl ⟨_,rfl,rfl,rfl,rfl⟩ (pr2 (by first|exact rfl|assumption|omega|(simp only[List.length_set];done)) rfl) (λ _=>rfl) ?_);clear hF);(rintro n _ hF))|((with_reducible replace hF:=toLp 1 2 hF);((refine Lp.loopI hF (_,()) rfl ⟨_,rfl,rfl,rfl,rfl⟩ (pr2 (by first|exact rfl|assumption|omega|(simp only[List.length_set];done)) rfl) (λ _=>rfl) ?_);clear hF);(rintro n ⟨_,_⟩ hF))|((with_reducible replace hF:=toLp 1 3 hF);((refine Lp.loopI hF (_,()) rfl ⟨_,rfl,rfl,rfl,rfl⟩ (pr2 (by first|exact rfl|assumption|omega|(simp only[List.length_set];done)) rfl) (λ _=>rfl) ?_);clear hF);(rintro n ⟨_,_,_⟩ hF))|((with_reducible replace hF:=toLp 2 6 hF);((refine Lp.loopI hF (_,_) rfl ⟨_,rfl,rfl,rfl,rfl⟩ (pr2 (by first|exact rfl|assumption|omega|(simp only[List.length_set];done)) (by first|exact rfl|assumption|omega|(simp only[List.length_set];done))) (λ _=>rfl) ?_);clear hF);(rintro n ⟨_,_,_,_,_,_⟩ hF))|((with_reducible replace hF:=toLp 3 4 hF);((refine Lp.loopI hF (_,_,_) rfl ⟨_,rfl,rfl,rfl,rfl⟩ (pr2 (by first|exact rfl|assumption|omega|(simp only[List.length_set];done)) (pr2 (by first|exact rfl|assumption|omega|(simp only[List.length_set];done)) (by first|exact rfl|assumption|omega|(simp only[List.length_set];done)))) (λ _=>rfl) ?_);clear hF);(rintro n ⟨_,_,_,_⟩ hF))|((with_reducible replace hF:=toLp 3 5 hF);((refine Lp.loopI hF (_,_,_) rfl ⟨_,rfl,rfl,rfl,rfl⟩ (pr2 (by first|exact rfl|assumption|omega|(simp only[List.length_set];done)) (pr2 (by first|exact rfl|assumption|omega|(simp only[List.length_set];done)) (by first|exact rfl|assumption|omega|(simp only[List.length_set];done)))) (λ _=>rfl) ?_);clear hF);(rintro n ⟨_,_,_,_,_⟩ hF)))
  | ((with_reducible refine zcM ?_);first|((with_reducible replace hF:=zdG 0 hF);((refine Lp.cutI hF rfl rfl ?_ ?_) <;> clear hF);(intro hF);rotate_left;(rintro _ hF);rotate_right)|((with_reducible replace hF:=zdG 1 hF);((refine Lp.cutI hF rfl rfl ?_ ?_) <;> clear hF);(intro hF);rotate_left;(rintro _ hF);rotate_right)|((with_reducible replace hF:=zdG 2 hF);((refine Lp.cutI hF rfl rfl ?_ ?_) <;> clear hF);(intro hF);rotate_left;(rintro⟨_,_⟩ hF);rotate_right)|((with_reducible replace hF:=zdG 3 hF);((refine Lp.cutI hF rfl rfl ?_ ?_) <;> clear hF);(intro hF);rotate_left;(rintro⟨_,_,_⟩ hF);rotate_right)|((with_reducible replace hF:=zdG 4 hF);((refine Lp.cutI hF rfl rfl ?_ ?_) <;> clear hF);(intro hF);rotate_left;(rintro⟨_,_,_,_⟩ hF);rotate_right)|((with_reducible replace hF:=zdG 5 hF);((refine Lp.cutI hF rfl rfl ?_ ?_) <;> clear hF);(intro hF);rotate_left;(rintro⟨_,_,_,_,_⟩ hF);rotate_right))
  | ((with_reducible refine zch [] ?hx ?_);(case hx=>exact rfl))
  | with_reducible refine ze3 ?_
  | ((with_reducible have hI:=zmQ hF);clear hI;revert hF;(refine zhk ?_);intro x hF;conv=>whnf)
  | ((with_reducible have hJ:=isB hF);clear hJ;revert hF;(with_reducible first|refine G117.lend ?hx ?_|refine G148.lend ?hx ?_|refine G71.lend ?hx ?_|refine G89.lend ?hx ?_|refine G109.step ?hx ?_|refine G110.lend ?hx ?_|refine G111.lend ?hx ?_|refine G80.step ?hx ?_|refine G91.lend ?hx ?_|refine G95.lend ?hx ?_|refine G112.lend ?hx ?_|refine G116.lend ?hx ?_|refine G118.lend ?hx ?_|refine G14.lend ?hx ?_|refine G20.lend ?hx ?_|refine G55.lend ?hx ?_);(case hx=>exact rfl);intro v hF;conv=>whnf)
  | ((with_reducible have hI:=zuR hF);clear hI;revert hF;(refine zqe ?_);intro x hF;conv=>whnf)
  | ((with_reducible refine isSn ?_);(refine zqE (μ:=(λ l=>[.r 3 1 (List.map iN l)])) (by assumption) (by exact rfl) ?_);conv=>whnf)
  | ((with_reducible refine isSn ?_);(refine zqE (μ:=Edition.mc) (by assumption) (by exact rfl) ?_);conv=>whnf)
  | (revert hF;(refine zuK (d:=iN) ?hz ?_);(case hz=>exact rfl);intro x hF;conv=>whnf)
  | ((with_reducible have hJ:=isB hF);clear hJ;revert hF;(first|refine G18.step rfl rfl rfl rfl rfl rfl rfl (by first|exact rfl|assumption|omega|(simp only[List.length_set];done)) (by first|exact trivial|exact rfl) ?hn ?_|refine G19.step rfl rfl rfl (by first|exact rfl|assumption|omega|(simp only[List.length_set];done)) (by first|exact trivial|exact rfl) ?hn ?_|refine G21.step rfl rfl rfl rfl rfl rfl rfl (by first|exact rfl|assumption|omega|(simp only[List.length_set];done)) (by first|exact trivial|exact rfl) ?hn ?_|refine G37.step rfl rfl rfl rfl rfl rfl rfl rfl rfl (by first|exact rfl|assumption|omega|(simp only[List.length_set];done)) (by first|exact rfl|assumption|omega|(simp only[List.length_set];done)) (by first|exact trivial|exact rfl) ?hn ?_);(case hn=>exact rfl);intro v hF;conv=>whnf)
  | ((with_reducible refine isSnS ?_);(with_reducible have hG:=zbX hF);clear hF;(refine ziD (μ:=Edition.mc) hG (by assumption) (by exact rfl) (λ q hl hF=>?_));clear hG;conv=>whnf)
  | ((refine zw hF ?_);conv=>whnf)
  | ((with_reducible refine zwb ?_);(with_reducible have hG:=zbX hF);clear hF;(refine ziE (μ:=(λ l=>[.r 3 1 (List.map iN l)])) (δ:=iN) hG (by assumption) ?hn ?ho (by exact rfl) (λ q hl hF=>?_));(case hn=>first|exact rfl|assumption|omega);(case ho=>(rintro p h;first|(cases h;done)|(cases h;exact⟨rfl,rfl⟩)));clear hG;conv=>whnf)
  | ((with_reducible refine zwb ?_);(with_reducible have hG:=zbX hF);clear hF;(refine ziE (μ:=Edition.mc) (δ:=iN) hG (by assumption) ?hn ?ho (by exact rfl) (λ q hl hF=>?_));(case hn=>first|exact rfl|assumption|omega);(case ho=>(rintro p h;first|(cases h;done)|(cases h;exact⟨rfl,rfl⟩)));clear hG;conv=>whnf)
  | (revert hF;(refine zsG ?_);intro x hx hF;conv=>whnf)
  | ((refine ztM (μ:=(λ l=>[.r 3 1 (List.map iN l)])) (δ:=zbc) (λ _=>rfl) (.inr ⟨rfl,by simp[isR1]⟩) ?hn ?_);(case hn=>first|exact rfl|assumption|omega);conv=>whnf)
  | ((refine ztM (μ:=Edition.mc) (δ:=Edition.d) (λ _=>rfl) (.inl rfl) ?hn ?_);(case hn=>first|exact rfl|assumption|omega);conv=>whnf)
  | (revert hF;(refine zwd (μ:=(λ l=>[.r 3 1 (List.map iN l)])) ?hz ?_);(case hz=>exact rfl);intro x hF;conv=>whnf)
  | ((with_reducible refine zwc ?_);(refine⟨⟨rfl,rfl⟩, ?_⟩);(conv=>whnf);(refine zqy (by first|exact rfl|assumption|(symm;assumption)|omega) ?_);conv=>whnf)
  | ((with_reducible refine isEx ?_);(refine⟨[.d default, .d default, .r 3 1 [], .d default, .d default, .d default, .d default],rfl, ?_⟩);(conv=>whnf);(refine⟨⟨by decide,rfl⟩, ?_⟩);conv=>whnf)
  | ((with_reducible refine zsI ?hn ?_);(case hn=>exact rfl);conv=>whnf)
  | ((with_reducible have hG:=zcz hF);(first|refine zoZ (μ:=Edition.mc) hG ?ho ?hn ?hs (λ q hF1=>?_)|refine zmS (μ:=Edition.mc) hG ?hs (λ q hF1=>?_));(try (case ho=>exact rfl));(try (case hn=>first|exact rfl|assumption|omega));(case hs=>exact rfl);clear hG hF;(have hF:=hF1);clear hF1;conv=>whnf)
  | ((with_reducible have hG:=zqh hF);have hk:=hG.1;have hF:=hG.2;clear hG)
  | ((with_reducible first|refine ze9 ?hx ?_|refine zdO ?hx ?_|refine zcZ ?hx ?_|refine zdM ?hx ?_|refine zgG ?hx ?_|refine zfA ?hx ?_);(case hx=>exact rfl))
  | (revert hF;(with_reducible refine idx1 ?hn ?_);(case hn=>first|exact rfl|exact(List.length_map _)|assumption|omega|simp);intro x hx hF;conv=>whnf)
  | ((with_reducible have hG:=zeN hF);clear hF;(refine zfM hG (λ q hF=>?_));clear hG;conv=>whnf)
  | ((with_reducible have hG:=zcz hF);clear hF;(first|((refine zdw hG ?hn ?hs (λ q hF=>?_));(case hn=>first|exact rfl|assumption|omega);(case hs=>exact rfl))|((refine zc2 (d:=ClaimS.d) hG ?hs (λ q hF=>?_));(case hs=>exact rfl))|((refine zc3 (d:=ClaimS.d) hG ?ho ?hn ?hs (λ q hF=>?_));(case ho=>exact rfl);(case hn=>exact rfl);(case hs=>exact rfl))| ((refine zc2 (d:=Stone.d) hG ?hs (λ q hF=>?_));(case hs=>exact rfl))|((refine zc3 (d:=Stone.d) hG ?ho ?hn ?hs (λ q hF=>?_));(case ho=>exact rfl);(case hn=>exact rfl);(case hs=>exact rfl))| ((refine zc2 (d:=iN) hG ?hs (λ q hF=>?_));(case hs=>exact rfl))|((refine zc3 (d:=iN) hG ?ho ?hn ?hs (λ q hF=>?_));(case ho=>exact rfl);(case hn=>exact rfl);(case hs=>exact rfl)));clear hG;conv=>whnf)
  | ((with_reducible have hG:=zuH hF);clear hF;(refine Or.inr ?_);(conv=>whnf);(refine zuI hG ?hn (λ q hq hF=>?_);(case hn=>first|exact rfl|assumption|omega));clear hG;conv=>whnf)
  | ((with_reducible have hG:=zcz hF);clear hF;(first|((refine zdw hG ?hn ?hs (λ q hF=>?_));(case hn=>first|exact rfl|assumption|omega);(case hs=>exact rfl))|((refine zc2 (d:=iN) hG ?hs (λ q hF=>?_));(case hs=>exact rfl))|((refine zc3 (d:=iN) hG ?ho ?hn ?hs (λ q hF=>?_));(case ho=>exact rfl);(case hn=>exact rfl);(case hs=>exact rfl)));clear hG;conv=>whnf)
  | ((with_reducible have hG:=zcz hF);clear hF;(first|((refine zdw hG ?hn ?hs (λ q hF=>?_));(case hn=>first|exact rfl|assumption|omega);(case hs=>exact rfl))|((refine zc2 (d:=strN) hG ?hs (λ q hF=>?_));(case hs=>exact rfl))|((refine zc3 (d:=strN) hG ?ho ?hn ?hs (λ q hF=>?_));(case ho=>exact rfl);(case hn=>exact rfl);(case hs=>exact rfl)));clear hG;conv=>whnf)
  | ((refine zeb ?hn ?_);(case hn=>first|exact rfl|(simp;done)|(simp;omega));conv=>whnf)
  | ((refine zuJ ?hn ?_);(case hn=>first|assumption|(simp only[*];done)|omega);conv=>whnf)
  | ((with_reducible refine zhm ?hn ?_);(case hn=>first|exact rfl|assumption|omega);conv=>whnf)
  | ((with_reducible have hG:=zbX hF);clear hF;(refine zla hG ?hs (λ q hl hF=>?_));(case hs=>exact rfl);clear hG;conv=>whnf)
  | ((refine⟨?hx, ?_⟩);(case hx=>exact⟨rfl,zyq rfl,rfl⟩);conv=>whnf)
  | ((with_reducible refine zdV ?_);conv=>whnf)
  | ((with_reducible have hG:=znH hF);clear hF;(refine⟨?hx, ?_⟩);(case hx=>(first|exact of_decide_eq_true hG.1|exact hG.1));have hF:=hG.2;clear hG;conv=>whnf)
  | ((with_reducible refine zgt ?hx ?_);(case hx=>first|exact rfl|assumption|exact notT (by assumption));conv=>whnf)
  | ((with_reducible refine ze2 ?hx ?_);(case hx=>first|exact rfl|assumption|exact notF (by assumption));conv=>whnf)
  | ((refine zas 602 zyG rfl rfl (zyq rfl) rfl (λ R hR=>?_));(conv=>whnf);(with_reducible refine hR _ ?ha ?_);(case ha=>exact rfl);clear R hR)
  | ((refine zas 300 301000000 rfl rfl (zyq rfl) rfl (λ R hR=>?_));(conv=>whnf);(with_reducible refine hR _ ?ha ?_);(case ha=>exact rfl);clear R hR)
  | ((refine zas 301 302000000 rfl rfl (zyq rfl) rfl (λ R hR=>?_));(conv=>whnf);(with_reducible refine hR _ ?ha ?_);(case ha=>exact rfl);clear R hR)
  | ((refine zas 1302 1303000000 rfl rfl (zyq rfl) rfl (λ R hR=>?_));(conv=>whnf);(with_reducible refine hR _ ?ha ?_);(case ha=>exact rfl);clear R hR)
  | ((refine zas 1402 1303000507000101000107000000 rfl rfl (zyq rfl) rfl (λ R hR=>?_));(conv=>whnf);(with_reducible refine hR _ ?ha ?_);(case ha=>exact rfl);clear R hR)
  | ((refine zas 1706 1303000507000101000107000510000000 rfl rfl (zyq rfl) rfl (λ R hR=>?_));(conv=>whnf);(with_reducible refine hR _ ?ha ?_);(case ha=>exact rfl);clear R hR)
  | ((refine zas 1303000101 1303000102000000 rfl rfl (zyq rfl) rfl (λ R hR=>?_));(conv=>whnf);(with_reducible refine hR _ ?ha ?_);(case ha=>exact rfl);clear R hR)
  | ((refine zas 1303000506 1303000507000000 rfl rfl (zyq rfl) rfl (λ R hR=>?_));(conv=>whnf);(with_reducible refine hR _ ?ha ?_);(case ha=>exact rfl);clear R hR)
  | ((refine zas 1303000507000100 1303000507000101000000 rfl rfl (zyq rfl) rfl (λ R hR=>?_));(conv=>whnf);(with_reducible refine hR _ ?ha ?_);(case ha=>exact rfl);clear R hR)
  | (show Kinl _ _ _ _ _ _ _;conv=>whnf)
  | ((with_reducible refine zcG ?ha ?hb ?_);(case ha=>exact rfl);(case hb=>exact rfl);conv=>whnf)
  | ((refine⟨?hx,trivial⟩);(case hx=>(cases hF;exact rfl)))
  | ((refine⟨?hx, ?_⟩);(case hx=>decide);conv=>whnf)
  | with_reducible refine zeW ?_)):P:=h
set_option maxRecDepth 20000 in
theorem wk3 {P:Prop}(h:P:=by repeat' (first
  | ((with_reducible first|refine q0 _ _ ?_|refine q1 _ _ _ _ ?_|refine q2 _ _ _ ?_);clear Q q0 q1 q2)
  | ((with_reducible first|refine zdc ?hx (λ Q q0 q1 q2=>?_)|refine zds ?hx (λ Q q0 q1 q2=>?_)|refine zdN ?hx (λ Q q0 q1 q2=>?_)|refine zeB ?hx (λ Q q0 q1 q2=>?_));(case hx=>exact rfl);conv=>whnf)
  | ((with_reducible refine zd5 ?_);(first|((first|refine zeg rfl ?hy (λ Q q0 q1 q2=>?_)|refine zdk rfl ?hy (λ Q q0 q1 q2=>?_));(case hy=>first|assumption|exact notT (by assumption)|exact rfl);conv=>whnf)|((first|refine zdj rfl ?hy ?_|refine zcH rfl ?hy ?_);(case hy=>first|assumption|exact notF (by assumption)|exact rfl))|(revert hF;(with_reducible first|refine zeh ?hx ?_ ?_|refine zdl ?hx ?_ ?_);(case hx=>exact rfl);(intro hc hF Q q0 q1 q2;conv=>whnf);rotate_left;(intro hc hF);rotate_right)|(revert hF;(with_reducible first|refine zei ?hx ?_ ?_|refine zdm ?hx ?_ ?_);(case hx=>exact rfl);(intro hc hF);rotate_left;(intro hc hF Q q0 q1 q2;conv=>whnf);rotate_right)))
  | ((with_reducible refine zqo ?_);(first|((first|refine znI rfl ?hy (λ Q q0 q1 q2=>?_)|refine zle rfl ?hy (λ Q q0 q1 q2=>?_));(case hy=>first|assumption|exact notT (by assumption)|exact rfl);conv=>whnf)|((first|refine zld rfl ?hy ?_|refine ziB rfl ?hy ?_);(case hy=>first|assumption|exact notF (by assumption)|exact rfl))|(revert hF;(with_reducible first|refine znJ ?hx ?_ ?_|refine zlf ?hx ?_ ?_);(case hx=>exact rfl);(intro hc hF Q q0 q1 q2;conv=>whnf);rotate_left;(intro hc hF);rotate_right)|(revert hF;(with_reducible first|refine znK ?hx ?_ ?_|refine zlg ?hx ?_ ?_);(case hx=>exact rfl);(intro hc hF);rotate_left;(intro hc hF Q q0 q1 q2;conv=>whnf);rotate_right)))
  | ((with_reducible refine zc4 ?_);(first|((refine zec rfl ?hy ?_);(case hy=>first|assumption|exact notT (by assumption)|exact rfl))|((refine zed rfl ?hy ?_);(case hy=>first|assumption|exact notF (by assumption)|exact rfl))|(revert hF;(with_reducible refine zhn ?hx ?_ ?_);(case hx=>exact rfl);all_goals (intro hc hF))))
  | ((with_reducible refine zcc ?_);(first|((with_reducible refine hR _ ?_);clear R hR)|((with_reducible refine hL _ ?_);clear L hL)))
  | ((with_reducible refine zcv ?_);(with_reducible refine hR _ _ ?hx ?_);(case hx=>kernel_rfl);clear R hR)
  | ((with_reducible first|refine zbR ?_|refine zcg ?_|refine idx2 (by assumption) ?_|refine idx3 (by assumption) ?_);conv=>whnf)
  | (with_reducible first|refine zb0 ?_|refine zcb ?_|refine zrQ ?_|refine zrP ?_|refine zdb ?_|refine zcK ?_|refine zbt (λ R hR=>?_)|refine zbs ?_|refine zbp ?_|refine zgY ?_|refine zbO ?_|refine zbB ?_|refine zcs ?_|refine zb3 ?_)
  | ((with_reducible refine zdr ?hx (λ R L hL hR=>?_));(case hx=>exact rfl))
  | ((with_reducible replace hF:=isE hF);(dsimp only[zhy,zhz,zqL,zqN,zlF,zlG,zjB,zqR,zlI,zjF,zqV,zgy,zhF,zjH,zhG,zqW,zjJ,zqX,zgz,ze5,zhO,zhP,zj0,zj6] at hF);first|((with_reducible replace hF:=chkE (e:=zeR ..) hF);rewrite[zeR] at hF)|((with_reducible replace hF:=chkE (e:=zcA ..) hF);rewrite[zcA] at hF)|((with_reducible replace hF:=chkE (e:=zgi ..) hF);rewrite[zgi] at hF)|rewrite[zfS] at hF|rewrite[zfT] at hF|rewrite[zqK] at hF|rewrite[zqM] at hF|rewrite[zhA] at hF|rewrite[zqQ] at hF|rewrite[zgh] at hF|rewrite[zjG] at hF|rewrite[zdn] at hF|rewrite[zfl] at hF|rewrite[zeQ] at hF|rewrite[zjI] at hF|rewrite[zfm] at hF|rewrite[zjK] at hF|rewrite[zbf] at hF)
  | ((with_reducible refine zef ?_);first|((with_reducible replace hF:=toLp 0 2 hF);exact Lp.backI hF () ⟨_,rfl,rfl,rfl,rfl⟩ rfl)|((with_reducible replace hF:=toLp 0 3 hF);exact Lp.backI hF () ⟨_,rfl,rfl,rfl,rfl⟩ rfl)|((with_reducible replace hF:=toLp 0 4 hF);exact Lp.backI hF () ⟨_,rfl,rfl,rfl,rfl⟩ rfl))
  | ((with_reducible refine zcN ?_);first|((with_reducible replace hF:=toLp 0 0 hF);exact Lp.headI hF () ⟨_,rfl,rfl,rfl,rfl⟩ rfl)|((with_reducible replace hF:=toLp 0 1 hF);exact Lp.headI hF () ⟨_,rfl,rfl,rfl,rfl⟩ rfl)|((with_reducible replace hF:=toLp 0 2 hF);exact Lp.headI hF () ⟨_,rfl,rfl,rfl,rfl⟩ rfl))
  | ((with_reducible refine zee ?_);first|((with_reducible replace hF:=toLp 0 2 hF);((refine Lp.loopI hF () rfl ⟨_,rfl,rfl,rfl,rfl⟩ rfl (λ _=>rfl) ?_);clear hF);(rintro n ⟨_,_⟩ hF))|((with_reducible replace hF:=toLp 0 3 hF);((refine Lp.loopI hF () rfl ⟨_,rfl,rfl,rfl,rfl⟩ rfl (λ _=>rfl) ?_);clear hF);(rintro n ⟨_,_,_⟩ hF))|((with_reducible replace hF:=toLp 0 4 hF);((refine Lp.loopI hF () rfl ⟨_,rfl,rfl,rfl,rfl⟩ rfl (λ _=>rfl) ?_);clear hF);(rintro n ⟨_,_,_,_⟩ hF)))
  | ((with_reducible refine zcM ?_);first|((with_reducible replace hF:=zdG 0 hF);((refine Lp.cutI hF rfl rfl ?_ ?_) <;> clear hF);(intro hF);rotate_left;(rintro _ hF);rotate_right)|((with_reducible replace hF:=zdG 1 hF);((refine Lp.cutI hF rfl rfl ?_ ?_) <;> clear hF);(intro hF);rotate_left;(rintro _ hF);rotate_right)|((with_reducible replace hF:=zdG 2 hF);((refine Lp.cutI hF rfl rfl ?_ ?_) <;> clear hF);(intro hF);rotate_left;(rintro⟨_,_⟩ hF);rotate_right))
  | ((with_reducible refine zch [] ?hx ?_);(case hx=>exact rfl))
  | with_reducible refine ze3 ?_
  | ((with_reducible have hJ:=isB hF);clear hJ;revert hF;(with_reducible first|refine G91.lend ?hx ?_|refine G94.lend ?hx ?_|refine G112.lend ?hx ?_|refine G126.lend ?hx ?_|refine G95.lend ?hx ?_|refine G139.lend ?hx ?_|refine G90.step ?hx ?_|refine G113.lend ?hx ?_|refine G114.lend ?hx ?_|refine G55.lend ?hx ?_|refine G89.lend ?hx ?_|refine G35.lend ?hx ?_|refine G65.lend ?hx ?_|refine G67.lend ?hx ?_|refine G68.lend ?hx ?_|refine G69.lend ?hx ?_);(case hx=>exact rfl);intro v hF;conv=>whnf)
  | ((with_reducible first|refine ze9 ?hx ?_|refine zdO ?hx ?_|refine zgG ?hx ?_|refine zfA ?hx ?_|refine zcZ ?hx ?_|refine zdM ?hx ?_);(case hx=>exact rfl))
  | ((with_reducible have hJ:=isB hF);clear hJ;revert hF;(first|refine G32.step rfl rfl rfl rfl rfl rfl rfl (by first|exact rfl|assumption|omega|(simp only[List.length_set];done)) (by first|exact trivial|exact rfl) ?hn ?_|refine G33.step rfl rfl rfl rfl rfl rfl rfl (by first|exact rfl|assumption|omega|(simp only[List.length_set];done)) (by first|exact trivial|exact rfl) ?hn ?_|refine G34.step rfl rfl rfl rfl rfl rfl rfl (by first|exact rfl|assumption|omega|(simp only[List.length_set];done)) (by first|exact trivial|exact rfl) ?hn ?_|refine G36.step rfl rfl rfl rfl rfl rfl rfl (by first|exact rfl|assumption|omega|(simp only[List.length_set];done)) (by first|exact trivial|exact rfl) ?hn ?_|refine G40.step rfl rfl rfl rfl rfl rfl rfl (by first|exact rfl|assumption|omega|(simp only[List.length_set];done)) (by first|exact trivial|exact rfl) ?hn ?_);(case hn=>exact rfl);intro v hF;conv=>whnf)
  | ((with_reducible refine Or.inr ?_);(conv=>whnf);(with_reducible refine ztH (.bool false) ?hg ?_);(case hg=>exact rfl);(with_reducible refine ziz (List.map bN (List.replicate 10 false)) ?hx ?_);(case hx=>(unfold zkr;kernel_rfl));conv=>whnf)
  | ((with_reducible refine zqj hF ?_);(clear hF;intro hF;conv=>whnf))
  | (cases hF;(refine Or.inl ?_);(conv=>whnf);exact⟨rfl,rfl,rfl⟩)
  | ((with_reducible have hG:=znE hF);clear hF;(first|(refine zqk hG (by(try simp only[W]);omega) (λ x hF=>?_))|(refine zql hG (λ _=>rfl) (by(try simp only[W]);omega) (λ x hF=>?_)));clear hG;conv=>whnf)
  | ((with_reducible have hG:=zlc hF);clear hF;(first|(refine znF hG (by(try simp only[W]);omega) rfl rfl (λ q hF=>?_))|(refine znG hG (λ _=>rfl) (by(try simp only[W]);omega) rfl rfl (λ q hF=>?_)));clear hG;conv=>whnf)
  | (revert hF;(with_reducible refine idx1 ?hn ?_);(case hn=>first|exact rfl|exact(List.length_map _)|assumption|omega|simp);intro x hx hF;conv=>whnf)
  | ((refine zeb ?hn ?_);(case hn=>first|exact rfl|(simp;done)|(simp;omega));conv=>whnf)
  | ((with_reducible refine zdV ?_);conv=>whnf)
  | ((with_reducible have hG:=znH hF);clear hF;(refine⟨?hx, ?_⟩);(case hx=>(first|exact of_decide_eq_true hG.1|exact hG.1));have hF:=hG.2;clear hG;conv=>whnf)
  | ((with_reducible refine zgt ?hx ?_);(case hx=>first|exact rfl|assumption|exact notT (by assumption));conv=>whnf)
  | ((with_reducible refine ze2 ?hx ?_);(case hx=>first|exact rfl|assumption|exact notF (by assumption));conv=>whnf)
  | ((refine zas 1602 1603000000 rfl rfl (zyq rfl) rfl (λ R hR=>?_));(conv=>whnf);(with_reducible refine hR _ ?ha ?_);(case ha=>exact rfl);clear R hR)
  | ((refine zas 1603000102 1603000103000000 rfl rfl (zyq rfl) rfl (λ R hR=>?_));(conv=>whnf);(with_reducible refine hR _ ?ha ?_);(case ha=>exact rfl);clear R hR)
  | (show Kinl _ _ _ _ _ _ _;conv=>whnf)
  | ((with_reducible refine zcG ?ha ?hb ?_);(case ha=>exact rfl);(case hb=>exact rfl);conv=>whnf)
  | ((refine⟨?hx,trivial⟩);(case hx=>(cases hF;exact rfl)))
  | with_reducible refine zeW ?_)):P:=h
set_option maxRecDepth 20000 in
theorem wk4 {P:Prop}(h:P:=by repeat' (first
  | ((with_reducible first|refine q0 _ _ ?_|refine q1 _ _ _ _ ?_|refine q2 _ _ _ ?_);clear Q q0 q1 q2)
  | ((with_reducible first|refine zdc ?hx (λ Q q0 q1 q2=>?_)|refine zds ?hx (λ Q q0 q1 q2=>?_));(case hx=>exact rfl);conv=>whnf)
  | ((with_reducible refine zcv ?_);(with_reducible refine hR _ _ ?hx ?_);(case hx=>kernel_rfl);clear R hR)
  | ((with_reducible first|refine zbR ?_|refine idx2 (by assumption) ?_|refine idx3 (by assumption) ?_);conv=>whnf)
  | ((with_reducible refine zch [] ?hx ?_);(case hx=>exact rfl))
  | with_reducible refine ze3 ?_
  | (with_reducible first|refine zb0 ?_|refine zcb ?_|refine zdb ?_|refine zcK ?_|refine zbt (λ R hR=>?_)|refine zbs ?_|refine zbp ?_|refine zgY ?_|refine zbO ?_|refine zbB ?_)
  | ((with_reducible refine zdr ?hx (λ R L hL hR=>?_));(case hx=>exact rfl))
  | ((with_reducible have hJ:=isB hF);clear hJ;revert hF;(with_reducible first|refine G64.lend ?hx ?_);(case hx=>exact rfl);intro v hF;conv=>whnf)
  | (cases hF;(refine Or.inl ?_);(conv=>whnf);exact⟨rfl,rfl,rfl⟩)
  | ((with_reducible have hJ:=zv9 hF);clear hJ;revert hF;(refine zqf ?_);intro x hF;conv=>whnf)
  | ((with_reducible have hJ:=isO hF);clear hJ;revert hF;(refine zcU (eK:=strN) (eM:=StoneM.m) zbN ?hk ?hd ?he ?_ ?_);(case hk=>exact λ _=>rfl);(case hd=>exact rfl);(case he=>exact rfl);(intro hl hF;conv=>whnf);rotate_left;(intro i hl hF;conv=>whnf);rotate_right)
  | ((with_reducible have hJ:=isSm hF);clear hJ;revert hF;(refine zhj (eK:=strN) (eV:=bN) zbN ?hk ?hz ?hd ?he ?_);(case hk=>exact λ _=>rfl);(case hz=>exact rfl);(case hd=>exact rfl);(case he=>exact rfl);intro x hF;conv=>whnf)
  | ((with_reducible have hJ:=isO hF);clear hJ;revert hF;(refine zcU (eK:=strN) (eM:=EditionM.m) zbN ?hk ?hd ?he ?_ ?_);(case hk=>exact λ _=>rfl);(case hd=>exact rfl);(case he=>exact rfl);(intro hl hF;conv=>whnf);rotate_left;(intro i hl hF;conv=>whnf);rotate_right)
  | ((with_reducible have hG:=zhp hF);clear hF;(obtain⟨⟨x,hx,hF⟩⟩:=hG);first|((with_reducible refine isMc ?_);(refine zfj rfl hx (by exact rfl) ?_);conv=>whnf)|skip)
  | ((with_reducible refine isMc ?_);(refine zfj rfl (by assumption) (by exact rfl) ?_);conv=>whnf)
  | ((with_reducible refine Or.inr ?_);(conv=>whnf);(with_reducible refine isTk ?_);(refine zjw (by first|exact zaw|exact zbl (by decide) zaw) ?_);conv=>whnf)
  | ((with_reducible have hJ:=isO hF);clear hJ;revert hF;(refine zhq ?_ ?_);(intro ho hF;conv=>whnf);rotate_left;(intro j ho hF;conv=>whnf);rotate_right)
  | ((with_reducible refine isOP ?_);(refine zjv (by assumption) ?_);conv=>whnf)
  | ((with_reducible refine isLd ?_);(refine ziC rfl (by assumption) (λ key=>?_));conv=>whnf)
  | ((with_reducible have hJ:=zv9 hF);clear hJ;revert hF;(refine zqw rfl ?_);intro x hF;conv=>whnf)
  | ((with_reducible first|refine ze9 ?hx ?_|refine zdO ?hx ?_|refine zgG ?hx ?_|refine zfA ?hx ?_|refine zcZ ?hx ?_|refine zdM ?hx ?_);(case hx=>exact rfl))
  | (revert hF;(with_reducible refine idx1 ?hn ?_);(case hn=>first|exact rfl|exact(List.length_map _)|assumption|omega|simp);intro x hx hF;conv=>whnf)
  | ((with_reducible refine zd5 ?_);(first|((first|refine zeg rfl ?hy (λ Q q0 q1 q2=>?_)|refine zdk rfl ?hy (λ Q q0 q1 q2=>?_));(case hy=>first|assumption|exact notT (by assumption)|exact rfl);conv=>whnf)|((first|refine zdj rfl ?hy ?_|refine zcH rfl ?hy ?_);(case hy=>first|assumption|exact notF (by assumption)|exact rfl))|(revert hF;(with_reducible first|refine zeh ?hx ?_ ?_|refine zdl ?hx ?_ ?_);(case hx=>exact rfl);(intro hc hF Q q0 q1 q2;conv=>whnf);rotate_left;(intro hc hF);rotate_right)|(revert hF;(with_reducible first|refine zei ?hx ?_ ?_|refine zdm ?hx ?_ ?_);(case hx=>exact rfl);(intro hc hF);rotate_left;(intro hc hF Q q0 q1 q2;conv=>whnf);rotate_right)))
  | ((with_reducible refine zqo ?_);(first|((first|refine znI rfl ?hy (λ Q q0 q1 q2=>?_)|refine zle rfl ?hy (λ Q q0 q1 q2=>?_));(case hy=>first|assumption|exact notT (by assumption)|exact rfl);conv=>whnf)|((first|refine zld rfl ?hy ?_|refine ziB rfl ?hy ?_);(case hy=>first|assumption|exact notF (by assumption)|exact rfl))|(revert hF;(with_reducible first|refine znJ ?hx ?_ ?_|refine zlf ?hx ?_ ?_);(case hx=>exact rfl);(intro hc hF Q q0 q1 q2;conv=>whnf);rotate_left;(intro hc hF);rotate_right)|(revert hF;(with_reducible first|refine znK ?hx ?_ ?_|refine zlg ?hx ?_ ?_);(case hx=>exact rfl);(intro hc hF);rotate_left;(intro hc hF Q q0 q1 q2;conv=>whnf);rotate_right)))
  | ((with_reducible refine zc4 ?_);(first|((refine zec rfl ?hy ?_);(case hy=>first|assumption|exact notT (by assumption)|exact rfl))|((refine zed rfl ?hy ?_);(case hy=>first|assumption|exact notF (by assumption)|exact rfl))|(revert hF;(with_reducible refine zhn ?hx ?_ ?_);(case hx=>exact rfl);all_goals (intro hc hF))))
  | ((with_reducible refine zhm ?hn ?_);(case hn=>first|exact rfl|assumption|omega);conv=>whnf)
  | ((with_reducible refine zaJ ?_);(with_reducible refine zaJ ?_);(with_reducible have hG:=zc5 hF);(refine gZ 2 1611 rfl ?_);(refine zek 2 1611 rfl rfl rfl (by first|exact zaw|exact zbl (by decide) zaw) (by assumption) (by exact rfl) ?_);(have hF:=hG);clear hG;dsimp only[St.settledF];(first|((with_reducible refine hR _ ?_);clear R hR)|((with_reducible refine hL _ ?_);clear L hL)))
  | ((with_reducible refine zaJ ?_);(with_reducible refine zaJ ?_);(with_reducible have hG:=zc5 hF);(refine gZ 2 1603 rfl ?_);(refine zek 2 1603 rfl rfl rfl (by first|exact zaw|exact zbl (by decide) zaw) (by assumption) (by exact rfl) ?_);(have hF:=hG);clear hG;dsimp only[St.settledF];(first|((with_reducible refine hR _ ?_);clear R hR)|((with_reducible refine hL _ ?_);clear L hL)))
  | ((with_reducible refine zcc ?_);(first|((with_reducible refine hR _ ?_);clear R hR)|((with_reducible refine hL _ ?_);clear L hL)))
  | ((with_reducible refine zdV ?_);conv=>whnf)
  | ((with_reducible refine zgt ?hx ?_);(case hx=>first|exact rfl|assumption|exact notT (by assumption));conv=>whnf)
  | ((with_reducible refine ze2 ?hx ?_);(case hx=>first|exact rfl|assumption|exact notF (by assumption));conv=>whnf)
  | with_reducible refine zeW ?_)):P:=h
set_option maxRecDepth 20000 in
theorem wk5 {P:Prop}(h:P:=by repeat' (first
  | ((with_reducible first|refine q0 _ _ ?_|refine q1 _ _ _ _ ?_|refine q2 _ _ _ ?_);clear Q q0 q1 q2)
  | ((with_reducible first|refine zdc ?hx (λ Q q0 q1 q2=>?_)|refine zds ?hx (λ Q q0 q1 q2=>?_)|refine zdN ?hx (λ Q q0 q1 q2=>?_)|refine zeB ?hx (λ Q q0 q1 q2=>?_));(case hx=>exact rfl);conv=>whnf)
  | ((with_reducible first|refine ze9 ?hx ?_|refine zdO ?hx ?_|refine zcZ ?hx ?_|refine zdM ?hx ?_|refine zgG ?hx ?_|refine zfA ?hx ?_);(case hx=>exact rfl))
  | ((with_reducible refine zc4 ?_);(first|((refine zec rfl ?hy ?_);(case hy=>first|assumption|exact notT (by assumption)|exact rfl))|((refine zed rfl ?hy ?_);(case hy=>first|assumption|exact notF (by assumption)|exact rfl))|(revert hF;(with_reducible refine zhn ?hx ?_ ?_);(case hx=>exact rfl);all_goals (intro hc hF))))
  | ((with_reducible refine zch [] ?hx ?_);(case hx=>exact rfl))
  | with_reducible refine ze3 ?_
  | ((with_reducible refine zaJ ?_);(with_reducible refine zaJ ?_);(with_reducible have hG:=zc5 hF);(refine gZ 2 1403 rfl ?_);(refine zlk 2 1403 rfl rfl rfl (by first|exact zaw|exact zbl (by decide) zaw) (by assumption) (by exact rfl) ?_);(have hF:=hG);clear hG;dsimp only[St.settledF];(first|((with_reducible refine hR _ ?_);clear R hR)|((with_reducible refine hL _ ?_);clear L hL)))
  | ((with_reducible refine zaJ ?_);(with_reducible refine zaJ ?_);(with_reducible have hG:=zc5 hF);(refine gZ 4 1403 rfl ?_);(refine zek 4 1403 rfl rfl rfl (by first|exact zaw|exact zbl (by decide) zaw) (by assumption) (by exact rfl) ?_);(have hF:=hG);clear hG;dsimp only[St.settledF];(first|((with_reducible refine hR _ ?_);clear R hR)|((with_reducible refine hL _ ?_);clear L hL)))
  | ((with_reducible refine zaJ ?_);(with_reducible refine zaJ ?_);(with_reducible have hG:=zc5 hF);(refine gZ 4 1803 rfl ?_);(refine zlk 4 1803 rfl rfl rfl (by first|exact zaw|exact zbl (by decide) zaw) (by assumption) (by exact rfl) ?_);(have hF:=hG);clear hG;dsimp only[St.settledF];(first|((with_reducible refine hR _ ?_);clear R hR)|((with_reducible refine hL _ ?_);clear L hL)))
  | ((with_reducible refine zaJ ?_);(with_reducible refine zaJ ?_);(with_reducible have hG:=zc5 hF);(refine gZ 2 2104 rfl ?_);(refine zek 2 2104 rfl rfl rfl (by first|exact zaw|exact zbl (by decide) zaw) (by assumption) (by exact rfl) ?_);(have hF:=hG);clear hG;dsimp only[St.settledF];(first|((with_reducible refine hR _ ?_);clear R hR)|((with_reducible refine hL _ ?_);clear L hL)))
  | ((with_reducible refine zcc ?_);(first|((with_reducible refine hR _ ?_);clear R hR)|((with_reducible refine hL _ ?_);clear L hL)))
  | ((with_reducible refine zcv ?_);(with_reducible refine hR _ _ ?hx ?_);(case hx=>kernel_rfl);clear R hR)
  | ((with_reducible first|refine zbR ?_|refine zcg ?_|refine idx2 (by assumption) ?_|refine idx3 (by assumption) ?_);conv=>whnf)
  | (with_reducible first|refine zb0 ?_|refine zcb ?_|refine zdb ?_|refine zcK ?_|refine zbt (λ R hR=>?_)|refine zbs ?_|refine zbp ?_|refine zgY ?_|refine zbO ?_|refine zbB ?_)
  | ((with_reducible refine zdr ?hx (λ R L hL hR=>?_));(case hx=>exact rfl))
  | ((with_reducible refine exg3 ?_);revert hF;(refine G213.step rfl rfl rfl (by assumption) (by exact rfl) (by exact rfl) ?_);(intro y hy hF);conv=>whnf)
  | ((with_reducible have hJ:=isB hF);clear hJ;revert hF;(with_reducible first|refine G61.lend ?hx ?_|refine G64.lend ?hx ?_);(case hx=>exact rfl);intro v hF;conv=>whnf)
  | (cases hF;(refine Or.inl ?_);(conv=>whnf);exact⟨rfl,rfl,rfl⟩)
  | ((with_reducible have hJ:=isSm hF);clear hJ;revert hF;(refine zhj (eK:=strN) (eV:=iN) zbN ?hk ?hz ?hd ?he ?_);(case hk=>exact λ _=>rfl);(case hz=>exact rfl);(case hd=>exact rfl);(case he=>exact rfl);intro x hF;conv=>whnf)
  | ((with_reducible have hJ:=isO hF);clear hJ;revert hF;(refine zcU (eK:=strN) (eM:=StoneM.m) zbN ?hk ?hd ?he ?_ ?_);(case hk=>exact λ _=>rfl);(case hd=>exact rfl);(case he=>exact rfl);(intro hl hF;conv=>whnf);rotate_left;(intro i hl hF;conv=>whnf);rotate_right)
  | ((with_reducible have hJ:=isO hF);clear hJ;revert hF;(refine zcU (eK:=strN) (eM:=EditionM.m) zbN ?hk ?hd ?he ?_ ?_);(case hk=>exact λ _=>rfl);(case hd=>exact rfl);(case he=>exact rfl);(intro hl hF;conv=>whnf);rotate_left;(intro i hl hF;conv=>whnf);rotate_right)
  | ((with_reducible refine isLF ?_);(refine zqs (eK:=strN) (eM:=EditionM.m) zbN (λ _=>rfl) (by exact rfl) (by exact rfl) (by assumption) ?_);conv=>whnf)
  | ((with_reducible have hG:=zhp hF);clear hF;(obtain⟨⟨x,hx,hF⟩⟩:=hG);first|((with_reducible refine isMc ?_);(refine zfj rfl hx (by exact rfl) ?_);conv=>whnf)|skip)
  | ((with_reducible refine isMc ?_);(refine zfj rfl (by assumption) (by exact rfl) ?_);conv=>whnf)
  | ((with_reducible refine Or.inr ?_);(conv=>whnf);(with_reducible refine isTk ?_);(refine zjw (by first|exact zaw|exact zbl (by decide) zaw) ?_);conv=>whnf)
  | ((refine⟨(by first|exact zaw|exact zbl (by decide) zaw), ?_⟩);conv=>whnf)
  | ((with_reducible have hJ:=isO hF);clear hJ;revert hF;(refine zhq ?_ ?_);(intro ho hF;conv=>whnf);rotate_left;(intro j ho hF;conv=>whnf);rotate_right)
  | ((with_reducible refine isOP ?_);(refine zjv (by assumption) ?_);conv=>whnf)
  | ((with_reducible refine isLd ?_);(refine ziC rfl (by assumption) (λ key=>?_));conv=>whnf)
  | ((with_reducible have hG:=zcz hF);clear hF;(first|((refine zdw hG ?hn ?hs (λ q hF=>?_));(case hn=>first|exact rfl|assumption|omega);(case hs=>exact rfl))|((refine zc2 (d:=strN) hG ?hs (λ q hF=>?_));(case hs=>exact rfl))|((refine zc3 (d:=strN) hG ?ho ?hn ?hs (λ q hF=>?_));(case ho=>exact rfl);(case hn=>exact rfl);(case hs=>exact rfl)));clear hG;conv=>whnf)
  | ((with_reducible have hG:=zcz hF);clear hF;(first|((refine zdw hG ?hn ?hs (λ q hF=>?_));(case hn=>first|exact rfl|assumption|omega);(case hs=>exact rfl))|((refine zc2 (d:=iN) hG ?hs (λ q hF=>?_));(case hs=>exact rfl))|((refine zc3 (d:=iN) hG ?ho ?hn ?hs (λ q hF=>?_));(case ho=>exact rfl);(case hn=>exact rfl);(case hs=>exact rfl)));clear hG;conv=>whnf)
  | ((refine zeb ?hn ?_);(case hn=>first|exact rfl|(simp;done)|(simp;omega));conv=>whnf)
  | (revert hF;(refine zqC ?hn ?_ ?_);(case hn=>first|exact rfl|assumption|omega);(intro hl hF;conv=>whnf);rotate_left;(intro hF;conv=>whnf);rotate_right)
  | ((with_reducible refine zdV ?_);conv=>whnf)
  | ((with_reducible refine ze2 ?hx ?_);(case hx=>first|exact rfl|assumption|exact notF (by assumption));conv=>whnf)
  | ((refine zas 1101 1102000000 rfl rfl (zyq rfl) rfl (λ R hR=>?_));(conv=>whnf);(with_reducible refine hR _ ?ha ?_);(case ha=>exact rfl);clear R hR)
  | ((refine zas 1102 1103000000 rfl rfl (zyq rfl) rfl (λ R hR=>?_));(conv=>whnf);(with_reducible refine hR _ ?ha ?_);(case ha=>exact rfl);clear R hR)
  | ((refine zas 1304 1305000000 rfl rfl (zyq rfl) rfl (λ R hR=>?_));(conv=>whnf);(with_reducible refine hR _ ?ha ?_);(case ha=>exact rfl);clear R hR)
  | ((refine zas 1502 1503000000 rfl rfl (zyq rfl) rfl (λ R hR=>?_));(conv=>whnf);(with_reducible refine hR _ ?ha ?_);(case ha=>exact rfl);clear R hR)
  | ((refine zas 1404 1405000000 rfl rfl (zyq rfl) rfl (λ R hR=>?_));(conv=>whnf);(with_reducible refine hR _ ?ha ?_);(case ha=>exact rfl);clear R hR)
  | ((refine zas 1503000101 1503000102000000 rfl rfl (zyq rfl) rfl (λ R hR=>?_));(conv=>whnf);(with_reducible refine hR _ ?ha ?_);(case ha=>exact rfl);clear R hR)
  | ((refine zas 1103000101 1103000102000000 rfl rfl (zyq rfl) rfl (λ R hR=>?_));(conv=>whnf);(with_reducible refine hR _ ?ha ?_);(case ha=>exact rfl);clear R hR)
  | (show Kinl _ _ _ _ _ _ _;conv=>whnf)
  | ((with_reducible refine zcG ?ha ?hb ?_);(case ha=>exact rfl);(case hb=>exact rfl);conv=>whnf)
  | with_reducible refine zeW ?_)):P:=h
set_option maxRecDepth 20000 in
theorem wk6 {P:Prop}(h:P:=by repeat' (first
  | ((with_reducible first|refine q0 _ _ ?_|refine q1 _ _ _ _ ?_|refine q2 _ _ _ ?_);clear Q q0 q1 q2)
  | ((with_reducible first|refine zdc ?hx (λ Q q0 q1 q2=>?_)|refine zds ?hx (λ Q q0 q1 q2=>?_)|refine zdN ?hx (λ Q q0 q1 q2=>?_)|refine zeB ?hx (λ Q q0 q1 q2=>?_));(case hx=>exact rfl);conv=>whnf)
  | ((with_reducible refine zaJ ?_);(with_reducible refine zaJ ?_);(with_reducible have hG:=zc5 hF);(refine gZ 2 1206 rfl ?_);(refine zek 2 1206 rfl rfl rfl (by first|exact zaw|exact zbl (by decide) zaw) (by assumption) (by exact rfl) ?_);(have hF:=hG);clear hG;dsimp only[St.settledF];(first|((with_reducible refine hR _ ?_);clear R hR)|((with_reducible refine hL _ ?_);clear L hL)))
  | ((with_reducible refine zaJ ?_);(with_reducible refine zaJ ?_);(with_reducible have hJ:=zlh hF);clear hJ;(refine gZ 2 1303 rfl ?_);(refine zgM 2 1303 hF rfl rfl rfl (by first|exact zaw|exact zbl (by decide) zaw) (by assumption) (by exact rfl) (by first|exact rfl|assumption|(symm;assumption)|omega) (by exact rfl) (λ q hq hF1=>?_));clear hF;(have hF:=hF1);clear hF1;dsimp only[St.settledF];(first|((with_reducible refine hR _ ?_);clear R hR)|((with_reducible refine hL _ ?_);clear L hL)))
  | ((with_reducible refine zch [] ?hx ?_);(case hx=>exact rfl))
  | with_reducible refine ze3 ?_
  | ((with_reducible refine zaJ ?_);(with_reducible refine zaJ ?_);(with_reducible have hJ:=zlh hF);clear hJ;(refine gZ 2 1206 rfl ?_);(refine zgM 2 1206 hF rfl rfl rfl (by first|exact zaw|exact zbl (by decide) zaw) (by assumption) (by exact rfl) (by first|exact rfl|assumption|(symm;assumption)|omega) (by exact rfl) (λ q hq hF1=>?_));clear hF;(have hF:=hF1);clear hF1;dsimp only[St.settledF];(first|((with_reducible refine hR _ ?_);clear R hR)|((with_reducible refine hL _ ?_);clear L hL)))
  | ((with_reducible refine zaJ ?_);(with_reducible refine zaJ ?_);(with_reducible have hJ:=zlh hF);clear hJ;(refine gZ 2 1303 rfl ?_);(refine znQ 2 1303 hF rfl rfl rfl (by first|exact zaw|exact zbl (by decide) zaw) (by assumption) (by exact rfl) (by exact rfl) (λ q hq hF1=>?_));clear hF;(have hF:=hF1);clear hF1;dsimp only[St.settledF];(first|((with_reducible refine hR _ ?_);clear R hR)|((with_reducible refine hL _ ?_);clear L hL)))
  | ((with_reducible refine zaJ ?_);(with_reducible refine zaJ ?_);(with_reducible have hJ:=zlh hF);clear hJ;(refine gZ 2 1203 rfl ?_);(refine znQ 2 1203 hF rfl rfl rfl (by first|exact zaw|exact zbl (by decide) zaw) (by assumption) (by exact rfl) (by exact rfl) (λ q hq hF1=>?_));clear hF;(have hF:=hF1);clear hF1;dsimp only[St.settledF];(first|((with_reducible refine hR _ ?_);clear R hR)|((with_reducible refine hL _ ?_);clear L hL)))
  | ((with_reducible refine zaJ ?_);(with_reducible refine zaJ ?_);(with_reducible have hJ:=zlh hF);clear hJ;(refine gZ 2 1306 rfl ?_);(refine zgM 2 1306 hF rfl rfl rfl (by first|exact zaw|exact zbl (by decide) zaw) (by assumption) (by exact rfl) (by first|exact rfl|assumption|(symm;assumption)|omega) (by exact rfl) (λ q hq hF1=>?_));clear hF;(have hF:=hF1);clear hF1;dsimp only[St.settledF];(first|((with_reducible refine hR _ ?_);clear R hR)|((with_reducible refine hL _ ?_);clear L hL)))
  | ((with_reducible refine zaJ ?_);(with_reducible refine zaJ ?_);(with_reducible have hJ:=zlh hF);clear hJ;(refine gZ 2 1501 rfl ?_);(refine zgM 2 1501 hF rfl rfl rfl (by first|exact zaw|exact zbl (by decide) zaw) (by assumption) (by exact rfl) (by first|exact rfl|assumption|(symm;assumption)|omega) (by exact rfl) (λ q hq hF1=>?_));clear hF;(have hF:=hF1);clear hF1;dsimp only[St.settledF];(first|((with_reducible refine hR _ ?_);clear R hR)|((with_reducible refine hL _ ?_);clear L hL)))
  | ((with_reducible refine zcc ?_);(first|((with_reducible refine hR _ ?_);clear R hR)|((with_reducible refine hL _ ?_);clear L hL)))
  | ((with_reducible refine zcv ?_);(with_reducible refine hR _ _ ?hx ?_);(case hx=>kernel_rfl);clear R hR)
  | ((with_reducible first|refine zbR ?_|refine zcg ?_|refine idx2 (by assumption) ?_|refine idx3 (by assumption) ?_);conv=>whnf)
  | (with_reducible first|refine zcb ?_|refine zdb ?_|refine zbt (λ R hR=>?_)|refine zbs ?_)
  | ((with_reducible refine zdr ?hx (λ R L hL hR=>?_));(case hx=>exact rfl))
  | ((with_reducible refine exg3 ?_);revert hF;(refine G213.step rfl rfl rfl (by assumption) (by exact rfl) (by exact rfl) ?_);(intro y hy hF);conv=>whnf)
  | (cases hF;(refine Or.inl ?_);(conv=>whnf);exact⟨rfl,rfl,rfl⟩)
  | ((with_reducible have hJ:=isSm hF);clear hJ;revert hF;(refine zhj (eK:=strN) (eV:=iN) zbN ?hk ?hz ?hd ?he ?_);(case hk=>exact λ _=>rfl);(case hz=>exact rfl);(case hd=>exact rfl);(case he=>exact rfl);intro x hF;conv=>whnf)
  | ((refine zmP rfl (by assumption) (λ d hp=>?_));(conv=>whnf);(refine zqv hF hp (by assumption) rfl (by exact rfl) (λ q hq hF1=>?_));clear hp;clear hF;(have hF:=hF1);clear hF1;conv=>whnf)
  | ((with_reducible have hJ:=isSm hF);clear hJ;revert hF;(refine znD (eK:=strN) (eV:=iN) zbN ?hk ?hv ?hd ?he ?_);(case hk=>exact λ _=>rfl);(case hv=>exact rfl);(case hd=>exact rfl);(case he=>exact rfl);intro x hF;conv=>whnf)
  | ((with_reducible have hJ:=isO hF);clear hJ;revert hF;(refine zcU (eK:=strN) (eM:=StoneM.m) zbN ?hk ?hd ?he ?_ ?_);(case hk=>exact λ _=>rfl);(case hd=>exact rfl);(case he=>exact rfl);(intro hl hF;conv=>whnf);rotate_left;(intro i hl hF;conv=>whnf);rotate_right)
  | ((with_reducible have hJ:=isSm hF);clear hJ;revert hF;(refine znD (eK:=strN) (eV:=bN) zbN ?hk ?hv ?hd ?he ?_);(case hk=>exact λ _=>rfl);(case hv=>exact rfl);(case hd=>exact rfl);(case he=>exact rfl);intro x hF;conv=>whnf)
  | ((with_reducible have hJ:=isO hF);clear hJ;revert hF;(refine zcU (eK:=strN) (eM:=EditionM.m) zbN ?hk ?hd ?he ?_ ?_);(case hk=>exact λ _=>rfl);(case hd=>exact rfl);(case he=>exact rfl);(intro hl hF;conv=>whnf);rotate_left;(intro i hl hF;conv=>whnf);rotate_right)
  | ((with_reducible have hG:=zhp hF);clear hF;(obtain⟨⟨x,hx,hF⟩⟩:=hG);first|((with_reducible refine isMc ?_);(refine zfj rfl hx (by exact rfl) ?_);conv=>whnf)|skip)
  | ((with_reducible refine isMc ?_);(refine zfj rfl (by assumption) (by exact rfl) ?_);conv=>whnf)
  | ((with_reducible refine Or.inr ?_);(conv=>whnf);(with_reducible refine isTk ?_);(refine zjw (by first|exact zaw|exact zbl (by decide) zaw) ?_);conv=>whnf)
  | ((refine⟨(by first|exact zaw|exact zbl (by decide) zaw), ?_⟩);conv=>whnf)
  | ((with_reducible have hJ:=isO hF);clear hJ;revert hF;(refine zhq ?_ ?_);(intro ho hF;conv=>whnf);rotate_left;(intro j ho hF;conv=>whnf);rotate_right)
  | ((with_reducible refine isOP ?_);(refine zjv (by assumption) ?_);conv=>whnf)
  | ((with_reducible refine isOP ?_);(refine zqt (by assumption) ?_);conv=>whnf)
  | ((with_reducible refine isSF ?_);(with_reducible have hJ:=zlh hF);clear hJ;(refine zqu hF (by assumption) rfl (by exact rfl) (λ q hq hF1=>?_));clear hF;(have hF:=hF1);clear hF1;conv=>whnf)
  | ((with_reducible refine isPF ?_);(with_reducible have hJ:=zlh hF);clear hJ;(refine zqA hF (by assumption) rfl (by first|exact rfl|assumption|omega) (by exact rfl) (by first|exact zqz.trans znP|exact znP|exact rfl) (λ q hq hF1=>?_));clear hF;(have hF:=hF1);clear hF1;conv=>whnf)
  | (revert hF;(with_reducible refine idx1 ?hn ?_);(case hn=>first|exact rfl|exact(List.length_map _)|assumption|omega|simp);intro x hx hF;conv=>whnf)
  | ((with_reducible have hG:=zcz hF);clear hF;(first|((refine zdw hG ?hn ?hs (λ q hF=>?_));(case hn=>first|exact rfl|assumption|omega);(case hs=>exact rfl))|((refine zc2 (d:=iN) hG ?hs (λ q hF=>?_));(case hs=>exact rfl))|((refine zc3 (d:=iN) hG ?ho ?hn ?hs (λ q hF=>?_));(case ho=>exact rfl);(case hn=>exact rfl);(case hs=>exact rfl)));clear hG;conv=>whnf)
  | ((refine zeb ?hn ?_);(case hn=>first|exact rfl|(simp;done)|(simp;omega));conv=>whnf)
  | ((with_reducible refine zhm ?hn ?_);(case hn=>first|exact rfl|assumption|omega);conv=>whnf)
  | ((with_reducible have hG:=zbX hF);clear hF;(refine zla hG ?hs (λ q hl hF=>?_));(case hs=>exact rfl);clear hG;conv=>whnf)
  | ((refine⟨?hx, ?_⟩);(case hx=>exact⟨rfl,zyq rfl,rfl⟩);conv=>whnf)
  | ((with_reducible refine zdV ?_);conv=>whnf)
  | with_reducible refine zeW ?_
  | (have hF:(none:Option _)=some _:=hF;cases hF))):P:=h
set_option maxRecDepth 20000 in
theorem wk7 {P:Prop}(h:P:=by repeat' (first
  | ((with_reducible first|refine q0 _ _ ?_|refine q1 _ _ _ _ ?_|refine q2 _ _ _ ?_);clear Q q0 q1 q2)
  | ((with_reducible first|refine zdc ?hx (λ Q q0 q1 q2=>?_)|refine zdN ?hx (λ Q q0 q1 q2=>?_));(case hx=>exact rfl);conv=>whnf)
  | ((with_reducible first|refine ze9 ?hx ?_|refine zdO ?hx ?_|refine zcZ ?hx ?_|refine zdM ?hx ?_);(case hx=>exact rfl))
  | ((with_reducible refine zd5 ?_);(first|((first|refine zeg rfl ?hy (λ Q q0 q1 q2=>?_)|refine zdk rfl ?hy (λ Q q0 q1 q2=>?_));(case hy=>first|assumption|exact notT (by assumption)|exact rfl);conv=>whnf)|((first|refine zdj rfl ?hy ?_|refine zcH rfl ?hy ?_);(case hy=>first|assumption|exact notF (by assumption)|exact rfl))|(revert hF;(with_reducible first|refine zeh ?hx ?_ ?_|refine zdl ?hx ?_ ?_);(case hx=>exact rfl);(intro hc hF Q q0 q1 q2;conv=>whnf);rotate_left;(intro hc hF);rotate_right)|(revert hF;(with_reducible first|refine zei ?hx ?_ ?_|refine zdm ?hx ?_ ?_);(case hx=>exact rfl);(intro hc hF);rotate_left;(intro hc hF Q q0 q1 q2;conv=>whnf);rotate_right)))
  | ((with_reducible refine zc4 ?_);(first|((refine zec rfl ?hy ?_);(case hy=>first|assumption|exact notT (by assumption)|exact rfl))|((refine zed rfl ?hy ?_);(case hy=>first|assumption|exact notF (by assumption)|exact rfl))|(revert hF;(with_reducible refine zhn ?hx ?_ ?_);(case hx=>exact rfl);all_goals (intro hc hF))))
  | ((with_reducible refine zcc ?_);(first|((with_reducible refine hR _ ?_);clear R hR)|((with_reducible refine hL _ ?_);clear L hL)))
  | ((with_reducible first|refine zbR ?_|refine zcg ?_|refine idx2 (by assumption) ?_|refine idx3 (by assumption) ?_);conv=>whnf)
  | (with_reducible first|refine zb0 ?_|refine zcb ?_|refine zdb ?_|refine zcK ?_|refine zbt (λ R hR=>?_)|refine zbs ?_|refine zbp ?_|refine zgY ?_|refine zbO ?_|refine zbB ?_|refine zcs ?_|refine zb3 ?_)
  | ((with_reducible replace hF:=isE hF);(dsimp only[zjx,zqH,zjy,zep,zmT,ztN,zhs,zmZ,ztT,zlK,zjL,zqZ,ze6,zbE,zcj,zbF,zbo,zbZ,zcl,za3,zaZ,za4,zm2,ztW,zjO,zhM,zq2,zjQ,zfW,zbG,zcn,za5] at hF);first|((with_reducible replace hF:=chkE (e:=zdW ..) hF);rewrite[zdW] at hF)|((with_reducible replace hF:=chkE (e:=zeq ..) hF);rewrite[zeq] at hF)|((with_reducible replace hF:=chkE (e:=zhE) hF);rewrite[zhE] at hF)|((with_reducible replace hF:=chkE (e:=zaQ ..) hF);rewrite[zaQ] at hF)|((with_reducible replace hF:=chkE (e:=zaR ..) hF);rewrite[zaR] at hF)|((with_reducible replace hF:=chkE (e:=zaN ..) hF);rewrite[zaN] at hF)|((with_reducible replace hF:=chkE (e:=zgA) hF);rewrite[zgA] at hF)|((with_reducible replace hF:=chkE (e:=zes ..) hF);rewrite[zes] at hF)|((with_reducible replace hF:=chkE (e:=zaS ..) hF);rewrite[zaS] at hF)|rewrite[zeo] at hF|rewrite[zhr] at hF|rewrite[zln] at hF|rewrite[znY] at hF|rewrite[zdx] at hF|rewrite[zhI] at hF|rewrite[zci] at hF|rewrite[zbY] at hF|rewrite[zck] at hF|rewrite[zn3] at hF|rewrite[zdY] at hF|rewrite[zjP] at hF|rewrite[zcm] at hF)
  | ((with_reducible refine zef ?_);first|((with_reducible replace hF:=toLp 0 1 hF);exact Lp.backI hF () ⟨_,rfl,rfl,rfl,rfl⟩ rfl)|((with_reducible replace hF:=toLp 0 2 hF);exact Lp.backI hF () ⟨_,rfl,rfl,rfl,rfl⟩ rfl))
  | ((with_reducible refine zcN ?_);first|((with_reducible replace hF:=toLp 0 0 hF);exact Lp.headI hF () ⟨_,rfl,rfl,rfl,rfl⟩ rfl)|((with_reducible replace hF:=toLp 0 1 hF);exact Lp.headI hF () ⟨_,rfl,rfl,rfl,rfl⟩ rfl))
  | ((with_reducible refine zee ?_);first|((with_reducible replace hF:=toLp 0 1 hF);((refine Lp.loopI hF () rfl ⟨_,rfl,rfl,rfl,rfl⟩ rfl (λ _=>rfl) ?_);clear hF);(rintro n _ hF))|((with_reducible replace hF:=toLp 0 2 hF);((refine Lp.loopI hF () rfl ⟨_,rfl,rfl,rfl,rfl⟩ rfl (λ _=>rfl) ?_);clear hF);(rintro n ⟨_,_⟩ hF)))
  | ((with_reducible refine zcM ?_);first|((with_reducible replace hF:=zdG 0 hF);((refine Lp.cutI hF rfl rfl ?_ ?_) <;> clear hF);(intro hF);rotate_left;(rintro _ hF);rotate_right)|((with_reducible replace hF:=zdG 1 hF);((refine Lp.cutI hF rfl rfl ?_ ?_) <;> clear hF);(intro hF);rotate_left;(rintro _ hF);rotate_right))
  | ((with_reducible refine zch [] ?hx ?_);(case hx=>exact rfl))
  | with_reducible refine ze3 ?_
  | ((with_reducible have hJ:=isB hF);clear hJ;revert hF;(with_reducible first|refine G73.step ?hx ?_|refine G117.lend ?hx ?_|refine G143.step ?hx ?_|refine G145.lend ?hx ?_|refine G124.lend ?hx ?_|refine G116.lend ?hx ?_);(case hx=>exact rfl);intro v hF;conv=>whnf)
  | ((with_reducible have hI:=zmQ hF);clear hI;revert hF;(refine zhk ?_);intro x hF;conv=>whnf)
  | (revert hF;(refine zqd ?_);intro x hF;conv=>whnf)
  | (revert hF;(with_reducible refine idx1 ?hn ?_);(case hn=>first|exact rfl|exact(List.length_map _)|assumption|omega|simp);intro x hx hF;conv=>whnf)
  | ((with_reducible refine zdV ?_);conv=>whnf)
  | ((with_reducible refine zgt ?hx ?_);(case hx=>first|exact rfl|assumption|exact notT (by assumption));conv=>whnf)
  | ((with_reducible refine ze2 ?hx ?_);(case hx=>first|exact rfl|assumption|exact notF (by assumption));conv=>whnf)
  | (revert hF;(with_reducible refine zbe ?_ ?_) <;> (intro hc hF;conv=>whnf))
  | ((refine zas 206 207000000 rfl rfl (zyq rfl) rfl (λ R hR=>?_));(conv=>whnf);(with_reducible refine hR _ ?ha ?_);(case ha=>exact rfl);clear R hR)
  | ((refine zas 602 zyG rfl rfl (zyq rfl) rfl (λ R hR=>?_));(conv=>whnf);(with_reducible refine hR _ ?ha ?_);(case ha=>exact rfl);clear R hR)
  | ((refine zas 403 404000000 rfl rfl (zyq rfl) rfl (λ R hR=>?_));(conv=>whnf);(with_reducible refine hR _ ?ha ?_);(case ha=>exact rfl);clear R hR)
  | ((refine zas 603000102 603000103000000 rfl rfl (zyq rfl) rfl (λ R hR=>?_));(conv=>whnf);(with_reducible refine hR _ ?ha ?_);(case ha=>exact rfl);clear R hR)
  | ((refine zas 207000102 207000103000000 rfl rfl (zyq rfl) rfl (λ R hR=>?_));(conv=>whnf);(with_reducible refine hR _ ?ha ?_);(case ha=>exact rfl);clear R hR)
  | ((refine zas 603000103000405 603000103000406000000 rfl rfl (zyq rfl) rfl (λ R hR=>?_));(conv=>whnf);(with_reducible refine hR _ ?ha ?_);(case ha=>exact rfl);clear R hR)
  | ((refine zas 404000102 404000103000000 rfl rfl (zyq rfl) rfl (λ R hR=>?_));(conv=>whnf);(with_reducible refine hR _ ?ha ?_);(case ha=>exact rfl);clear R hR)
  | ((refine zas 207000103000405 207000103000406000000 rfl rfl (zyq rfl) rfl (λ R hR=>?_));(conv=>whnf);(with_reducible refine hR _ ?ha ?_);(case ha=>exact rfl);clear R hR)
  | ((refine zas 404000103000405 404000103000406000000 rfl rfl (zyq rfl) rfl (λ R hR=>?_));(conv=>whnf);(with_reducible refine hR _ ?ha ?_);(case ha=>exact rfl);clear R hR)
  | (show Kinl _ _ _ _ _ _ _;conv=>whnf)
  | ((with_reducible refine zcG ?ha ?hb ?_);(case ha=>exact rfl);(case hb=>exact rfl);conv=>whnf)
  | ((refine⟨?hx,trivial⟩);(case hx=>(cases hF;exact rfl)))
  | with_reducible refine zeW ?_)):P:=h
set_option maxRecDepth 20000 in
theorem wk8 {P:Prop}(h:P:=by repeat' (first
  | ((with_reducible first|refine q0 _ _ ?_|refine q1 _ _ _ _ ?_|refine q2 _ _ _ ?_);clear Q q0 q1 q2)
  | ((with_reducible first|refine zdc ?hx (λ Q q0 q1 q2=>?_)|refine zdN ?hx (λ Q q0 q1 q2=>?_)|refine zds ?hx (λ Q q0 q1 q2=>?_)|refine zeB ?hx (λ Q q0 q1 q2=>?_));(case hx=>exact rfl);conv=>whnf)
  | ((with_reducible refine zc4 ?_);(first|((refine zec rfl ?hy ?_);(case hy=>first|assumption|exact notT (by assumption)|exact rfl))|((refine zed rfl ?hy ?_);(case hy=>first|assumption|exact notF (by assumption)|exact rfl))|(revert hF;(with_reducible refine zhn ?hx ?_ ?_);(case hx=>exact rfl);all_goals (intro hc hF))))
  | ((with_reducible refine zcc ?_);(first|((with_reducible refine hR _ ?_);clear R hR)|((with_reducible refine hL _ ?_);clear L hL)))
  | ((with_reducible refine zcv ?_);(with_reducible refine hR _ _ ?hx ?_);(case hx=>kernel_rfl);clear R hR)
  | ((with_reducible first|refine zbR ?_|refine zcg ?_|refine idx2 (by assumption) ?_|refine idx3 (by assumption) ?_);conv=>whnf)
  | (with_reducible first|refine zb0 ?_|refine zcb ?_|refine zdb ?_|refine zcK ?_|refine zbt (λ R hR=>?_)|refine zbs ?_|refine zbp ?_|refine zgY ?_|refine zbO ?_|refine zbB ?_|refine zcs ?_|refine zb3 ?_)
  | ((with_reducible refine zdr ?hx (λ R L hL hR=>?_));(case hx=>exact rfl))
  | ((with_reducible replace hF:=isE hF);(dsimp only[zmU,ztO,zlu,zhu,znW,zhw,zjz,zqJ,zhv,zlE,zdX,zgw,zc7,zm0,ztU,zlL,zj8,zrb,zm6,zt1,zlT,zrc,zj9,zt3,zrf] at hF);first|rewrite[zht] at hF|rewrite[znU] at hF|rewrite[zfQ] at hF|rewrite[znV] at hF|rewrite[zfR] at hF|rewrite[zhx] at hF|rewrite[zqI] at hF|rewrite[zcI] at hF|rewrite[zgv] at hF|rewrite[ziH] at hF|rewrite[znZ] at hF|rewrite[zhT] at hF|rewrite[zra] at hF|rewrite[zlU] at hF|rewrite[zt0] at hF|rewrite[zhU] at hF|rewrite[zt2] at hF)
  | ((with_reducible refine zef ?_);first|((with_reducible replace hF:=toLp 0 2 hF);exact Lp.backI hF () ⟨_,rfl,rfl,rfl,rfl⟩ rfl)|((with_reducible replace hF:=toLp 1 2 hF);exact Lp.backI hF (_,()) ⟨_,rfl,rfl,rfl,rfl⟩ (pr2 (by first|exact rfl|assumption|omega|(simp only[List.length_set];done)) rfl))|((with_reducible replace hF:=toLp 3 2 hF);exact Lp.backI hF (_,_,_) ⟨_,rfl,rfl,rfl,rfl⟩ (pr2 (by first|exact rfl|assumption|omega|(simp only[List.length_set];done)) (pr2 (by first|exact rfl|assumption|omega|(simp only[List.length_set];done)) (by first|exact rfl|assumption|omega|(simp only[List.length_set];done))))))
  | ((with_reducible refine zcN ?_);first|((with_reducible replace hF:=toLp 0 1 hF);exact Lp.headI hF () ⟨_,rfl,rfl,rfl,rfl⟩ rfl)|((with_reducible replace hF:=toLp 1 1 hF);exact Lp.headI hF (_,()) ⟨_,rfl,rfl,rfl,rfl⟩ (pr2 (by first|exact rfl|assumption|omega|(simp only[List.length_set];done)) rfl))|((with_reducible replace hF:=toLp 2 1 hF);exact Lp.headI hF (_,_) ⟨_,rfl,rfl,rfl,rfl⟩ (pr2 (by first|exact rfl|assumption|omega|(simp only[List.length_set];done)) (by first|exact rfl|assumption|omega|(simp only[List.length_set];done)))))
  | ((with_reducible refine zee ?_);first|((with_reducible replace hF:=toLp 0 2 hF);((refine Lp.loopI hF () rfl ⟨_,rfl,rfl,rfl,rfl⟩ rfl (λ _=>rfl) ?_);clear hF);(rintro n ⟨_,_⟩ hF))|((with_reducible replace hF:=toLp 1 2 hF);((refine Lp.loopI hF (_,()) rfl ⟨_,rfl,rfl,rfl,rfl⟩ (pr2 (by first|exact rfl|assumption|omega|(simp only[List.length_set];done)) rfl) (λ _=>rfl) ?_);clear hF);(rintro n ⟨_,_⟩ hF))|((with_reducible replace hF:=toLp 3 2 hF);((refine Lp.loopI hF (_,_,_) rfl ⟨_,rfl,rfl,rfl,rfl⟩ (pr2 (by first|exact rfl|assumption|omega|(simp only[List.length_set];done)) (pr2 (by first|exact rfl|assumption|omega|(simp only[List.length_set];done)) (by first|exact rfl|assumption|omega|(simp only[List.length_set];done)))) (λ _=>rfl) ?_);clear hF);(rintro n ⟨_,_⟩ hF)))
  | ((with_reducible refine zcM ?_);first|((with_reducible replace hF:=zdG 1 hF);((refine Lp.cutI hF rfl rfl ?_ ?_) <;> clear hF);(intro hF);rotate_left;(rintro _ hF);rotate_right))
  | ((with_reducible refine zch [] ?hx ?_);(case hx=>exact rfl))
  | with_reducible refine ze3 ?_
  | ((with_reducible have hJ:=isB hF);clear hJ;revert hF;(with_reducible first|refine G83.step ?hx ?_|refine G84.step ?hx ?_|refine G30.lend ?hx ?_|refine G57.lend ?hx ?_);(case hx=>exact rfl);intro v hF;conv=>whnf)
  | (revert hF;(refine zuL (d:=iN) ?hz ?_);(case hz=>exact rfl);intro x hF;conv=>whnf)
  | ((with_reducible have hI:=zmQ hF);clear hI;revert hF;(refine zhk ?_);intro x hF;conv=>whnf)
  | (cases hF;(refine Or.inl ?_);(conv=>whnf);exact⟨rfl,rfl,rfl⟩)
  | ((with_reducible have hI:=zuP hF);clear hI;revert hF;(refine zqg ?_);intro x hF;conv=>whnf)
  | ((with_reducible have hI:=zqD hF);clear hI;revert hF;(refine zmO ?_);intro x hF;(try (with_reducible refine orL ?_));conv=>whnf)
  | ((with_reducible have hI:=ztL hF);clear hI;revert hF;(refine zsF ?hn ?_);(case hn=>first|exact rfl|omega);intro hF;conv=>whnf)
  | ((with_reducible have hI:=zuQ hF);clear hI;revert hF;(first|refine zqB (λ _ h=>h) ?_|refine zoY ?_);intro x hF;conv=>whnf)
  | ((with_reducible have hI:=ztL hF);clear hI;revert hF;(refine zsE ?hn ?_);(case hn=>first|exact rfl|assumption|omega);intro hF;conv=>whnf)
  | (revert hF;(with_reducible refine idx1 ?hn ?_);(case hn=>first|exact rfl|exact(List.length_map _)|assumption|omega|simp);intro x hx hF;conv=>whnf)
  | ((with_reducible have hG:=zeN hF);clear hF;(refine zfM hG (λ q hF=>?_));clear hG;conv=>whnf)
  | ((with_reducible have hG:=zqa hF);clear hF;(refine Or.inl ?_);(conv=>whnf);(refine zmN hG ?hn (λ q hF=>?_);(case hn=>first|exact rfl|assumption|omega));clear hG;conv=>whnf)
  | ((with_reducible have hG:=zcz hF);clear hF;(first|((refine zdw hG ?hn ?hs (λ q hF=>?_));(case hn=>first|exact rfl|assumption|omega);(case hs=>exact rfl))|((refine zc2 (d:=u8N) hG ?hs (λ q hF=>?_));(case hs=>exact rfl))|((refine zc3 (d:=u8N) hG ?ho ?hn ?hs (λ q hF=>?_));(case ho=>exact rfl);(case hn=>exact rfl);(case hs=>exact rfl)));clear hG;conv=>whnf)
  | ((with_reducible have hG:=zcz hF);clear hF;(first|((refine zdw hG ?hn ?hs (λ q hF=>?_));(case hn=>first|exact rfl|assumption|omega);(case hs=>exact rfl))|((refine zc2 (d:=iN) hG ?hs (λ q hF=>?_));(case hs=>exact rfl))|((refine zc3 (d:=iN) hG ?ho ?hn ?hs (λ q hF=>?_));(case ho=>exact rfl);(case hn=>exact rfl);(case hs=>exact rfl)));clear hG;conv=>whnf)
  | ((refine zeb ?hn ?_);(case hn=>first|exact rfl|(simp;done)|(simp;omega));conv=>whnf)
  | ((with_reducible refine zhm ?hn ?_);(case hn=>first|exact rfl|assumption|omega);conv=>whnf)
  | ((with_reducible refine zdV ?_);conv=>whnf)
  | ((with_reducible refine ze2 ?hx ?_);(case hx=>first|exact rfl|assumption|exact notF (by assumption));conv=>whnf)
  | ((refine zas 901 902000000 rfl rfl (zyq rfl) rfl (λ R hR=>?_));(conv=>whnf);(with_reducible refine hR _ ?ha ?_);(case ha=>exact rfl);clear R hR)
  | ((refine zas 103 104000000 rfl rfl (zyq rfl) rfl (λ R hR=>?_));(conv=>whnf);(with_reducible refine hR _ ?ha ?_);(case ha=>exact rfl);clear R hR)
  | ((refine zas 1203 1204000000 rfl rfl (zyq rfl) rfl (λ R hR=>?_));(conv=>whnf);(with_reducible refine hR _ ?ha ?_);(case ha=>exact rfl);clear R hR)
  | ((refine zas 1101 1102000000 rfl rfl (zyq rfl) rfl (λ R hR=>?_));(conv=>whnf);(with_reducible refine hR _ ?ha ?_);(case ha=>exact rfl);clear R hR)
  | ((refine zas 104000403 104000404000000 rfl rfl (zyq rfl) rfl (λ R hR=>?_));(conv=>whnf);(with_reducible refine hR _ ?ha ?_);(case ha=>exact rfl);clear R hR)
  | ((refine zas 1400 1401000000 rfl rfl (zyq rfl) rfl (λ R hR=>?_));(conv=>whnf);(with_reducible refine hR _ ?ha ?_);(case ha=>exact rfl);clear R hR)
  | ((refine zas 1408 1409000000 rfl rfl (zyq rfl) rfl (λ R hR=>?_));(conv=>whnf);(with_reducible refine hR _ ?ha ?_);(case ha=>exact rfl);clear R hR)
  | ((refine zas 1806 1807000000 rfl rfl (zyq rfl) rfl (λ R hR=>?_));(conv=>whnf);(with_reducible refine hR _ ?ha ?_);(case ha=>exact rfl);clear R hR)
  | ((refine zas 2000 2001000000 rfl rfl (zyq rfl) rfl (λ R hR=>?_));(conv=>whnf);(with_reducible refine hR _ ?ha ?_);(case ha=>exact rfl);clear R hR)
  | (show Kinl _ _ _ _ _ _ _;conv=>whnf)
  | ((with_reducible refine zcG ?ha ?hb ?_);(case ha=>exact rfl);(case hb=>exact rfl);conv=>whnf)
  | ((refine⟨?hx,trivial⟩);(case hx=>(cases hF;exact rfl)))
  | ((refine⟨?hx, ?_⟩);(case hx=>decide);conv=>whnf)
  | with_reducible refine zeW ?_
  | (have hF:(none:Option _)=some _:=hF;cases hF))):P:=h
set_option maxRecDepth 20000 in
theorem wk9 {P:Prop}(h:P:=by repeat' (first
  | ((with_reducible first|refine q0 _ _ ?_|refine q1 _ _ _ _ ?_|refine q2 _ _ _ ?_);clear Q q0 q1 q2)
  | ((with_reducible first|refine zdc ?hx (λ Q q0 q1 q2=>?_)|refine zds ?hx (λ Q q0 q1 q2=>?_));(case hx=>exact rfl);conv=>whnf)
  | ((with_reducible refine zc4 ?_);(first|((refine zec rfl ?hy ?_);(case hy=>first|assumption|exact notT (by assumption)|exact rfl))|((refine zed rfl ?hy ?_);(case hy=>first|assumption|exact notF (by assumption)|exact rfl))|(revert hF;(with_reducible refine zhn ?hx ?_ ?_);(case hx=>exact rfl);all_goals (intro hc hF))))
  | ((with_reducible refine zcc ?_);(first|((with_reducible refine hR _ ?_);clear R hR)|((with_reducible refine hL _ ?_);clear L hL)))
  | ((with_reducible refine zcv ?_);(with_reducible refine hR _ _ ?hx ?_);(case hx=>kernel_rfl);clear R hR)
  | ((with_reducible first|refine zbR ?_|refine idx2 (by assumption) ?_|refine idx3 (by assumption) ?_|refine zcg ?_);conv=>whnf)
  | (with_reducible first|refine zb0 ?_|refine zcb ?_|refine zdb ?_|refine zcK ?_|refine zbt (λ R hR=>?_)|refine zbs ?_|refine zbp ?_|refine zgY ?_|refine zbO ?_|refine zbB ?_|refine zcs ?_|refine zb3 ?_)
  | ((with_reducible refine zdr ?hx (λ R L hL hR=>?_));(case hx=>exact rfl))
  | ((with_reducible have hJ:=isB hF);clear hJ;revert hF;(with_reducible first|refine G132.lend ?hx ?_|refine G158.lend ?hx ?_|refine G146.lend ?hx ?_|refine G147.lend ?hx ?_);(case hx=>exact rfl);intro v hF;conv=>whnf)
  | ((with_reducible replace hF:=isE hF);(dsimp only[zjA,zqP,zlH,zmX,ztQ,zlJ,zmY,ztS,zo1,zjE,zqU,ziG,zm1,ztV,zlM] at hF);first|((with_reducible replace hF:=chkE (e:=zgg) hF);rewrite[zgg] at hF)|((with_reducible replace hF:=chkE (e:=zhB) hF);rewrite[zhB] at hF)|((with_reducible replace hF:=chkE (e:=zhD) hF);rewrite[zhD] at hF)|((with_reducible replace hF:=chkE (e:=zfk) hF);rewrite[zfk] at hF)|((with_reducible replace hF:=chkE (e:=zhH) hF);rewrite[zhH] at hF)|rewrite[zqO] at hF|rewrite[znX] at hF|rewrite[ztR] at hF|rewrite[zqT] at hF|rewrite[zn0] at hF)
  | ((with_reducible refine zef ?_);first|((with_reducible replace hF:=toLp 0 1 hF);exact Lp.backI hF () ⟨_,rfl,rfl,rfl,rfl⟩ rfl))
  | ((with_reducible refine zcN ?_);first|((with_reducible replace hF:=toLp 0 0 hF);exact Lp.headI hF () ⟨_,rfl,rfl,rfl,rfl⟩ rfl))
  | ((with_reducible refine zee ?_);first|((with_reducible replace hF:=toLp 0 1 hF);((refine Lp.loopI hF () rfl ⟨_,rfl,rfl,rfl,rfl⟩ rfl (λ _=>rfl) ?_);clear hF);(rintro n _ hF)))
  | ((with_reducible refine zcM ?_);first|((with_reducible replace hF:=zdG 0 hF);((refine Lp.cutI hF rfl rfl ?_ ?_) <;> clear hF);(intro hF);rotate_left;(rintro _ hF);rotate_right))
  | ((with_reducible refine zch [] ?hx ?_);(case hx=>exact rfl))
  | with_reducible refine ze3 ?_
  | (revert hF;(with_reducible refine idx1 ?hn ?_);(case hn=>first|exact rfl|exact(List.length_map _)|assumption|omega|simp);intro x hx hF;conv=>whnf)
  | ((refine⟨?hx,trivial⟩);(case hx=>(cases hF;exact rfl)))
  | ((refine⟨?hx, ?_⟩);(case hx=>decide);conv=>whnf)
  | with_reducible refine zeW ?_)):P:=h
set_option maxRecDepth 20000 in
theorem wk10 {P:Prop}(h:P:=by repeat' (first
  | ((with_reducible first|refine q0 _ _ ?_|refine q1 _ _ _ _ ?_|refine q2 _ _ _ ?_);clear Q q0 q1 q2)
  | ((with_reducible first|refine zdc ?hx (λ Q q0 q1 q2=>?_)|refine zds ?hx (λ Q q0 q1 q2=>?_)|refine zdN ?hx (λ Q q0 q1 q2=>?_)|refine zeB ?hx (λ Q q0 q1 q2=>?_));(case hx=>exact rfl);conv=>whnf)
  | ((with_reducible refine zc4 ?_);(first|((refine zec rfl ?hy ?_);(case hy=>first|assumption|exact notT (by assumption)|exact rfl))|((refine zed rfl ?hy ?_);(case hy=>first|assumption|exact notF (by assumption)|exact rfl))|(revert hF;(with_reducible refine zhn ?hx ?_ ?_);(case hx=>exact rfl);all_goals (intro hc hF))))
  | ((with_reducible refine zcc ?_);(first|((with_reducible refine hR _ ?_);clear R hR)|((with_reducible refine hL _ ?_);clear L hL)))
  | ((with_reducible refine zch [] ?hx ?_);(case hx=>exact rfl))
  | with_reducible refine ze3 ?_
  | ((with_reducible refine zcv ?_);(with_reducible refine hR _ _ ?hx ?_);(case hx=>kernel_rfl);clear R hR)
  | ((with_reducible first|refine zbR ?_);conv=>whnf)
  | (with_reducible first|refine zcb ?_|refine zdb ?_|refine zbt (λ R hR=>?_)|refine zbs ?_|refine zb0 ?_|refine zcK ?_|refine zbp ?_|refine zgY ?_|refine zbO ?_|refine zbB ?_)
  | ((with_reducible refine zdr ?hx (λ R L hL hR=>?_));(case hx=>exact rfl))
  | ((with_reducible have hJ:=isB hF);clear hJ;revert hF;(with_reducible first|refine G55.lend ?hx ?_|refine G80.step ?hx ?_|refine G81.lend ?hx ?_|refine G92.step ?hx ?_|refine G93.lend ?hx ?_|refine G94.lend ?hx ?_|refine G52.lend ?hx ?_);(case hx=>exact rfl);intro v hF;conv=>whnf)
  | ((with_reducible have hJ:=isB hF);clear hJ;revert hF;(first|refine G51.step rfl rfl rfl rfl rfl rfl rfl (by first|exact rfl|assumption|omega|(simp only[List.length_set];done)) (by first|exact trivial|exact rfl) ?hn ?_);(case hn=>exact rfl);intro v hF;(obtain⟨v,ve⟩:=v);(try dsimp only at hF);(conv=>whnf))
  | ((with_reducible have hJ:=isB hF);clear hJ;revert hF;(first|refine G197.step rfl rfl rfl rfl rfl  (by first|exact trivial|exact rfl) ?hn ?_|refine G199.step rfl rfl rfl rfl rfl  (by first|exact trivial|exact rfl) ?hn ?_|refine G201.step rfl rfl rfl rfl rfl  (by first|exact trivial|exact rfl) ?hn ?_|refine G203.step rfl rfl rfl rfl rfl  (by first|exact trivial|exact rfl) ?hn ?_|refine G205.step rfl rfl rfl rfl rfl  (by first|exact trivial|exact rfl) ?hn ?_|refine G207.step rfl rfl rfl rfl rfl  (by first|exact trivial|exact rfl) ?hn ?_|refine G209.step rfl rfl rfl rfl rfl  (by first|exact trivial|exact rfl) ?hn ?_|refine G211.step rfl rfl rfl rfl rfl  (by first|exact trivial|exact rfl) ?hn ?_|refine G214.step rfl rfl rfl rfl rfl  (by first|exact trivial|exact rfl) ?hn ?_);(case hn=>exact rfl);intro v hF;conv=>whnf)
  | (cases hF;(refine Or.inl ?_);(conv=>whnf);exact⟨rfl,rfl,rfl⟩)
  | (with_reducible first|(replace hF:=I97.go0 hF)|(replace hF:=I97.go1 hF)|(replace hF:=I97.go2 hF)|(replace hF:=I97.go3 hF)|(replace hF:=I97.go4 hF)|(replace hF:=I97.go5 hF)|(replace hF:=I97.go6 hF)|(replace hF:=I97.go7 hF)|(replace hF:=I97.go8 hF)|(replace hF:=I97.go9 hF))
  | ((with_reducible have hG:=zli hF);clear hF;(refine zlj (eM:=StoneM.m) hG zbN ?hk ?hd ?he [.d default, .p 0 none, .d default] rfl ?_);(case hk=>exact λ _=>rfl);(case hd=>exact rfl);(case he=>exact rfl);(conv=>whnf);(refine⟨⟨rfl,rfl,(by decide)⟩, ?_⟩);(refine zqx hG rfl rfl rfl (λ q hq hF=>?_));clear hG;conv=>whnf)
  | ((with_reducible have hG:=zli hF);clear hF;(refine zlj (eM:=EditionM.m) hG zbN ?hk ?hd ?he [.d default, .d default, .r 3 1 [], .d default, .d default, .d default, .d default, .m [], .d default] rfl ?_);(case hk=>exact λ _=>rfl);(case hd=>exact rfl);(case he=>exact rfl);(conv=>whnf);(refine⟨⟨rfl,rfl,(by decide)⟩, ?_⟩);(refine zqx hG rfl rfl rfl (λ q hq hF=>?_));clear hG;conv=>whnf)
  | ((with_reducible have hG:=zeN hF);clear hF;(refine zfM hG (λ q hF=>?_));clear hG;conv=>whnf)
  | ((refine zeb ?hn ?_);(case hn=>first|exact rfl|(simp;done)|(simp;omega));conv=>whnf)
  | ((with_reducible refine zdV ?_);conv=>whnf)
  | ((refine⟨?hx,trivial⟩);(case hx=>(cases hF;exact rfl)))
  | with_reducible refine zeW ?_
  | (have hF:(none:Option _)=some _:=hF;cases hF)
  | ((with_reducible have hG:=zcz hF);clear hF;(first|((refine zdw hG ?hn ?hs (λ q hF=>?_));(case hn=>first|exact rfl|assumption|omega);(case hs=>exact rfl))|((refine zc2 (d:=strN) hG ?hs (λ q hF=>?_));(case hs=>exact rfl))|((refine zc3 (d:=strN) hG ?ho ?hn ?hs (λ q hF=>?_));(case ho=>exact rfl);(case hn=>exact rfl);(case hs=>exact rfl)));clear hG;conv=>whnf)
  | ((refine I97.fp (K:=λ x=>Q ⟨x,[]⟩ _) ?_);conv=>whnf)
  | ((rename I97=>xi);cases xi <;> ((try dsimp only at hF);(try (conv=>whnf)))))):P:=h
set_option maxRecDepth 20000 in
theorem wk11 {P:Prop}(h:P:=by repeat' (first
  | ((with_reducible first|refine q0 _ _ ?_|refine q1 _ _ _ _ ?_|refine q2 _ _ _ ?_);clear Q q0 q1 q2)
  | ((with_reducible first|refine zdc ?hx (λ Q q0 q1 q2=>?_));(case hx=>exact rfl);conv=>whnf)
  | ((with_reducible refine zd5 ?_);(first|((first|refine zeg rfl ?hy (λ Q q0 q1 q2=>?_)|refine zdk rfl ?hy (λ Q q0 q1 q2=>?_));(case hy=>first|assumption|exact notT (by assumption)|exact rfl);conv=>whnf)|((first|refine zdj rfl ?hy ?_|refine zcH rfl ?hy ?_);(case hy=>first|assumption|exact notF (by assumption)|exact rfl))|(revert hF;(with_reducible first|refine zeh ?hx ?_ ?_|refine zdl ?hx ?_ ?_);(case hx=>exact rfl);(intro hc hF Q q0 q1 q2;conv=>whnf);rotate_left;(intro hc hF);rotate_right)|(revert hF;(with_reducible first|refine zei ?hx ?_ ?_|refine zdm ?hx ?_ ?_);(case hx=>exact rfl);(intro hc hF);rotate_left;(intro hc hF Q q0 q1 q2;conv=>whnf);rotate_right)))
  | ((with_reducible refine zcc ?_);(first|((with_reducible refine hR _ ?_);clear R hR)|((with_reducible refine hL _ ?_);clear L hL)))
  | ((with_reducible refine zch [] ?hx ?_);(case hx=>exact rfl))
  | with_reducible refine ze3 ?_
  | ((with_reducible first|refine zbR ?_|refine zcg ?_);conv=>whnf)
  | (with_reducible first|refine zcb ?_|refine zdb ?_|refine zbt (λ R hR=>?_)|refine zbs ?_)
  | ((with_reducible have hJ:=isB hF);clear hJ;revert hF;(with_reducible first|refine G88.lend ?hx ?_|refine G96.lend ?hx ?_|refine G93.lend ?hx ?_|refine G61.lend ?hx ?_|refine G119.step ?hx ?_);(case hx=>exact rfl);intro v hF;conv=>whnf)
  | ((with_reducible have hG:=zeN hF);clear hF;(refine zfM hG (λ q hF=>?_));clear hG;conv=>whnf)
  | ((refine zeb ?hn ?_);(case hn=>first|exact rfl|(simp;done)|(simp;omega));conv=>whnf)
  | ((with_reducible refine zgt ?hx ?_);(case hx=>first|exact rfl|assumption|exact notT (by assumption));conv=>whnf)
  | ((with_reducible refine ze2 ?hx ?_);(case hx=>first|exact rfl|assumption|exact notF (by assumption));conv=>whnf)
  | ((refine⟨?hx,trivial⟩);(case hx=>(cases hF;exact rfl)))
  | with_reducible refine zeW ?_)):P:=h

end Go.Vc
