/-
  A library for proofs about Go functions by symbolic evaluation,and plain Lean functions that the walked Go functions compute (written by a program of this claim).
-/
import Derived.Test.YtijmkjnlgcockaaGreatDoorFFIF1
set_option linter.unusedVariables false
set_option linter.unnecessarySimpa false
set_option linter.unusedSimpArgs false
namespace Go.Vc
open Go.Proofs
variable {N id:Nat} {ρ:Type} {q:ρ} {xs:List SV} {m:Nat->Blk} {l:List Loc} {ds:List D} {K:Dl->List Loc->Prop} {k0 k1 k2 k3 k4 k5 k6 k7 k8 k9 k10 k11 k12 k13 k14 k15 m0 m1 m2 m3 m4 m5:Nat}
def ze0 (b800_1:List Int):Option (ByteArray) :=
 (neN b800_1).bind λ _ =>
 (neN b800_1).bind λ _ =>
 (some (strB b800_1)).bind λ x3 =>
 some (x3)
def zlb:Lp ((List Int)) (Nat×Unit) (ByteArray):=lpm ⟨[7],[800,90500],[(.cell 800 1,90500,5,1)],[]⟩ (λ b800_1=>ze0 b800_1) (λ _ (_,_)=>[.ptr 800 0]) (λ b800_1 (m0,_)=>[.box [.slf 800 106, .rs 90500 m0], .row 5 1 (List.map u8N b800_1)]) λ b800_1=>(List.length b800_1,())
instance Ef57_c14 {b800_1}:IsLp 1 1 (ze0 b800_1) (zlb) b800_1:=⟨rfl⟩
instance Cf57_c14:IsCut 1 (ze0) (zlb) 14:=⟨⟩
def zlc (r10:Int->(List Int)->Option (ByteArray))(x2:(List Int)×Int)(k0:(List Int)->Option (ByteArray))(v34:Int)(b800_1:List Int):Option (ByteArray) :=
 bif decide (v34<(List.length x2.1:Int)) then ((ix x2.1 v34).bind λ x4 =>
 (app 1 b800_1 [Wk .u8 (W ((48:Int)+x4))]).bind λ x5 =>
 r10 (W (v34+(1:Int))) x5)
 else (k0 b800_1)
def zgL (x2:(List Int)×Int)(k0:(List Int)->Option (ByteArray)):Nat->Int->(List Int)->Option (ByteArray)
 | 0,_,_=>none
 | n+1,v34,b800_1=>zlc (zgL x2 k0 n) x2 k0 v34 b800_1
def zsy (x2:(List Int)×Int)(k0:(List Int)->Option (ByteArray)):Lp (Nat×Int×(List Int)) (Nat×Unit) (ByteArray):=lpm ⟨[7,32,33,34],[800,90500],[(.cell 800 1,90500,5,1)],[]⟩ (λ (n,v34,b800_1)=>zgL x2 k0 n v34 b800_1) (λ (_,v34,_) (_,_)=>[.ptr 800 0, .dat (za3 x2.1), .dat (iN (List.length x2.1:Int)), .dat (iN v34)]) (λ (_,_,b800_1) (m0,_)=>[.box [.slf 800 106, .rs 90500 m0], .row 5 1 (List.map u8N b800_1)]) λ (_,_,b800_1)=>(List.length b800_1,())
instance Ef57_10 {x2 k0 n v34 b800_1}:IsLp 1 2 (zgL x2 k0 n v34 b800_1) (zsy x2 k0) (n,v34,b800_1):=⟨rfl⟩
def zfH (N:Nat)(sum3:Int):Option (ByteArray) :=
 (f84 N ).bind λ x1 =>
 (f83 N x1 (5:Int) (Int.tmod sum3 (10000:Int))).bind λ x2 =>
 zap ze0 λ k0 =>
 zgL x2 k0 N (0:Int) []
def zog (N:Nat):Lp (Int) Unit (ByteArray):=lp0 ⟨[3],[],[],[]⟩ (λ sum3=>[.dat (iN sum3)]) (λ _=>[]) (λ sum3=>zfH N sum3)
instance Ef57_c7 {N sum3}:IsLp 0 1 (zfH N sum3) (zog N) sum3:=⟨rfl⟩
instance Cf57_c7 {N}:IsCut 1 (zfH N) (zog N) 7:=⟨⟩
def zmZ (r3:Int->Int->Option (ByteArray))(a0:ByteArray)(k1:Int->Option (ByteArray))(sum3:Int)(v12:Int):Option (ByteArray) :=
 bif decide (v12<(ByteArray.size a0:Int)) then ((idxS a0 v12).bind λ x6 =>
 r3 (W (sum3+(W ((W (v12+(1:Int)))*x6)))) (W (v12+(1:Int))))
 else (k1 sum3)
def zhB (a0:ByteArray)(k1:Int->Option (ByteArray)):Nat->Int->Int->Option (ByteArray)
 | 0,_,_=>none
 | n+1,sum3,v12=>zmZ (zhB a0 k1 n) a0 k1 sum3 v12
def zvM (a0:ByteArray)(k1:Int->Option (ByteArray)):Lp (Nat×Int×Int) Unit (ByteArray):=lp0 ⟨[0,3,11,12],[],[],[]⟩ (λ (_,sum3,v12)=>[.dat (strN a0), .dat (iN sum3), .dat (iN (ByteArray.size a0:Int)), .dat (iN v12)]) (λ (_,_,_)=>[]) (λ (n,sum3,v12)=>zhB a0 k1 n sum3 v12)
instance Ef57_3 {a0 k1 n sum3 v12}:IsLp 0 2 (zhB a0 k1 n sum3 v12) (zvM a0 k1) (n,sum3,v12):=⟨rfl⟩
def f57 (N:Nat)(a0:ByteArray):Option (ByteArray) :=
 zap (zfH N) λ k1 =>
 zhB a0 k1 N (0:Int) (0:Int)
def G57 (ds:List D)(d:D):Prop:=∃ (N:Nat) (a0:ByteArray) (r:ByteArray),ds=[strN a0]/\f57 N a0=some r/\d=strN r
theorem G57.lend {a0}{A:_->Option ρ}{K:D->Prop}(hd:ds=[strN a0])(h:∀ r,A r=some q->K (strN r))(hF:(f57 N a0).bind A=some q):∃ d,(G57 ds d/\d.flatB=true)/\K d:=by
 obtain⟨r,hr,hA⟩:=bind_some hF;exact⟨_,⟨⟨N,a0,r,hd,hr,rfl⟩,rfl⟩,h r hA⟩

end Go.Vc
namespace Go.Vc
open Go.Proofs
variable {N id:Nat} {ρ:Type} {q:ρ} {xs:List SV} {m:Nat->Blk} {l:List Loc} {ds:List D} {K:Dl->List Loc->Prop} {k0 k1 k2 k3 k4 k5 k6 k7 k8 k9 k10 k11 k12 k13 k14 k15 m0 m1 m2 m3 m4 m5:Nat}
def zf9 (s0:LB)(s1:LS)(s2:LE)(s3:LC)(b1300_1:List Int):Option (ByteArray) :=
 (neN b1300_1).bind λ _ =>
 (neN b1300_1).bind λ _ =>
 (some (strB b1300_1)).bind λ x6 =>
 some (x6)
def zld (s0:LB)(s1:LS)(s2:LE)(s3:LC):Lp ((List Int)) (Nat×Nat) (ByteArray):=lpm ⟨[3],[0,1,2,3,4,5,1300,91500],[(.cell 1300 1,91500,5,1)],[]⟩ (λ b1300_1=>zf9 s0 s1 s2 s3 b1300_1) (λ _ (_,_)=>[.ptr 1300 0]) (λ b1300_1 (m0,m1)=>[.box [.ptr 1 0, .rs 2 m0], .box [.mp 3, .mp 4, .mp 5],(rW s0),(sW [4] s1),(eW s2),(mW s3), .box [.slf 1300 106, .rs 91500 m1], .row 5 1 (List.map u8N b1300_1)]) λ b1300_1=>(List.length s0,List.length b1300_1)
instance Ef23_c10 {s0 s1 s2 s3 b1300_1}:IsLp 2 1 (zf9 s0 s1 s2 s3 b1300_1) (zld s0 s1 s2 s3) b1300_1:=⟨rfl⟩
instance Cf23_c10 {s0 s1 s2 s3}:IsCut 1 (zf9 s0 s1 s2 s3) (zld s0 s1 s2 s3) 1000010:=⟨⟩
def zpg (r6:Int->(List Int)->Option (ByteArray))(s0:LB)(s1:LS)(s2:LE)(s3:LC)(N:Nat)(k0:(List Int)->Option (ByteArray))(v22:Int)(b1300_1:List Int):Option (ByteArray) :=
 bif decide (v22<(List.length s0:Int)) then ((ix s0 v22).bind λ x7 =>
 (addS x7 (strC [32])).bind λ x8 =>
 (f57 N x7).bind λ x9 =>
 (addS x8 x9).bind λ x10 =>
 (addS x10 (strC [10])).bind λ x11 =>
 (some (zgw x11)).bind λ x12 =>
 (app 1 b1300_1 x12).bind λ x13 =>
 r6 (W (v22+(1:Int))) x13)
 else (k0 b1300_1)
def zm0 (s0:LB)(s1:LS)(s2:LE)(s3:LC)(N:Nat)(k0:(List Int)->Option (ByteArray)):Nat->Int->(List Int)->Option (ByteArray)
 | 0,_,_=>none
 | n+1,v22,b1300_1=>zpg (zm0 s0 s1 s2 s3 N k0 n) s0 s1 s2 s3 N k0 v22 b1300_1
def zvN (s0:LB)(s1:LS)(s2:LE)(s3:LC)(N:Nat)(k0:(List Int)->Option (ByteArray)):Lp (Nat×Int×(List Int)) (Nat×Nat×Nat) (ByteArray):=lpm ⟨[3,20,21,22],[0,1,2,3,4,5,1300,91500],[(.cell 1300 1,91500,5,1)],[]⟩ (λ (n,v22,b1300_1)=>zm0 s0 s1 s2 s3 N k0 n v22 b1300_1) (λ (_,v22,_) (m0,_,_)=>[.ptr 1300 0, .rs 2 m0, .dat (iN (List.length s0:Int)), .dat (iN v22)]) (λ (_,_,b1300_1) (_,m1,m2)=>[.box [.ptr 1 0, .rs 2 m1], .box [.mp 3, .mp 4, .mp 5],(rW s0),(sW [4] s1),(eW s2),(mW s3), .box [.slf 1300 106, .rs 91500 m2], .row 5 1 (List.map u8N b1300_1)]) λ (_,_,b1300_1)=>(List.length s0,List.length s0,List.length b1300_1)
instance Ef23_6 {s0 s1 s2 s3 N k0 n v22 b1300_1}:IsLp 3 2 (zm0 s0 s1 s2 s3 N k0 n v22 b1300_1) (zvN s0 s1 s2 s3 N k0) (n,v22,b1300_1):=⟨rfl⟩
def f23b (self:LB->LS->LE->LC->Option (ByteArray))(N:Nat)(s0:LB)(s1:LS)(s2:LE)(s3:LC):Option (ByteArray) :=
 (f30 N (List.length s0:Int)).bind λ x1 =>
 (addS (strC [116,117,115,99,104,101,32]) x1).bind λ x2 =>
 (addS x2 (strC [10])).bind λ x3 =>
 (some (zgw x3)).bind λ x4 =>
 (app 1 [] x4).bind λ x5 =>
 zap (zf9 s0 s1 s2 s3) λ k0 =>
 zm0 s0 s1 s2 s3 N k0 N (0:Int) x5
def f23:Nat->LB->LS->LE->LC->Option (ByteArray)
 | 0,_,_,_,_=>none
 | N+1,s0,s1,s2,s3=>f23b (f23 N) N s0 s1 s2 s3
def Af23 (s0:LB)(s1:LS)(s2:LE)(s3:LC):List SV:=[.ptr 0 0]
def Bf23 (s0:LB)(s1:LS)(s2:LE)(s3:LC):List Blk:=[.box [.ptr 1 0, .rs 2 (List.length s0)], .box [.mp 3, .mp 4, .mp 5],(rW s0),(sW [4] s1),(eW s2),(mW s3)]
def Rf23 (y:ByteArray):List SV:=[.dat (strN y)]
def B1f23 (s0:LB)(s1:LS)(s2:LE)(s3:LC)(y:ByteArray):List Blk:=[.box [.ptr 1 0, .rs 2 (List.length s0)], .box [.mp 3, .mp 4, .mp 5],(rW s0),(sW [4] s1),(eW s2),(mW s3)]
def BZf23 (y:ByteArray):List Blk:=[]
def zqk:Spec (LB×LS×LE×LC) (ByteArray):=⟨6,[],λ x=>Af23 x.1 x.2.1 x.2.2.1 x.2.2.2,λ x=>Bf23 x.1 x.2.1 x.2.2.1 x.2.2.2,λ _ y=>Rf23 y,λ x y=>B1f23 x.1 x.2.1 x.2.2.1 x.2.2.2 y,λ _ y=>BZf23 y⟩
def H23 (N:Nat)(x:LB×LS×LE×LC)(y:ByteArray):Prop:=f23 N x.1 x.2.1 x.2.2.1 x.2.2.2=some y
def G23 (x:LB×LS×LE×LC)(y:ByteArray):Prop:=∃ N,H23 N x y
theorem G23.step {s0 s1 s2 s3}{A:_->Option ρ}(ha:xs=[.ptr k0 0])(b0:m k0 = .box [.ptr k1 0, .rs k2 m0])(b1:m k1 = .box [.mp k3, .mp k4, .mp k5])(b2:m k2=(rW s0))(b3:m k3=(sW [k4] s1))(b4:m k4=(eW s2))(b5:m k5=(mW s3))(em0:m0=List.length s0)(hu:True)(hn:za0 [k0,k1,k2,k3,k4,k5]=true)(h:∀ y,A y=some q->K ⟨.dat (strN y),[(k0, .box [.ptr k1 0, .rs k2 (List.length s0)]),(k1, .box [.mp k3, .mp k4, .mp k5]),(k2,(rW s0)),(k3,(sW [k4] s1)),(k4,(eW s2)),(k5,(mW s3))]⟩ ([Loc.b k0,Loc.b k1,Loc.b k2,Loc.b k3,Loc.b k4,Loc.b k5]++l))(hF:(f23 N s0 s1 s2 s3).bind A=some q):effPg zqk (G23) xs id (λ _=>SV.no) m l K:=by
 subst em0;obtain⟨y,hy,hA⟩:=bind_some hF;exact zaO [k0,k1,k2,k3,k4,k5] (s0,s1,s2,s3) y _ ⟨N,hy⟩ rfl hn ha (by simp only[List.map_cons,List.map_nil,b0,b1,b2,b3,b4,b5];rfl) rfl rfl rfl (h y hA)
def Srf23:Ann:=⟨[0],[0,1,2,3,4,5],[],[]⟩
def zzB:Ann:=⟨[0],[0,1,2,3,4,5],[],[]⟩
def zg (a0:ByteArray)(N:Nat)(x1:Int)(code5:List Int):Option (ByteArray×Int) :=
 (f84 N ).bind λ x2 =>
 (f101 N x2 code5).bind λ x3 =>
 bif decide (¬ x3=(0:Int)) then (some (zaz,(13:Int)))
 else ((subS a0 0 x1).bind λ x4 =>
 (f57 N x4).bind λ x5 =>
 (subS a0 (W (x1+(1:Int))) (ByteArray.size a0:Int)).bind λ x6 =>
 bif decide (¬ x5=x6) then (some (zaz,(17:Int)))
 else ((subS a0 0 x1).bind λ x7 =>
 some (x7,(0:Int))))
def zle (a0:ByteArray)(N:Nat)(x1:Int):Lp ((List Int)) (Nat×Unit) (ByteArray×Int):=lpm ⟨[0,4,5],[90005],[(.slot 5,90005,3,1)],[]⟩ (λ code5=>zg a0 N x1 code5) (λ _ (m0,_)=>[.dat (strN a0), .dat (iN x1), .rs 90005 m0]) (λ code5 (_,_)=>[.row 3 1 (List.map iN code5)]) λ code5=>(List.length code5,())
instance Ef75_c12 {a0 N x1 code5}:IsLp 1 1 (zg a0 N x1 code5) (zle a0 N x1) code5:=⟨rfl⟩
instance Cf75_c12 {a0 N x1}:IsCut 1 (zg a0 N x1) (zle a0 N x1) 12:=⟨⟩
def zph (r6:(List Int)->Int->Option (ByteArray×Int))(a0:ByteArray)(x1:Int)(k0:(List Int)->Option (ByteArray×Int))(x9:List Int)(code5:List Int)(v26:Int):Option (ByteArray×Int) :=
 bif decide (v26<(List.length x9:Int)) then ((ix x9 v26).bind λ x10 =>
 bif decide (x10<(48:Int)) then (some (zaz,(9:Int)))
 else (bif decide ((57:Int)<x10) then (some (zaz,(9:Int)))
 else ((app 8 code5 [Wk .u8 (x10-(48:Int))]).bind λ x11 =>
 r6 x11 (W (v26+(1:Int))))))
 else (k0 code5)
def zm1 (a0:ByteArray)(x1:Int)(k0:(List Int)->Option (ByteArray×Int))(x9:List Int):Nat->(List Int)->Int->Option (ByteArray×Int)
 | 0,_,_=>none
 | n+1,code5,v26=>zph (zm1 a0 x1 k0 x9 n) a0 x1 k0 x9 code5 v26
def zvO (a0:ByteArray)(x1:Int)(k0:(List Int)->Option (ByteArray×Int))(x9:List Int):Lp (Nat×(List Int)×Int) (Nat×Unit) (ByteArray×Int):=lpm ⟨[0,4,5,24,25,26],[90005],[(.slot 5,90005,3,1)],[]⟩ (λ (n,code5,v26)=>zm1 a0 x1 k0 x9 n code5 v26) (λ (_,_,v26) (m0,_)=>[.dat (strN a0), .dat (iN x1), .rs 90005 m0, .dat (zx9 x9), .dat (iN (List.length x9:Int)), .dat (iN v26)]) (λ (_,code5,_) (_,_)=>[.row 3 1 (List.map iN code5)]) λ (_,code5,_)=>(List.length code5,())
instance Ef75_6 {a0 x1 k0 x9 n code5 v26}:IsLp 1 2 (zm1 a0 x1 k0 x9 n code5 v26) (zvO a0 x1 k0 x9) (n,code5,v26):=⟨rfl⟩
def f75 (N:Nat)(a0:ByteArray):Option (ByteArray×Int) :=
 (f100 N a0 (32:Int)).bind λ x1 =>
 bif decide (x1<(0:Int)) then (some (zaz,(9:Int)))
 else (bif decide (¬ (W ((W ((ByteArray.size a0:Int)-x1))-(1:Int)))=(5:Int)) then (some (zaz,(9:Int)))
 else (zap (zg a0 N x1) λ k0 =>
 (subS a0 (W (x1+(1:Int))) (ByteArray.size a0:Int)).bind λ x8 =>
 (some (zgw x8)).bind λ x9 =>
 zm1 a0 x1 k0 x9 N [] (0:Int)))
def G75 (ds:List D)(d:D):Prop:=∃ (N:Nat) (a0:ByteArray) (r:ByteArray×Int),ds=[strN a0]/\f75 N a0=some r/\d = .tup [strN r.1,iN r.2]
theorem G75.lend {a0}{A:_->Option ρ}{K:D->Prop}(hd:ds=[strN a0])(h:∀ r,A r=some q->K (.tup [strN r.1,iN r.2]))(hF:(f75 N a0).bind A=some q):∃ d,(G75 ds d/\d.flatB=true)/\K d:=by
 obtain⟨r,hr,hA⟩:=bind_some hF;exact⟨_,⟨⟨N,a0,r,hd,hr,rfl⟩,rfl⟩,h r hA⟩

end Go.Vc
namespace Go.Vc
open Go.Proofs
variable {N id:Nat} {ρ:Type} {q:ρ} {xs:List SV} {m:Nat->Blk} {l:List Loc} {ds:List D} {K:Dl->List Loc->Prop} {k0 k1 k2 k3 k4 k5 k6 k7 k8 k9 k10 k11 k12 k13 k14 k15 m0 m1 m2 m3 m4 m5:Nat}
def ziV (N:Nat)(x18:Int×LS×LE×LC×LB)(x19:Int×ByteArray×Int)(x20:Tally×Int)(b106_1':LB):Option (Bool) :=
 bif decide (x19.2.2=(0:Int)) then (bif decide (x20.2=(0:Int)) then (bif decide (x19.1=(8:Int)) then (bif decide (x19.2.1=zaz) then (bif (decide (x20.1.Paper=(100:Int))&&(decide (x20.1.Delivered=(59:Int))&&(decide (x20.1.Spoilt=(26:Int))&&(decide (x20.1.Lost=(15:Int))&&(decide (x20.1.Rest=(0:Int))&&true))))) then ((f18 N (strC [101,100,105,116,105,111,110,32,77,97,112]) x18.2.2.2.2 x18.2.1 x18.2.2.1 x18.2.2.2.1).bind λ x21 =>
 bif decide (x21.1=(8:Int)) then ((f18 N (strC [115,116,111,110,101,32,99,32,48]) x21.2.2.2.2 x21.2.1 x21.2.2.1 x21.2.2.2.1).bind λ x22 =>
 bif decide (x22.1=(4:Int)) then ((f18 N (strC [112,114,105,110,116,32,98,32,49]) x22.2.2.2.2 x22.2.1 x22.2.2.1 x22.2.2.2.1).bind λ x23 =>
 bif decide (x23.1=(9:Int)) then ((f23 N (b106_1') [] [] []).bind λ x24 =>
 bif decide (x24=(strC [116,117,115,99,104,101,32,48,10])) then ((f18 N (strC [101,100,105,116,105,111,110,32,97]) (b106_1') [] [] []).bind λ x25 =>
 bif decide (x25.1=(0:Int)) then ((f23 N x25.2.2.2.2 x25.2.1 x25.2.2.1 x25.2.2.2.1).bind λ x26 =>
 some (decide (x26=(strC [116,117,115,99,104,101,32,49,10,101,100,105,116,105,111,110,32,97,32,52,49,55,48,54,10]))))
 else (some (false)))
 else (some (false)))
 else (some (false)))
 else (some (false)))
 else (some (false)))
 else (some (false)))
 else (some (false)))
 else (some (false)))
 else (some (false)))
 else (some (false))
def zlf (N:Nat)(x18:Int×LS×LE×LC×LB)(x19:Int×ByteArray×Int)(x20:Tally×Int):Lp (LB) (Nat×Nat) (Bool):=lpm ⟨[1,5,6,7,9,10,11],[905,1813,90520,zAD,zAB,zAE,zAF,zAC,2201000100,2201000101,2201000102,2201000104,2201000106],[(.cell 2201000106 1,90520,9,1)],[]⟩ (λ b106_1' => ziV N x18 x19 x20 b106_1') (λ _ (_,_)=>[.ptr zAC 0, .dat (iN x19.2.2), .ptr 905 0, .dat (iN x20.2), .dat (iN x19.1), .dat (strN x19.2.1), .ptr 2201000106 0]) (λ b106_1' (m0,m1)=>[.box [.dat (iN x20.1.Paper), .dat (iN x20.1.Delivered), .dat (iN x20.1.Spoilt), .dat (iN x20.1.Lost), .dat (iN x20.1.Rest)],(rW x18.2.2.2.2),(rW b106_1'),(sW [zAB] x18.2.1),(eW x18.2.2.1),(mW x18.2.2.2.1), .box [.mp zAD, .mp zAB, .mp zAE], .box [.ptr zAF 0, .rs 1813 m0], .fam [2201000101] (encF strN StoneM.m []) [], .fam [] (encF strN EditionM.m []) [], .mp (encM strN bN []), .box [.mp 2201000100, .mp 2201000101, .mp 2201000102], .box [.ptr 2201000104 0, .rs 90520 m1]]) λ b106_1' => (List.length x18.2.2.2.2,List.length (b106_1'))
instance Ef14_c23 {N x18 x19 x20 b106_1'}:IsLp 2 1 (ziV N x18 x19 x20 b106_1') (zlf N x18 x19 x20) b106_1':=⟨rfl⟩
instance Cf14_c23 {N x18 x19 x20}:IsCut 1 (ziV N x18 x19 x20) (zlf N x18 x19 x20) 23:=⟨⟩
def zm2 (N:Nat)(b106_1:LB)(b100:LS)(b101:LE)(b102:LC):Option (Bool) :=
 (f33 N (strC [109,97,112]) b106_1 b100 b101 b102).bind λ x2 =>
 (f34 N (strC [109,97,112]) b106_1 b100 b101 b102).bind λ x3 =>
 bif decide (¬ x2.2=(0:Int)) then (some (false))
 else (bif decide (¬ x3.2=(0:Int)) then (some (false))
 else ((f35 N x2.1 [(15:Int),(28:Int),(50:Int)]).bind λ x4 =>
 bif !x4 then (some (false))
 else (bif !(decide (x3.1.Paper=(100:Int))&&(decide (x3.1.Delivered=(0:Int))&&(decide (x3.1.Spoilt=(7:Int))&&(decide (x3.1.Lost=(0:Int))&&(decide (x3.1.Rest=(93:Int))&&true))))) then (some (false))
 else ((f18 N (strC [100,114,97,119,32,97,32,109,97,112]) b106_1 b100 b101 b102).bind λ x5 =>
 bif decide (¬ x5.1=(20:Int)) then (some (false))
 else ((f18 N (strC [112,114,105,110,116,32,98,32,50,57,32,48]) x5.2.2.2.2 x5.2.1 x5.2.2.1 x5.2.2.2.1).bind λ x6 =>
 bif decide (¬ x6.1=(16:Int)) then (some (false))
 else ((f18 N (strC [100,101,108,105,118,101,114,32,97,110,110,32,109,97,112,32,53,49]) x6.2.2.2.2 x6.2.1 x6.2.2.1 x6.2.2.2.1).bind λ x7 =>
 bif decide (¬ x7.1=(16:Int)) then (some (false))
 else ((f17 N (strC [103,114,105,110,100,32,98]) x7.2.2.2.2 x7.2.1 x7.2.2.1 x7.2.2.2.1).bind λ x8 =>
 bif decide (¬ x8=(12:Int)) then (some (false))
 else ((f18 N (strC [103,114,105,110,100,32,97]) x7.2.2.2.2 x7.2.1 x7.2.2.1 x7.2.2.2.1).bind λ x9 =>
 bif decide (¬ x9.1=(0:Int)) then (some (false))
 else ((f18 N (strC [112,114,105,110,116,32,97,32,49,32,48]) x9.2.2.2.2 x9.2.1 x9.2.2.1 x9.2.2.2.1).bind λ x10 =>
 bif decide (¬ x10.1=(1:Int)) then (some (false))
 else ((f18 N (strC [100,101,108,105,118,101,114,32,97,110,110,32,109,97,112,32,53,48]) x10.2.2.2.2 x10.2.1 x10.2.2.1 x10.2.2.2.1).bind λ x11 =>
 bif decide (¬ x11.1=(0:Int)) then (some (false))
 else ((f36 N (strC [97,110,110]) (strC [109,97,112]) x11.2.2.2.2 x11.2.1 x11.2.2.1 x11.2.2.2.1).bind λ x12 =>
 bif decide (¬ x12.2=(0:Int)) then (some (false))
 else (bif decide (¬ x12.1=(10:Int)) then (some (false))
 else ((f18 N (strC [112,114,105,110,116,32,98,32,57,32,49,56]) x11.2.2.2.2 x11.2.1 x11.2.2.1 x11.2.2.2.1).bind λ x13 =>
 bif decide (¬ x13.1=(0:Int)) then (some (false))
 else ((f18 N (strC [103,114,105,110,100,32,98]) x13.2.2.2.2 x13.2.1 x13.2.2.1 x13.2.2.2.1).bind λ x14 =>
 bif decide (¬ x14.1=(12:Int)) then (some (false))
 else ((f18 N (strC [112,114,105,110,116,32,98,32,48,32,49]) x14.2.2.2.2 x14.2.1 x14.2.2.1 x14.2.2.2.1).bind λ x15 =>
 bif decide (¬ x15.1=(0:Int)) then (some (false))
 else ((f40 N (strC [109,97,112]) x15.2.2.2.2 x15.2.1 x15.2.2.1 x15.2.2.2.1).bind λ x16 =>
 bif decide (¬ x16.2=(0:Int)) then (some (false))
 else (bif decide (¬ x16.1=(1:Int)) then (some (false))
 else ((f18 N (strC [103,114,105,110,100,32,98]) x15.2.2.2.2 x15.2.1 x15.2.2.1 x15.2.2.2.1).bind λ x17 =>
 bif decide (¬ x17.1=(0:Int)) then (some (false))
 else ((f18 N (strC [100,101,108,105,118,101,114,32,97,110,110,32,109,97,112,32,57]) x17.2.2.2.2 x17.2.1 x17.2.2.1 x17.2.2.2.1).bind λ x18 =>
 bif decide (¬ x18.1=(0:Int)) then (some (false))
 else ((f32 N (strC [98]) x18.2.2.2.2 x18.2.1 x18.2.2.1 x18.2.2.2.1).bind λ x19 =>
 (f34 N (strC [109,97,112]) x18.2.2.2.2 x18.2.1 x18.2.2.1 x18.2.2.2.1).bind λ x20 =>
 zap (ziV N x18 x19 x20) λ k0 =>
 k0 []))))))))))))))))))))
def zoh (N:Nat):Lp (LB×LS×LE×LC) (Nat×Unit) (Bool):=lpm ⟨[1],[90500,zAD,zAB,zAE,zAF,zAC],[(.cell zAC 1,90500,9,1)],[]⟩ (λ (b106_1,b100,b101,b102)=>zm2 N b106_1 b100 b101 b102) (λ (_,_,_,_) (_,_)=>[.ptr zAC 0]) (λ (b106_1,b100,b101,b102) (m0,_)=>[(rW b106_1),(sW [zAB] b100),(eW b101),(mW b102), .box [.mp zAD, .mp zAB, .mp zAE], .box [.ptr zAF 0, .rs 90500 m0]]) λ (b106_1,_,_,_)=>(List.length b106_1,())
instance Ef14_c8 {N b106_1 b100 b101 b102}:IsLp 1 4 (zm2 N b106_1 b100 b101 b102) (zoh N) (b106_1,b100,b101,b102):=⟨rfl⟩
instance Cf14_c8 {N}:IsCut 4 (zm2 N) (zoh N) 8:=⟨⟩
def zjU (N:Nat)(x1:LB)(v3:Int)(b106_1:LB)(b100:LS)(b101:LE)(b102:LC)(r4:Int->LB->LS->LE->LC->Option (Bool)):Option (Bool) :=
 (ix x1 v3).bind λ x27 =>
 (f18 N x27 b106_1 b100 b101 b102).bind λ x28 =>
 bif decide (¬ x28.1=(0:Int)) then (some (false))
 else (r4 (W (v3+(1:Int))) x28.2.2.2.2 x28.2.1 x28.2.2.1 x28.2.2.2.1)
def zoi (N:Nat)(x1:LB)(v3:Int)(b106_1:LB)(b100:LS)(b101:LE)(b102:LC)(r4:Int->LB->LS->LE->LC->Option (Bool)):Lp (Unit) (Nat×Unit) (Bool):=lpm ⟨[1,2,3],[90500,zAD,zAB,zAE,zAF,zAC],[],[]⟩ (λ _=>zjU N x1 v3 b106_1 b100 b101 b102 r4) (λ _ (_,_)=>[.ptr zAC 0, .dat (zau x1), .dat (iN v3)]) (λ _ (m0,_)=>[(rW b106_1),(sW [zAB] b100),(eW b101),(mW b102), .box [.mp zAD, .mp zAB, .mp zAE], .box [.ptr zAF 0, .rs 90500 m0]]) λ _=>(List.length b106_1,())
instance Ef14_c6 {N x1 v3 b106_1 b100 b101 b102 r4}:IsLp 1 0 (zjU N x1 v3 b106_1 b100 b101 b102 r4) (zoi N x1 v3 b106_1 b100 b101 b102 r4) ():=⟨rfl⟩
instance Cf14_c6 {N x1 v3 b106_1 b100 b101 b102 r4}:IsCut 0 (zjU N x1 v3 b106_1 b100 b101 b102 r4) (zoi N x1 v3 b106_1 b100 b101 b102 r4) 6:=⟨⟩
def zvP (r4:Int->LB->LS->LE->LC->Option (Bool))(N:Nat)(x1:LB)(k1:LB->LS->LE->LC->Option (Bool))(v3:Int)(b106_1:LB)(b100:LS)(b101:LE)(b102:LC):Option (Bool) :=
 zap (zjU N x1 v3 b106_1 b100 b101 b102 r4) λ k2 =>
 bif decide (v3<(List.length x1:Int)) then k2
 else (k1 b106_1 b100 b101 b102)
def zsz (N:Nat)(x1:LB)(k1:LB->LS->LE->LC->Option (Bool)):Nat->Int->LB->LS->LE->LC->Option (Bool)
 | 0,_,_,_,_,_=>none
 | n+1,v3,b106_1,b100,b101,b102=>zvP (zsz N x1 k1 n) N x1 k1 v3 b106_1 b100 b101 b102
def zvQ (N:Nat)(x1:LB)(k1:LB->LS->LE->LC->Option (Bool)):Lp (Nat×Int×LB×LS×LE×LC) (Nat×Unit) (Bool):=lpm ⟨[1,2,3],[90500,zAD,zAB,zAE,zAF,zAC],[(.cell zAC 1,90500,9,1)],[]⟩ (λ (n,v3,b106_1,b100,b101,b102)=>zsz N x1 k1 n v3 b106_1 b100 b101 b102) (λ (_,v3,_,_,_,_) (_,_)=>[.ptr zAC 0, .dat (zau x1), .dat (iN v3)]) (λ (_,_,b106_1,b100,b101,b102) (m0,_)=>[(rW b106_1),(sW [zAB] b100),(eW b101),(mW b102), .box [.mp zAD, .mp zAB, .mp zAE], .box [.ptr zAF 0, .rs 90500 m0]]) λ (_,_,b106_1,_,_,_)=>(List.length b106_1,())
instance Ef14_4 {N x1 k1 n v3 b106_1 b100 b101 b102}:IsLp 1 5 (zsz N x1 k1 n v3 b106_1 b100 b101 b102) (zvQ N x1 k1) (n,v3,b106_1,b100,b101,b102):=⟨rfl⟩
def f14 (N:Nat):Option (Bool) :=
 (f44 N ).bind λ x1 =>
 zap (zm2 N) λ k1 =>
 zsz N x1 k1 N (0:Int) [] [] [] []
def G14 (ds:List D)(d:D):Prop:=∃ (N:Nat) (r:Bool),ds=[]/\f14 N  = some r/\d=bN r
theorem G14.lend {A:_->Option ρ}{K:D->Prop}(hd:ds=[])(h:∀ r,A r=some q->K (bN r))(hF:(f14 N ).bind A=some q):∃ d,(G14 ds d/\d.flatB=true)/\K d:=by
 obtain⟨r,hr,hA⟩:=bind_some hF;exact⟨_,⟨⟨N,r,hd,hr,rfl⟩,rfl⟩,h r hA⟩

end Go.Vc
namespace Go.Vc
open Go.Proofs
variable {N id:Nat} {ρ:Type} {q:ρ} {xs:List SV} {m:Nat->Blk} {l:List Loc} {ds:List D} {K:Dl->List Loc->Prop} {k0 k1 k2 k3 k4 k5 k6 k7 k8 k9 k10 k11 k12 k13 k14 k15 m0 m1 m2 m3 m4 m5:Nat}
def zdn (b101_1:LB):Option (Bool) :=
 some (false)
def ze1:Lp (LB) (Nat×Unit) (Bool):=lpm ⟨[7],[zAv,zAw],[(.cell zAw 1,zAv,9,1)],[]⟩ (λ b101_1=>zdn b101_1) (λ _ (_,_)=>[.ptr zAw 0]) (λ b101_1 (m0,_)=>[(rW b101_1), .box [.kb true, .rs zAv m0]]) λ b101_1=>(List.length b101_1,())
instance zvR {b101_1}:IsLp 1 1 (zdn b101_1) (ze1) b101_1:=⟨rfl⟩
instance zvS:IsCut 1 (zdn) (ze1) zAI:=⟨⟩
def ziW (r17:Int->LB->Option (Bool))(N:Nat)(v4:LB)(k0:LB->Option (Bool))(v8:Int)(b101_1:LB):Option (Bool) :=
 bif decide (v8<(List.length v4:Int)) then ((ix v4 v8).bind λ x9 =>
 (f76 N x9).bind λ x10 =>
 bif decide (x10.2=(0:Int)) then ((f52 N (BookM.mk true b101_1) x10.1).bind λ x11 =>
 bif decide (x11=(0:Int)) then ((app 16 b101_1 [x10.1]).bind λ x12 =>
 bif decide (¬ x11=(0:Int)) then (bif decide (¬ (18:Int)=x11) then (some (false))
 else ((f14 N ).bind λ x13 =>
 some (x13)))
 else (r17 (W (v8+(1:Int))) x12))
 else (bif decide (¬ x11=(0:Int)) then (bif decide (¬ (18:Int)=x11) then (some (false))
 else ((f14 N ).bind λ x14 =>
 some (x14)))
 else (r17 (W (v8+(1:Int))) b101_1)))
 else (bif decide (¬ x10.2=(0:Int)) then (bif decide (¬ (18:Int)=x10.2) then (some (false))
 else ((f14 N ).bind λ x15 =>
 some (x15)))
 else (r17 (W (v8+(1:Int))) b101_1)))
 else (k0 b101_1)
def zd8 (N:Nat)(v4:LB)(k0:LB->Option (Bool)):Nat->Int->LB->Option (Bool)
 | 0,_,_=>none
 | n+1,v8,b101_1=>ziW (zd8 N v4 k0 n) N v4 k0 v8 b101_1
def ziX (N:Nat)(v4:LB)(k0:LB->Option (Bool)):Lp (Nat×Int×LB) (Nat×Nat) (Bool):=lpm ⟨[4,7,8],[zAt,zAv,zAw],[(.cell zAw 1,zAv,9,1)],[]⟩ (λ (n,v8,b101_1)=>zd8 N v4 k0 n v8 b101_1) (λ (_,v8,_) (m0,_)=>[.rs zAt m0, .ptr zAw 0, .dat (iN v8)]) (λ (_,_,b101_1) (_,m1)=>[(rW v4),(rW b101_1), .box [.kb true, .rs zAv m1]]) λ (_,_,b101_1)=>(List.length v4,List.length b101_1)
instance zw7 {N v4 k0 n v8 b101_1}:IsLp 2 2 (zd8 N v4 k0 n v8 b101_1) (ziX N v4 k0) (n,v8,b101_1):=⟨rfl⟩
def zdo (N:Nat)(v4:LB):Option (Bool) :=
 (ix v4 (0:Int)).bind λ x6 =>
 (f30 N (W ((List.length v4:Int)-(1:Int)))).bind λ x7 =>
 (addS (strC [116,117,115,99,104,101,32]) x7).bind λ x8 =>
 bif decide (¬ x6=x8) then (some (false))
 else (zap zdn λ k0 =>
 zd8 N v4 k0 N (1:Int) [])
def ze2 (N:Nat):Lp (LB) (Nat×Unit) (Bool):=lpm ⟨[4],[zAt],[(.slot 4,zAt,9,1)],[]⟩ (λ v4=>zdo N v4) (λ _ (m0,_)=>[.rs zAt m0]) (λ v4 (_,_)=>[(rW v4)]) λ v4=>(List.length v4,())
instance zvT {N v4}:IsLp 1 1 (zdo N v4) (ze2 N) v4:=⟨rfl⟩
instance zvU {N}:IsCut 1 (zdo N) (ze2 N) zAJ:=⟨⟩
def zb3 (r8:LB->Int->Int->Option (Bool))(a0:ByteArray)(k1:LB->Option (Bool))(v4:LB)(v5:Int)(v6:Int):Option (Bool) :=
 bif decide (v6<(ByteArray.size a0:Int)) then ((idxS a0 v6).bind λ x16 =>
 bif decide (x16=(10:Int)) then ((subS a0 v5 v6).bind λ x17 =>
 (app 16 v4 [x17]).bind λ x18 =>
 r8 x18 (W (v6+(1:Int))) (W (v6+(1:Int))))
 else (r8 v4 v5 (W (v6+(1:Int)))))
 else (k1 v4)
def zaW (a0:ByteArray)(k1:LB->Option (Bool)):Nat->LB->Int->Int->Option (Bool)
 | 0,_,_,_=>none
 | n+1,v4,v5,v6=>zb3 (zaW a0 k1 n) a0 k1 v4 v5 v6
def zjV (a0:ByteArray)(k1:LB->Option (Bool)):Lp (Nat×LB×Int×Int) (Nat×Unit) (Bool):=lpm ⟨[0,4,5,6],[zAt],[(.slot 4,zAt,9,1)],[]⟩ (λ (n,v4,v5,v6)=>zaW a0 k1 n v4 v5 v6) (λ (_,_,v5,v6) (m0,_)=>[.dat (strN a0), .rs zAt m0, .dat (iN v5), .dat (iN v6)]) (λ (_,v4,_,_) (_,_)=>[(rW v4)]) λ (_,v4,_,_)=>(List.length v4,())
instance zxG {a0 k1 n v4 v5 v6}:IsLp 1 3 (zaW a0 k1 n v4 v5 v6) (zjV a0 k1) (n,v4,v5,v6):=⟨rfl⟩
def zb4 (b101_1:LB):Option (Bool) :=
 some (false)
def zdO:Lp (LB) (Nat×Unit) (Bool):=lpm ⟨[7],[zAv,zAw],[(.cell zAw 1,zAv,9,1)],[]⟩ (λ b101_1=>zb4 b101_1) (λ _ (_,_)=>[.ptr zAw 0]) (λ b101_1 (m0,_)=>[(rW b101_1), .box [.kb true, .rs zAv m0]]) λ b101_1=>(List.length b101_1,())
instance ztc {b101_1}:IsLp 1 1 (zb4 b101_1) (zdO) b101_1:=⟨rfl⟩
instance ztd:IsCut 1 (zb4) (zdO) zAI:=⟨⟩
def zev (r17:Int->LB->Option (Bool))(N:Nat)(v4:LB)(k2:LB->Option (Bool))(v8:Int)(b101_1:LB):Option (Bool) :=
 bif decide (v8<(List.length v4:Int)) then ((ix v4 v8).bind λ x29 =>
 (f76 N x29).bind λ x30 =>
 bif decide (x30.2=(0:Int)) then ((f52 N (BookM.mk true b101_1) x30.1).bind λ x31 =>
 bif decide (x31=(0:Int)) then ((app 16 b101_1 [x30.1]).bind λ x32 =>
 bif decide (¬ x31=(0:Int)) then (bif decide (¬ (9:Int)=x31) then (some (false))
 else ((f14 N ).bind λ x33 =>
 some (x33)))
 else (r17 (W (v8+(1:Int))) x32))
 else (bif decide (¬ x31=(0:Int)) then (bif decide (¬ (9:Int)=x31) then (some (false))
 else ((f14 N ).bind λ x34 =>
 some (x34)))
 else (r17 (W (v8+(1:Int))) b101_1)))
 else (bif decide (¬ x30.2=(0:Int)) then (bif decide (¬ (9:Int)=x30.2) then (some (false))
 else ((f14 N ).bind λ x35 =>
 some (x35)))
 else (r17 (W (v8+(1:Int))) b101_1)))
 else (k2 b101_1)
def zbV (N:Nat)(v4:LB)(k2:LB->Option (Bool)):Nat->Int->LB->Option (Bool)
 | 0,_,_=>none
 | n+1,v8,b101_1=>zev (zbV N v4 k2 n) N v4 k2 v8 b101_1
def zgM (N:Nat)(v4:LB)(k2:LB->Option (Bool)):Lp (Nat×Int×LB) (Nat×Nat) (Bool):=lpm ⟨[4,7,8],[zAt,zAv,zAw],[(.cell zAw 1,zAv,9,1)],[]⟩ (λ (n,v8,b101_1)=>zbV N v4 k2 n v8 b101_1) (λ (_,v8,_) (m0,_)=>[.rs zAt m0, .ptr zAw 0, .dat (iN v8)]) (λ (_,_,b101_1) (_,m1)=>[(rW v4),(rW b101_1), .box [.kb true, .rs zAv m1]]) λ (_,_,b101_1)=>(List.length v4,List.length b101_1)
instance zuL {N v4 k2 n v8 b101_1}:IsLp 2 2 (zbV N v4 k2 n v8 b101_1) (zgM N v4 k2) (n,v8,b101_1):=⟨rfl⟩
def zbJ (N:Nat)(v4:LB):Option (Bool) :=
 (ix v4 (0:Int)).bind λ x25 =>
 (f30 N (W ((List.length v4:Int)-(1:Int)))).bind λ x26 =>
 (addS (strC [116,117,115,99,104,101,32]) x26).bind λ x27 =>
 bif decide (¬ x25=x27) then ((f14 N ).bind λ x28 =>
 some (x28))
 else (zap zb4 λ k2 =>
 zbV N v4 k2 N (1:Int) [])
def zdP (N:Nat):Lp (LB) (Nat×Unit) (Bool):=lpm ⟨[4],[zAt],[(.slot 4,zAt,9,1)],[]⟩ (λ v4=>zbJ N v4) (λ _ (m0,_)=>[.rs zAt m0]) (λ v4 (_,_)=>[(rW v4)]) λ v4=>(List.length v4,())
instance zte {N v4}:IsLp 1 1 (zbJ N v4) (zdP N) v4:=⟨rfl⟩
instance ztf {N}:IsCut 1 (zbJ N) (zdP N) zAJ:=⟨⟩
def ze3 (r8:LB->Int->Int->Option (Bool))(a0:ByteArray)(k3:LB->Option (Bool))(v4:LB)(v5:Int)(v6:Int):Option (Bool) :=
 bif decide (v6<(ByteArray.size a0:Int)) then ((idxS a0 v6).bind λ x36 =>
 bif decide (x36=(10:Int)) then ((subS a0 v5 v6).bind λ x37 =>
 (app 16 v4 [x37]).bind λ x38 =>
 r8 x38 (W (v6+(1:Int))) (W (v6+(1:Int))))
 else (r8 v4 v5 (W (v6+(1:Int)))))
 else (k3 v4)
def zcl (a0:ByteArray)(k3:LB->Option (Bool)):Nat->LB->Int->Int->Option (Bool)
 | 0,_,_,_=>none
 | n+1,v4,v5,v6=>ze3 (zcl a0 k3 n) a0 k3 v4 v5 v6
def zhu (a0:ByteArray)(k3:LB->Option (Bool)):Lp (Nat×LB×Int×Int) (Nat×Unit) (Bool):=lpm ⟨[0,4,5,6],[zAt],[(.slot 4,zAt,9,1)],[]⟩ (λ (n,v4,v5,v6)=>zcl a0 k3 n v4 v5 v6) (λ (_,_,v5,v6) (m0,_)=>[.dat (strN a0), .rs zAt m0, .dat (iN v5), .dat (iN v6)]) (λ (_,v4,_,_) (_,_)=>[(rW v4)]) λ (_,v4,_,_)=>(List.length v4,())
instance zvV {a0 k3 n v4 v5 v6}:IsLp 1 3 (zcl a0 k3 n v4 v5 v6) (zhu a0 k3) (n,v4,v5,v6):=⟨rfl⟩
def zbn (N:Nat)(b106_1:LB)(b100:LS)(b101:LE)(b102:LC)(b101_1:LB):Option (Bool) :=
 (f21 N b106_1 b100 b101 b102).bind λ x43 =>
 (f55 N (BookM.mk true b101_1)).bind λ x44 =>
 bif x44 then ((f20 N x43 []).bind λ x45 =>
 bif x45 then ((f23 N b106_1 b100 b101 b102).bind λ x46 =>
 (f24 N (BookM.mk true b101_1)).bind λ x47 =>
 bif decide (x46=x47) then ((f14 N ).bind λ x48 =>
 some (x48))
 else (some (false)))
 else (some (false)))
 else ((app 16 [] b101_1).bind λ x49 =>
 (f20 N x43 x49).bind λ x50 =>
 bif x50 then ((f23 N b106_1 b100 b101 b102).bind λ x51 =>
 (f24 N (BookM.mk true b101_1)).bind λ x52 =>
 bif decide (x51=x52) then ((f14 N ).bind λ x53 =>
 some (x53))
 else (some (false)))
 else (some (false)))
def zdQ (N:Nat)(b106_1:LB)(b100:LS)(b101:LE)(b102:LC):Lp (LB) (Nat×Nat) (Bool):=lpm ⟨[7],[zAz,zAu,zAs,zAx,zAy,zAA,zAv,zAw],[(.cell zAw 1,zAv,9,1)],[]⟩ (λ b101_1=>zbn N b106_1 b100 b101 b102 b101_1) (λ _ (_,_)=>[.ptr zAw 0]) (λ b101_1 (m0,m1)=>[(rW b106_1),(sW [zAs] b100),(eW b101),(mW b102), .box [.mp zAu, .mp zAs, .mp zAx], .box [.ptr zAy 0, .rs zAz m0],(rW b101_1), .box [.kb true, .rs zAv m1]]) λ b101_1=>(List.length b106_1,List.length b101_1)
instance ztg {N b106_1 b100 b101 b102 b101_1}:IsLp 2 1 (zbn N b106_1 b100 b101 b102 b101_1) (zdQ N b106_1 b100 b101 b102) b101_1:=⟨rfl⟩
instance zth {N b106_1 b100 b101 b102}:IsCut 1 (zbn N b106_1 b100 b101 b102) (zdQ N b106_1 b100 b101 b102) zAI:=⟨⟩
def zew (r17:Int->LB->Option (Bool))(N:Nat)(b106_1:LB)(b100:LS)(b101:LE)(b102:LC)(v4:LB)(k4:LB->Option (Bool))(v8:Int)(b101_1:LB):Option (Bool) :=
 bif decide (v8<(List.length v4:Int)) then ((ix v4 v8).bind λ x54 =>
 (f76 N x54).bind λ x55 =>
 bif decide (x55.2=(0:Int)) then ((f52 N (BookM.mk true b101_1) x55.1).bind λ x56 =>
 bif decide (x56=(0:Int)) then ((app 16 b101_1 [x55.1]).bind λ x57 =>
 bif decide (¬ x56=(0:Int)) then (bif decide (¬ (0:Int)=x56) then (some (false))
 else (some (false)))
 else (r17 (W (v8+(1:Int))) x57))
 else (bif decide (¬ x56=(0:Int)) then (bif decide (¬ (0:Int)=x56) then (some (false))
 else (some (false)))
 else (r17 (W (v8+(1:Int))) b101_1)))
 else (bif decide (¬ x55.2=(0:Int)) then (bif decide (¬ (0:Int)=x55.2) then (some (false))
 else (some (false)))
 else (r17 (W (v8+(1:Int))) b101_1)))
 else (k4 b101_1)
def zbW (N:Nat)(b106_1:LB)(b100:LS)(b101:LE)(b102:LC)(v4:LB)(k4:LB->Option (Bool)):Nat->Int->LB->Option (Bool)
 | 0,_,_=>none
 | n+1,v8,b101_1=>zew (zbW N b106_1 b100 b101 b102 v4 k4 n) N b106_1 b100 b101 b102 v4 k4 v8 b101_1
def zgN (N:Nat)(b106_1:LB)(b100:LS)(b101:LE)(b102:LC)(v4:LB)(k4:LB->Option (Bool)):Lp (Nat×Int×LB) (Nat×Nat×Nat) (Bool):=lpm ⟨[4,7,8],[zAz,zAu,zAs,zAx,zAy,zAA,zAt,zAv,zAw],[(.cell zAw 1,zAv,9,1)],[]⟩ (λ (n,v8,b101_1)=>zbW N b106_1 b100 b101 b102 v4 k4 n v8 b101_1) (λ (_,v8,_) (m0,_,_)=>[.rs zAt m0, .ptr zAw 0, .dat (iN v8)]) (λ (_,_,b101_1) (_,m1,m2)=>[(rW b106_1),(sW [zAs] b100),(eW b101),(mW b102), .box [.mp zAu, .mp zAs, .mp zAx], .box [.ptr zAy 0, .rs zAz m1],(rW v4),(rW b101_1), .box [.kb true, .rs zAv m2]]) λ (_,_,b101_1)=>(List.length v4,List.length b106_1,List.length b101_1)
instance zuM {N b106_1 b100 b101 b102 v4 k4 n v8 b101_1}:IsLp 3 2 (zbW N b106_1 b100 b101 b102 v4 k4 n v8 b101_1) (zgN N b106_1 b100 b101 b102 v4 k4) (n,v8,b101_1):=⟨rfl⟩
def zbK (N:Nat)(b106_1:LB)(b100:LS)(b101:LE)(b102:LC)(v4:LB):Option (Bool) :=
 (ix v4 (0:Int)).bind λ x40 =>
 (f30 N (W ((List.length v4:Int)-(1:Int)))).bind λ x41 =>
 (addS (strC [116,117,115,99,104,101,32]) x41).bind λ x42 =>
 bif decide (¬ x40=x42) then (some (false))
 else (zap (zbn N b106_1 b100 b101 b102) λ k4 =>
 zbW N b106_1 b100 b101 b102 v4 k4 N (1:Int) [])
def zdR (N:Nat)(b106_1:LB)(b100:LS)(b101:LE)(b102:LC):Lp (LB) (Nat×Nat) (Bool):=lpm ⟨[4],[zAz,zAu,zAs,zAx,zAy,zAA,zAt],[(.slot 4,zAt,9,1)],[]⟩ (λ v4=>zbK N b106_1 b100 b101 b102 v4) (λ _ (m0,_)=>[.rs zAt m0]) (λ v4 (_,m1)=>[(rW b106_1),(sW [zAs] b100),(eW b101),(mW b102), .box [.mp zAu, .mp zAs, .mp zAx], .box [.ptr zAy 0, .rs zAz m1],(rW v4)]) λ v4=>(List.length v4,List.length b106_1)
instance zti {N b106_1 b100 b101 b102 v4}:IsLp 2 1 (zbK N b106_1 b100 b101 b102 v4) (zdR N b106_1 b100 b101 b102) v4:=⟨rfl⟩
instance ztj {N b106_1 b100 b101 b102}:IsCut 1 (zbK N b106_1 b100 b101 b102) (zdR N b106_1 b100 b101 b102) zAJ:=⟨⟩
def ze4 (r8:LB->Int->Int->Option (Bool))(a0:ByteArray)(b106_1:LB)(b100:LS)(b101:LE)(b102:LC)(k5:LB->Option (Bool))(v4:LB)(v5:Int)(v6:Int):Option (Bool) :=
 bif decide (v6<(ByteArray.size a0:Int)) then ((idxS a0 v6).bind λ x58 =>
 bif decide (x58=(10:Int)) then ((subS a0 v5 v6).bind λ x59 =>
 (app 16 v4 [x59]).bind λ x60 =>
 r8 x60 (W (v6+(1:Int))) (W (v6+(1:Int))))
 else (r8 v4 v5 (W (v6+(1:Int)))))
 else (k5 v4)
def zcm (a0:ByteArray)(b106_1:LB)(b100:LS)(b101:LE)(b102:LC)(k5:LB->Option (Bool)):Nat->LB->Int->Int->Option (Bool)
 | 0,_,_,_=>none
 | n+1,v4,v5,v6=>ze4 (zcm a0 b106_1 b100 b101 b102 k5 n) a0 b106_1 b100 b101 b102 k5 v4 v5 v6
def zhv (a0:ByteArray)(b106_1:LB)(b100:LS)(b101:LE)(b102:LC)(k5:LB->Option (Bool)):Lp (Nat×LB×Int×Int) (Nat×Nat) (Bool):=lpm ⟨[0,4,5,6],[zAz,zAu,zAs,zAx,zAy,zAA,zAt],[(.slot 4,zAt,9,1)],[]⟩ (λ (n,v4,v5,v6)=>zcm a0 b106_1 b100 b101 b102 k5 n v4 v5 v6) (λ (_,_,v5,v6) (m0,_)=>[.dat (strN a0), .rs zAt m0, .dat (iN v5), .dat (iN v6)]) (λ (_,v4,_,_) (_,m1)=>[(rW b106_1),(sW [zAs] b100),(eW b101),(mW b102), .box [.mp zAu, .mp zAs, .mp zAx], .box [.ptr zAy 0, .rs zAz m1],(rW v4)]) λ (_,v4,_,_)=>(List.length v4,List.length b106_1)
instance zvW {a0 b106_1 b100 b101 b102 k5 n v4 v5 v6}:IsLp 2 3 (zcm a0 b106_1 b100 b101 b102 k5 n v4 v5 v6) (zhv a0 b106_1 b100 b101 b102 k5) (n,v4,v5,v6):=⟨rfl⟩
def zbX (a0:ByteArray)(N:Nat)(b106_1:LB)(b100:LS)(b101:LE)(b102:LC):Option (Bool) :=
 bif decide ((ByteArray.size a0:Int)=(0:Int)) then (some (false))
 else ((idxS a0 (W ((ByteArray.size a0:Int)-(1:Int)))).bind λ x39 =>
 bif decide (¬ x39=(10:Int)) then (some (false))
 else (zap (zbK N b106_1 b100 b101 b102) λ k5 =>
 zcm a0 b106_1 b100 b101 b102 k5 N [] (0:Int) (0:Int)))
def ze5 (a0:ByteArray)(N:Nat):Lp (LB×LS×LE×LC) (Nat×Unit) (Bool):=lpm ⟨[5],[zAz,zAu,zAs,zAx,zAy,zAA],[(.cell zAA 1,zAz,9,1)],[]⟩ (λ (b106_1,b100,b101,b102)=>zbX a0 N b106_1 b100 b101 b102) (λ (_,_,_,_) (_,_)=>[.ptr zAA 0]) (λ (b106_1,b100,b101,b102) (m0,_)=>[(rW b106_1),(sW [zAs] b100),(eW b101),(mW b102), .box [.mp zAu, .mp zAs, .mp zAx], .box [.ptr zAy 0, .rs zAz m0]]) λ (b106_1,_,_,_)=>(List.length b106_1,())
instance zvX {a0 N b106_1 b100 b101 b102}:IsLp 1 4 (zbX a0 N b106_1 b100 b101 b102) (ze5 a0 N) (b106_1,b100,b101,b102):=⟨rfl⟩
instance zvY {a0 N}:IsCut 4 (zbX a0 N) (ze5 a0 N) 302000000018:=⟨⟩
def zb5 (x63:Int×LS×LE×LC×LB)(b101_1:LB):Option (Bool) :=
 some (false)
def zdS (x63:Int×LS×LE×LC×LB):Lp (LB) (Nat×Nat) (Bool):=lpm ⟨[7],[zAG,zAz,zAu,zAs,zAx,zAy,zAA,zAv,zAw],[(.cell zAw 1,zAv,9,1)],[]⟩ (λ b101_1=>zb5 x63 b101_1) (λ _ (_,_)=>[.ptr zAw 0]) (λ b101_1 (m0,m1)=>[(rW x63.2.2.2.2), .dead,(sW [zAs] x63.2.1),(eW x63.2.2.1),(mW x63.2.2.2.1), .box [.mp zAu, .mp zAs, .mp zAx], .box [.ptr zAy 0, .rs zAG m0],(rW b101_1), .box [.kb true, .rs zAv m1]]) λ b101_1=>(List.length x63.2.2.2.2,List.length b101_1)
instance ztk {x63 b101_1}:IsLp 2 1 (zb5 x63 b101_1) (zdS x63) b101_1:=⟨rfl⟩
instance ztl {x63}:IsCut 1 (zb5 x63) (zdS x63) zAI:=⟨⟩
def zex (r17:Int->LB->Option (Bool))(N:Nat)(x63:Int×LS×LE×LC×LB)(v4:LB)(k7:LB->Option (Bool))(v8:Int)(b101_1:LB):Option (Bool) :=
 bif decide (v8<(List.length v4:Int)) then ((ix v4 v8).bind λ x71 =>
 (f76 N x71).bind λ x72 =>
 bif decide (x72.2=(0:Int)) then ((f52 N (BookM.mk true b101_1) x72.1).bind λ x73 =>
 bif decide (x73=(0:Int)) then ((app 16 b101_1 [x72.1]).bind λ x74 =>
 bif decide (¬ x73=(0:Int)) then (bif decide (¬ x63.1=x73) then (some (false))
 else ((f14 N ).bind λ x75 =>
 some (x75)))
 else (r17 (W (v8+(1:Int))) x74))
 else (bif decide (¬ x73=(0:Int)) then (bif decide (¬ x63.1=x73) then (some (false))
 else ((f14 N ).bind λ x76 =>
 some (x76)))
 else (r17 (W (v8+(1:Int))) b101_1)))
 else (bif decide (¬ x72.2=(0:Int)) then (bif decide (¬ x63.1=x72.2) then (some (false))
 else ((f14 N ).bind λ x77 =>
 some (x77)))
 else (r17 (W (v8+(1:Int))) b101_1)))
 else (k7 b101_1)
def zbY (N:Nat)(x63:Int×LS×LE×LC×LB)(v4:LB)(k7:LB->Option (Bool)):Nat->Int->LB->Option (Bool)
 | 0,_,_=>none
 | n+1,v8,b101_1=>zex (zbY N x63 v4 k7 n) N x63 v4 k7 v8 b101_1
def zgO (N:Nat)(x63:Int×LS×LE×LC×LB)(v4:LB)(k7:LB->Option (Bool)):Lp (Nat×Int×LB) (Nat×Nat×Nat) (Bool):=lpm ⟨[4,7,8],[zAG,zAz,zAu,zAs,zAx,zAy,zAA,zAt,zAv,zAw],[(.cell zAw 1,zAv,9,1)],[]⟩ (λ (n,v8,b101_1)=>zbY N x63 v4 k7 n v8 b101_1) (λ (_,v8,_) (m0,_,_)=>[.rs zAt m0, .ptr zAw 0, .dat (iN v8)]) (λ (_,_,b101_1) (_,m1,m2)=>[(rW x63.2.2.2.2), .dead,(sW [zAs] x63.2.1),(eW x63.2.2.1),(mW x63.2.2.2.1), .box [.mp zAu, .mp zAs, .mp zAx], .box [.ptr zAy 0, .rs zAG m1],(rW v4),(rW b101_1), .box [.kb true, .rs zAv m2]]) λ (_,_,b101_1)=>(List.length v4,List.length x63.2.2.2.2,List.length b101_1)
instance zuN {N x63 v4 k7 n v8 b101_1}:IsLp 3 2 (zbY N x63 v4 k7 n v8 b101_1) (zgO N x63 v4 k7) (n,v8,b101_1):=⟨rfl⟩
def zbL (N:Nat)(x63:Int×LS×LE×LC×LB)(v4:LB):Option (Bool) :=
 (ix v4 (0:Int)).bind λ x67 =>
 (f30 N (W ((List.length v4:Int)-(1:Int)))).bind λ x68 =>
 (addS (strC [116,117,115,99,104,101,32]) x68).bind λ x69 =>
 bif decide (¬ x67=x69) then (bif decide (¬ x63.1=(9:Int)) then (some (false))
 else ((f14 N ).bind λ x70 =>
 some (x70)))
 else (zap (zb5 x63) λ k7 =>
 zbY N x63 v4 k7 N (1:Int) [])
def zdT (N:Nat)(x63:Int×LS×LE×LC×LB):Lp (LB) (Nat×Nat) (Bool):=lpm ⟨[4],[zAG,zAz,zAu,zAs,zAx,zAy,zAA,zAt],[(.slot 4,zAt,9,1)],[]⟩ (λ v4=>zbL N x63 v4) (λ _ (m0,_)=>[.rs zAt m0]) (λ v4 (_,m1)=>[(rW x63.2.2.2.2), .dead,(sW [zAs] x63.2.1),(eW x63.2.2.1),(mW x63.2.2.2.1), .box [.mp zAu, .mp zAs, .mp zAx], .box [.ptr zAy 0, .rs zAG m1],(rW v4)]) λ v4=>(List.length v4,List.length x63.2.2.2.2)
instance ztm {N x63 v4}:IsLp 2 1 (zbL N x63 v4) (zdT N x63) v4:=⟨rfl⟩
instance ztn {N x63}:IsCut 1 (zbL N x63) (zdT N x63) zAJ:=⟨⟩
def ze6 (r8:LB->Int->Int->Option (Bool))(a0:ByteArray)(x63:Int×LS×LE×LC×LB)(k8:LB->Option (Bool))(v4:LB)(v5:Int)(v6:Int):Option (Bool) :=
 bif decide (v6<(ByteArray.size a0:Int)) then ((idxS a0 v6).bind λ x78 =>
 bif decide (x78=(10:Int)) then ((subS a0 v5 v6).bind λ x79 =>
 (app 16 v4 [x79]).bind λ x80 =>
 r8 x80 (W (v6+(1:Int))) (W (v6+(1:Int))))
 else (r8 v4 v5 (W (v6+(1:Int)))))
 else (k8 v4)
def zcn (a0:ByteArray)(x63:Int×LS×LE×LC×LB)(k8:LB->Option (Bool)):Nat->LB->Int->Int->Option (Bool)
 | 0,_,_,_=>none
 | n+1,v4,v5,v6=>ze6 (zcn a0 x63 k8 n) a0 x63 k8 v4 v5 v6
def zhw (a0:ByteArray)(x63:Int×LS×LE×LC×LB)(k8:LB->Option (Bool)):Lp (Nat×LB×Int×Int) (Nat×Nat) (Bool):=lpm ⟨[0,4,5,6],[zAG,zAz,zAu,zAs,zAx,zAy,zAA,zAt],[(.slot 4,zAt,9,1)],[]⟩ (λ (n,v4,v5,v6)=>zcn a0 x63 k8 n v4 v5 v6) (λ (_,_,v5,v6) (m0,_)=>[.dat (strN a0), .rs zAt m0, .dat (iN v5), .dat (iN v6)]) (λ (_,v4,_,_) (_,m1)=>[(rW x63.2.2.2.2), .dead,(sW [zAs] x63.2.1),(eW x63.2.2.1),(mW x63.2.2.2.1), .box [.mp zAu, .mp zAs, .mp zAx], .box [.ptr zAy 0, .rs zAG m1],(rW v4)]) λ (_,v4,_,_)=>(List.length v4,List.length x63.2.2.2.2)
instance zvZ {a0 x63 k8 n v4 v5 v6}:IsLp 2 3 (zcn a0 x63 k8 n v4 v5 v6) (zhw a0 x63 k8) (n,v4,v5,v6):=⟨rfl⟩
def zb6 (b106_1:LB)(b100:LS)(b101:LE)(b102:LC)(b101_1:LB):Option (Bool) :=
 some (false)
def zdU (b106_1:LB)(b100:LS)(b101:LE)(b102:LC):Lp (LB) (Nat×Nat) (Bool):=lpm ⟨[7],[zAz,zAu,zAs,zAx,zAy,zAA,zAv,zAw],[(.cell zAw 1,zAv,9,1)],[]⟩ (λ b101_1=>zb6 b106_1 b100 b101 b102 b101_1) (λ _ (_,_)=>[.ptr zAw 0]) (λ b101_1 (m0,m1)=>[(rW b106_1),(sW [zAs] b100),(eW b101),(mW b102), .box [.mp zAu, .mp zAs, .mp zAx], .box [.ptr zAy 0, .rs zAz m0],(rW b101_1), .box [.kb true, .rs zAv m1]]) λ b101_1=>(List.length b106_1,List.length b101_1)
instance zto {b106_1 b100 b101 b102 b101_1}:IsLp 2 1 (zb6 b106_1 b100 b101 b102 b101_1) (zdU b106_1 b100 b101 b102) b101_1:=⟨rfl⟩
instance ztp {b106_1 b100 b101 b102}:IsCut 1 (zb6 b106_1 b100 b101 b102) (zdU b106_1 b100 b101 b102) zAI:=⟨⟩
def zey (r17:Int->LB->Option (Bool))(N:Nat)(b106_1:LB)(b100:LS)(b101:LE)(b102:LC)(e9:Int)(v4:LB)(k9:LB->Option (Bool))(v8:Int)(b101_1:LB):Option (Bool) :=
 bif decide (v8<(List.length v4:Int)) then ((ix v4 v8).bind λ x88 =>
 (f76 N x88).bind λ x89 =>
 bif decide (x89.2=(0:Int)) then ((f52 N (BookM.mk true b101_1) x89.1).bind λ x90 =>
 bif decide (x90=(0:Int)) then ((app 16 b101_1 [x89.1]).bind λ x91 =>
 bif decide (¬ x90=(0:Int)) then (bif decide (¬ e9=x90) then (some (false))
 else ((f14 N ).bind λ x92 =>
 some (x92)))
 else (r17 (W (v8+(1:Int))) x91))
 else (bif decide (¬ x90=(0:Int)) then (bif decide (¬ e9=x90) then (some (false))
 else ((f14 N ).bind λ x93 =>
 some (x93)))
 else (r17 (W (v8+(1:Int))) b101_1)))
 else (bif decide (¬ x89.2=(0:Int)) then (bif decide (¬ e9=x89.2) then (some (false))
 else ((f14 N ).bind λ x94 =>
 some (x94)))
 else (r17 (W (v8+(1:Int))) b101_1)))
 else (k9 b101_1)
def zbZ (N:Nat)(b106_1:LB)(b100:LS)(b101:LE)(b102:LC)(e9:Int)(v4:LB)(k9:LB->Option (Bool)):Nat->Int->LB->Option (Bool)
 | 0,_,_=>none
 | n+1,v8,b101_1=>zey (zbZ N b106_1 b100 b101 b102 e9 v4 k9 n) N b106_1 b100 b101 b102 e9 v4 k9 v8 b101_1
def zgP (N:Nat)(b106_1:LB)(b100:LS)(b101:LE)(b102:LC)(e9:Int)(v4:LB)(k9:LB->Option (Bool)):Lp (Nat×Int×LB) (Nat×Nat×Nat) (Bool):=lpm ⟨[4,7,8],[zAz,zAu,zAs,zAx,zAy,zAA,zAt,zAv,zAw],[(.cell zAw 1,zAv,9,1)],[]⟩ (λ (n,v8,b101_1)=>zbZ N b106_1 b100 b101 b102 e9 v4 k9 n v8 b101_1) (λ (_,v8,_) (m0,_,_)=>[.rs zAt m0, .ptr zAw 0, .dat (iN v8)]) (λ (_,_,b101_1) (_,m1,m2)=>[(rW b106_1),(sW [zAs] b100),(eW b101),(mW b102), .box [.mp zAu, .mp zAs, .mp zAx], .box [.ptr zAy 0, .rs zAz m1],(rW v4),(rW b101_1), .box [.kb true, .rs zAv m2]]) λ (_,_,b101_1)=>(List.length v4,List.length b106_1,List.length b101_1)
instance zuO {N b106_1 b100 b101 b102 e9 v4 k9 n v8 b101_1}:IsLp 3 2 (zbZ N b106_1 b100 b101 b102 e9 v4 k9 n v8 b101_1) (zgP N b106_1 b100 b101 b102 e9 v4 k9) (n,v8,b101_1):=⟨rfl⟩
def zbM (N:Nat)(b106_1:LB)(b100:LS)(b101:LE)(b102:LC)(e9:Int)(v4:LB):Option (Bool) :=
 (ix v4 (0:Int)).bind λ x84 =>
 (f30 N (W ((List.length v4:Int)-(1:Int)))).bind λ x85 =>
 (addS (strC [116,117,115,99,104,101,32]) x85).bind λ x86 =>
 bif decide (¬ x84=x86) then (bif decide (¬ e9=(9:Int)) then (some (false))
 else ((f14 N ).bind λ x87 =>
 some (x87)))
 else (zap (zb6 b106_1 b100 b101 b102) λ k9 =>
 zbZ N b106_1 b100 b101 b102 e9 v4 k9 N (1:Int) [])
def zdV (N:Nat)(b106_1:LB)(b100:LS)(b101:LE)(b102:LC)(e9:Int):Lp (LB) (Nat×Nat) (Bool):=lpm ⟨[4],[zAz,zAu,zAs,zAx,zAy,zAA,zAt],[(.slot 4,zAt,9,1)],[]⟩ (λ v4=>zbM N b106_1 b100 b101 b102 e9 v4) (λ _ (m0,_)=>[.rs zAt m0]) (λ v4 (_,m1)=>[(rW b106_1),(sW [zAs] b100),(eW b101),(mW b102), .box [.mp zAu, .mp zAs, .mp zAx], .box [.ptr zAy 0, .rs zAz m1],(rW v4)]) λ v4=>(List.length v4,List.length b106_1)
instance ztq {N b106_1 b100 b101 b102 e9 v4}:IsLp 2 1 (zbM N b106_1 b100 b101 b102 e9 v4) (zdV N b106_1 b100 b101 b102 e9) v4:=⟨rfl⟩
instance ztr {N b106_1 b100 b101 b102 e9}:IsCut 1 (zbM N b106_1 b100 b101 b102 e9) (zdV N b106_1 b100 b101 b102 e9) zAJ:=⟨⟩
def ze7 (r8:LB->Int->Int->Option (Bool))(a0:ByteArray)(b106_1:LB)(b100:LS)(b101:LE)(b102:LC)(k10:LB->Option (Bool))(v4:LB)(v5:Int)(v6:Int):Option (Bool) :=
 bif decide (v6<(ByteArray.size a0:Int)) then ((idxS a0 v6).bind λ x95 =>
 bif decide (x95=(10:Int)) then ((subS a0 v5 v6).bind λ x96 =>
 (app 16 v4 [x96]).bind λ x97 =>
 r8 x97 (W (v6+(1:Int))) (W (v6+(1:Int))))
 else (r8 v4 v5 (W (v6+(1:Int)))))
 else (k10 v4)
def zco (a0:ByteArray)(b106_1:LB)(b100:LS)(b101:LE)(b102:LC)(k10:LB->Option (Bool)):Nat->LB->Int->Int->Option (Bool)
 | 0,_,_,_=>none
 | n+1,v4,v5,v6=>ze7 (zco a0 b106_1 b100 b101 b102 k10 n) a0 b106_1 b100 b101 b102 k10 v4 v5 v6
def zhx (a0:ByteArray)(b106_1:LB)(b100:LS)(b101:LE)(b102:LC)(k10:LB->Option (Bool)):Lp (Nat×LB×Int×Int) (Nat×Nat) (Bool):=lpm ⟨[0,4,5,6],[zAz,zAu,zAs,zAx,zAy,zAA,zAt],[(.slot 4,zAt,9,1)],[]⟩ (λ (n,v4,v5,v6)=>zco a0 b106_1 b100 b101 b102 k10 n v4 v5 v6) (λ (_,_,v5,v6) (m0,_)=>[.dat (strN a0), .rs zAt m0, .dat (iN v5), .dat (iN v6)]) (λ (_,v4,_,_) (_,m1)=>[(rW b106_1),(sW [zAs] b100),(eW b101),(mW b102), .box [.mp zAu, .mp zAs, .mp zAx], .box [.ptr zAy 0, .rs zAz m1],(rW v4)]) λ (_,v4,_,_)=>(List.length v4,List.length b106_1)
instance zv0 {a0 b106_1 b100 b101 b102 k10 n v4 v5 v6}:IsLp 2 3 (zco a0 b106_1 b100 b101 b102 k10 n v4 v5 v6) (zhx a0 b106_1 b100 b101 b102 k10) (n,v4,v5,v6):=⟨rfl⟩
def zcN (a0:ByteArray)(N:Nat)(x61:LB)(v34:Int)(b106_1:LB)(b100:LS)(b101:LE)(b102:LC)(r10:Int->LB->LS->LE->LC->Option (Bool))(line8:ByteArray)(e9:Int):Option (Bool) :=
 bif decide (e9=(0:Int)) then ((f18 N line8 b106_1 b100 b101 b102).bind λ x63 =>
 bif decide (¬ x63.1=(0:Int)) then (bif decide ((ByteArray.size a0:Int)=(0:Int)) then (bif decide (¬ x63.1=(18:Int)) then (some (false))
 else ((f14 N ).bind λ x64 =>
 some (x64)))
 else ((idxS a0 (W ((ByteArray.size a0:Int)-(1:Int)))).bind λ x65 =>
 bif decide (¬ x65=(10:Int)) then (bif decide (¬ x63.1=(18:Int)) then (some (false))
 else ((f14 N ).bind λ x66 =>
 some (x66)))
 else (zap (zbL N x63) λ k8 =>
 zcn a0 x63 k8 N [] (0:Int) (0:Int))))
 else (r10 (W (v34+(1:Int))) x63.2.2.2.2 x63.2.1 x63.2.2.1 x63.2.2.2.1))
 else (bif decide (¬ e9=(0:Int)) then (bif decide ((ByteArray.size a0:Int)=(0:Int)) then (bif decide (¬ e9=(18:Int)) then (some (false))
 else ((f14 N ).bind λ x81 =>
 some (x81)))
 else ((idxS a0 (W ((ByteArray.size a0:Int)-(1:Int)))).bind λ x82 =>
 bif decide (¬ x82=(10:Int)) then (bif decide (¬ e9=(18:Int)) then (some (false))
 else ((f14 N ).bind λ x83 =>
 some (x83)))
 else (zap (zbM N b106_1 b100 b101 b102 e9) λ k10 =>
 zco a0 b106_1 b100 b101 b102 k10 N [] (0:Int) (0:Int))))
 else (r10 (W (v34+(1:Int))) b106_1 b100 b101 b102))
def ze8 (a0:ByteArray)(N:Nat)(x61:LB)(v34:Int)(b106_1:LB)(b100:LS)(b101:LE)(b102:LC)(r10:Int->LB->LS->LE->LC->Option (Bool)):Lp (ByteArray×Int) (Nat×Unit) (Bool):=lpm ⟨[5,8,9,32,33,34],[zAz,zAu,zAs,zAx,zAy,zAA],[],[]⟩ (λ (line8,e9)=>zcN a0 N x61 v34 b106_1 b100 b101 b102 r10 line8 e9) (λ (line8,e9) (_,_)=>[.ptr zAA 0, .dat (strN line8), .dat (iN e9), .dat (zau x61), .dat (iN (List.length x61:Int)), .dat (iN v34)]) (λ (_,_) (m0,_)=>[(rW b106_1),(sW [zAs] b100),(eW b101),(mW b102), .box [.mp zAu, .mp zAs, .mp zAx], .box [.ptr zAy 0, .rs zAz m0]]) λ (_,_)=>(List.length b106_1,())
instance zv1 {a0 N x61 v34 b106_1 b100 b101 b102 r10 line8 e9}:IsLp 1 2 (zcN a0 N x61 v34 b106_1 b100 b101 b102 r10 line8 e9) (ze8 a0 N x61 v34 b106_1 b100 b101 b102 r10) (line8,e9):=⟨rfl⟩
instance zv2 {a0 N x61 v34 b106_1 b100 b101 b102 r10}:IsCut 2 (zcN a0 N x61 v34 b106_1 b100 b101 b102 r10) (ze8 a0 N x61 v34 b106_1 b100 b101 b102 r10) 302000000013:=⟨⟩
def zez (r10:Int->LB->LS->LE->LC->Option (Bool))(a0:ByteArray)(N:Nat)(k6:LB->LS->LE->LC->Option (Bool))(x61:LB)(v34:Int)(b106_1:LB)(b100:LS)(b101:LE)(b102:LC):Option (Bool) :=
 bif decide (v34<(List.length x61:Int)) then ((ix x61 v34).bind λ x62 =>
 zap (zcN a0 N x61 v34 b106_1 b100 b101 b102 r10) λ k11 =>
 (f75 N x62).bind λ x98 =>
 k11 x98.1 x98.2)
 else (k6 b106_1 b100 b101 b102)
def zb7 (a0:ByteArray)(N:Nat)(k6:LB->LS->LE->LC->Option (Bool))(x61:LB):Nat->Int->LB->LS->LE->LC->Option (Bool)
 | 0,_,_,_,_,_=>none
 | n+1,v34,b106_1,b100,b101,b102=>zez (zb7 a0 N k6 x61 n) a0 N k6 x61 v34 b106_1 b100 b101 b102
def ziY (a0:ByteArray)(N:Nat)(k6:LB->LS->LE->LC->Option (Bool))(x61:LB):Lp (Nat×Int×LB×LS×LE×LC) (Nat×Unit) (Bool):=lpm ⟨[5,32,33,34],[zAz,zAu,zAs,zAx,zAy,zAA],[(.cell zAA 1,zAz,9,1)],[]⟩ (λ (n,v34,b106_1,b100,b101,b102)=>zb7 a0 N k6 x61 n v34 b106_1 b100 b101 b102) (λ (_,v34,_,_,_,_) (_,_)=>[.ptr zAA 0, .dat (zau x61), .dat (iN (List.length x61:Int)), .dat (iN v34)]) (λ (_,_,b106_1,b100,b101,b102) (m0,_)=>[(rW b106_1),(sW [zAs] b100),(eW b101),(mW b102), .box [.mp zAu, .mp zAs, .mp zAx], .box [.ptr zAy 0, .rs zAz m0]]) λ (_,_,b106_1,_,_,_)=>(List.length b106_1,())
instance zw8 {a0 N k6 x61 n v34 b106_1 b100 b101 b102}:IsLp 1 5 (zb7 a0 N k6 x61 n v34 b106_1 b100 b101 b102) (ziY a0 N k6 x61) (n,v34,b106_1,b100,b101,b102):=⟨rfl⟩
def zm3 (a0:ByteArray)(N:Nat):Option (Bool) :=
 bif decide ((17000:Int)<(ByteArray.size a0:Int)) then ((f14 N ).bind λ x1 =>
 some (x1))
 else ((f72 N a0 (strC [10])).bind λ x2 =>
 bif !x2 then (bif decide ((ByteArray.size a0:Int)=(0:Int)) then ((f14 N ).bind λ x3 =>
 some (x3))
 else ((idxS a0 (W ((ByteArray.size a0:Int)-(1:Int)))).bind λ x4 =>
 bif decide (¬ x4=(10:Int)) then ((f14 N ).bind λ x5 =>
 some (x5))
 else (zap (zdo N) λ k1 =>
 zaW a0 k1 N [] (0:Int) (0:Int))))
 else ((f74 N a0 (strC [10])).bind λ x19 =>
 (f73 N x19 (strC [10])).bind λ x20 =>
 (ix x20 (0:Int)).bind λ x21 =>
 (f30 N (W ((List.length x20:Int)-(1:Int)))).bind λ x22 =>
 (addS (strC [116,117,115,99,104,101,32]) x22).bind λ x23 =>
 bif decide (¬ x21=x23) then (bif decide ((ByteArray.size a0:Int)=(0:Int)) then (some (false))
 else ((idxS a0 (W ((ByteArray.size a0:Int)-(1:Int)))).bind λ x24 =>
 bif decide (¬ x24=(10:Int)) then (some (false))
 else (zap (zbJ N) λ k3 =>
 zcl a0 k3 N [] (0:Int) (0:Int))))
 else (zap (zbX a0 N) λ k6 =>
 (sub x20 (1:Int) (List.length x20:Int)).bind λ x61 =>
 zb7 a0 N k6 x61 N (0:Int) [] [] [] [])))
def zsA (a0:ByteArray)(N:Nat):Lp (Unit) Unit (Bool):=lp0 ⟨[0],[],[],[]⟩ (λ _=>[.dat (strN a0)]) (λ _=>[]) (λ _=>zm3 a0 N)
instance Ef8_c3 {a0 N}:IsLp 0 0 (zm3 a0 N) (zsA a0 N) ():=⟨rfl⟩
instance Cf8_c3 {a0 N}:IsCut 0 (zm3 a0 N) (zsA a0 N) 3:=⟨⟩
def f8 (N:Nat)(a0:ByteArray):Option (Bool) :=
 zap (zm3 a0 N) λ k12 =>
 bif decide ((4000:Int)<(ByteArray.size a0:Int)) then (bif decide ((ByteArray.size a0:Int)<=(17000:Int)) then ((f14 N ).bind λ x99 =>
 some (x99))
 else (bif decide ((20000:Int)<(ByteArray.size a0:Int)) then ((f14 N ).bind λ x100 =>
 some (x100))
 else k12))
 else (bif decide ((20000:Int)<(ByteArray.size a0:Int)) then ((f14 N ).bind λ x101 =>
 some (x101))
 else k12)
def G8 (ds:List D)(d:D):Prop:=∃ (N:Nat) (a0:ByteArray) (r:Bool),ds=[strN a0]/\f8 N a0=some r/\d=bN r

end Go.Vc
namespace Go.Vc
open Go.Proofs
set_option maxRecDepth 20000 in
theorem wk1 {P:Prop}(h:P:=by repeat' (first
  | ((with_reducible first|refine q0 _ _ ?_|refine q1 _ _ _ _ ?_|refine q2 _ _ _ ?_);clear Q q0 q1 q2)
  | ((with_reducible first|refine zd2 ?hx (λ Q q0 q1 q2=>?_)|refine zec ?hx (λ Q q0 q1 q2=>?_)|refine zed ?hx (λ Q q0 q1 q2=>?_)|refine zgj ?hx (λ Q q0 q1 q2=>?_));(case hx=>exact rfl);conv=>whnf)
  | ((with_reducible refine zdM ?_);(first|((refine zfA rfl ?hy ?_);(case hy=>first|assumption|exact notT (by assumption)|exact rfl))|((refine zfB rfl ?hy ?_);(case hy=>first|assumption|exact notF (by assumption)|exact rfl))|(revert hF;(with_reducible refine zjh ?hx ?_ ?_);(case hx=>exact rfl);all_goals (intro hc hF))))
  | ((with_reducible refine zfC ?_);(refine zj7 zAu zAs (ks:=[]) rfl rfl ?_);dsimp only[St.kid];(first|((with_reducible refine hR _ ?_);clear R hR)|((with_reducible refine hL _ ?_);clear L hL)))
  | ((with_reducible refine zcJ ?_);(first|((with_reducible refine hR _ ?_);clear R hR)|((with_reducible refine hL _ ?_);clear L hL)))
  | ((with_reducible refine zc5 ?_);(with_reducible refine hR _ _ ?hx ?_);(case hx=>kernel_rfl);clear R hR)
  | ((with_reducible first|refine zce ?_|refine zcx ?_|refine idx2 (by assumption) ?_|refine idx3 (by assumption) ?_);conv=>whnf)
  | (with_reducible first|refine zct ?_|refine zcH ?_|refine zd1 ?_|refine zde ?_|refine zby (λ R hR=>?_)|refine zbw ?_|refine zbx ?_|refine zi7 ?_|refine zb9 ?_|refine zbO ?_|refine zc8 ?_|refine zcI ?_)
  | ((with_reducible refine zeb ?hx (λ R L hL hR=>?_));(case hx=>exact rfl))
  | ((with_reducible replace hF:=isE hF);(dsimp only[ziv,zo7,zix,zkD,zr0,ziw,zmJ,ziE,zkG,zsb,zho,ziK,ziL,zpc,zsj,ziM,zmW,zoc,zvH,zmX,zkW,zsr,zkY,zkZ,zk0,zss,zk2,zst,zfG,zhs,zgJ,zod,zvI,zmY,zla,zsx,zjT,zlb,zsy,zog,zvM,zgL,zhB,zld,zvN,zm0,zle,zvO,zm1,ze1,ziX,ze2,zjV,zdO,zgM,zdP,zhu,zdQ,zgN,zdR,zhv,ze5,zdS,zgO,zdT,zhw,zdU,zgP,zdV,zhx,ze8,ziY,zsA,zd8,zaW,zbV,zcl,zbW,zcm,zbY,zcn,zbZ,zco,zb7] at hF);first|((with_reducible replace hF:=chkE (e:=zeU ..) hF);rewrite[zeU] at hF)|((with_reducible replace hF:=chkE (e:=zf4 ..) hF);rewrite[zf4] at hF)|((with_reducible replace hF:=chkE (e:=zf6 ..) hF);rewrite[zf6] at hF)|((with_reducible replace hF:=chkE (e:=zht ..) hF);rewrite[zht] at hF)|((with_reducible replace hF:=chkE (e:=zm3 ..) hF);rewrite[zm3] at hF)|rewrite[zgB] at hF|rewrite[zo6] at hF|rewrite[zgC] at hF|rewrite[ziy] at hF|rewrite[zrZ] at hF|rewrite[zfq] at hF|rewrite[zkH] at hF|rewrite[zgF] at hF|rewrite[zgG] at hF|rewrite[zpb] at hF|rewrite[zsi] at hF|rewrite[ziO] at hF|rewrite[zpe] at hF|rewrite[zkX] at hF|rewrite[zf5] at hF|rewrite[ziP] at hF|rewrite[zk1] at hF|rewrite[zf7] at hF|rewrite[zk3] at hF|rewrite[zpf] at hF|rewrite[zha] at hF|rewrite[ziU] at hF|rewrite[ze0] at hF|rewrite[zlc] at hF|rewrite[zfH] at hF|rewrite[zmZ] at hF|rewrite[zf9] at hF|rewrite[zpg] at hF|rewrite[zg] at hF|rewrite[zph] at hF|rewrite[zdn] at hF|rewrite[ziW] at hF|rewrite[zdo] at hF|rewrite[zb3] at hF|rewrite[zb4] at hF|rewrite[zev] at hF|rewrite[zbJ] at hF|rewrite[ze3] at hF|rewrite[zbn] at hF|rewrite[zew] at hF|rewrite[zbK] at hF|rewrite[ze4] at hF|rewrite[zbX] at hF|rewrite[zb5] at hF|rewrite[zex] at hF|rewrite[zbL] at hF|rewrite[ze6] at hF|rewrite[zb6] at hF|rewrite[zey] at hF|rewrite[zbM] at hF|rewrite[ze7] at hF|rewrite[zcN] at hF|rewrite[zez] at hF)
  | ((with_reducible refine zfW ?_);first|((with_reducible replace hF:=toLp 0 1 hF);exact Lp.backI hF () ⟨_,rfl,rfl,rfl,rfl⟩ rfl)|((with_reducible replace hF:=toLp 0 2 hF);exact Lp.backI hF () ⟨_,rfl,rfl,rfl,rfl⟩ rfl)|((with_reducible replace hF:=toLp 1 1 hF);exact Lp.backI hF (_,()) ⟨_,rfl,rfl,rfl,rfl⟩ (pr2 (by first|exact rfl|assumption|omega|(simp only[List.length_set];done)) rfl))|((with_reducible replace hF:=toLp 1 2 hF);exact Lp.backI hF (_,()) ⟨_,rfl,rfl,rfl,rfl⟩ (pr2 (by first|exact rfl|assumption|omega|(simp only[List.length_set];done)) rfl))|((with_reducible replace hF:=toLp 1 3 hF);exact Lp.backI hF (_,()) ⟨_,rfl,rfl,rfl,rfl⟩ (pr2 (by first|exact rfl|assumption|omega|(simp only[List.length_set];done)) rfl))|((with_reducible replace hF:=toLp 1 5 hF);exact Lp.backI hF (_,()) ⟨_,rfl,rfl,rfl,rfl⟩ (pr2 (by first|exact rfl|assumption|omega|(simp only[List.length_set];done)) rfl))|((with_reducible replace hF:=toLp 2 2 hF);exact Lp.backI hF (_,_) ⟨_,rfl,rfl,rfl,rfl⟩ (pr2 (by first|exact rfl|assumption|omega|(simp only[List.length_set];done)) (by first|exact rfl|assumption|omega|(simp only[List.length_set];done))))|((with_reducible replace hF:=toLp 2 3 hF);exact Lp.backI hF (_,_) ⟨_,rfl,rfl,rfl,rfl⟩ (pr2 (by first|exact rfl|assumption|omega|(simp only[List.length_set];done)) (by first|exact rfl|assumption|omega|(simp only[List.length_set];done))))|((with_reducible replace hF:=toLp 3 2 hF);exact Lp.backI hF (_,_,_) ⟨_,rfl,rfl,rfl,rfl⟩ (pr2 (by first|exact rfl|assumption|omega|(simp only[List.length_set];done)) (pr2 (by first|exact rfl|assumption|omega|(simp only[List.length_set];done)) (by first|exact rfl|assumption|omega|(simp only[List.length_set];done))))))
  | ((with_reducible refine zdi ?_);first|((with_reducible replace hF:=toLp 0 0 hF);exact Lp.headI hF () ⟨_,rfl,rfl,rfl,rfl⟩ rfl)|((with_reducible replace hF:=toLp 0 1 hF);exact Lp.headI hF () ⟨_,rfl,rfl,rfl,rfl⟩ rfl)|((with_reducible replace hF:=toLp 1 0 hF);exact Lp.headI hF (_,()) ⟨_,rfl,rfl,rfl,rfl⟩ (pr2 (by first|exact rfl|assumption|omega|(simp only[List.length_set];done)) rfl))|((with_reducible replace hF:=toLp 1 1 hF);exact Lp.headI hF (_,()) ⟨_,rfl,rfl,rfl,rfl⟩ (pr2 (by first|exact rfl|assumption|omega|(simp only[List.length_set];done)) rfl))|((with_reducible replace hF:=toLp 1 2 hF);exact Lp.headI hF (_,()) ⟨_,rfl,rfl,rfl,rfl⟩ (pr2 (by first|exact rfl|assumption|omega|(simp only[List.length_set];done)) rfl))|((with_reducible replace hF:=toLp 1 4 hF);exact Lp.headI hF (_,()) ⟨_,rfl,rfl,rfl,rfl⟩ (pr2 (by first|exact rfl|assumption|omega|(simp only[List.length_set];done)) rfl))|((with_reducible replace hF:=toLp 2 1 hF);exact Lp.headI hF (_,_) ⟨_,rfl,rfl,rfl,rfl⟩ (pr2 (by first|exact rfl|assumption|omega|(simp only[List.length_set];done)) (by first|exact rfl|assumption|omega|(simp only[List.length_set];done)))))
  | ((with_reducible refine zfV ?_);first|((with_reducible replace hF:=toLp 0 1 hF);((refine Lp.loopI hF () rfl ⟨_,rfl,rfl,rfl,rfl⟩ rfl (λ _=>rfl) ?_);clear hF);(rintro n _ hF))|((with_reducible replace hF:=toLp 0 2 hF);((refine Lp.loopI hF () rfl ⟨_,rfl,rfl,rfl,rfl⟩ rfl (λ _=>rfl) ?_);clear hF);(rintro n ⟨_,_⟩ hF))|((with_reducible replace hF:=toLp 1 1 hF);((refine Lp.loopI hF (_,()) rfl ⟨_,rfl,rfl,rfl,rfl⟩ (pr2 (by first|exact rfl|assumption|omega|(simp only[List.length_set];done)) rfl) (λ _=>rfl) ?_);clear hF);(rintro n _ hF))|((with_reducible replace hF:=toLp 1 2 hF);((refine Lp.loopI hF (_,()) rfl ⟨_,rfl,rfl,rfl,rfl⟩ (pr2 (by first|exact rfl|assumption|omega|(simp only[List.length_set];done)) rfl) (λ _=>rfl) ?_);clear hF);(rintro n ⟨_,_⟩ hF))|((with_reducible replace hF:=toLp 1 3 hF);((refine Lp.loopI hF (_,()) rfl ⟨_,rfl,rfl,rfl,rfl⟩ (pr2 (by first|exact rfl|assumption|omega|(simp only[List.length_set];done)) rfl) (λ _=>rfl) ?_);clear hF);(rintro n ⟨_,_,_⟩ hF))|((with_reducible replace hF:=toLp 1 5 hF);((refine Lp.loopI hF (_,()) rfl ⟨_,rfl,rfl,rfl,rfl⟩ (pr2 (by first|exact rfl|assumption|omega|(simp only[List.length_set];done)) rfl) (λ _=>rfl) ?_);clear hF);(rintro n ⟨_,_,_,_,_⟩ hF))|((with_reducible replace hF:=toLp 2 2 hF);((refine Lp.loopI hF (_,_) rfl ⟨_,rfl,rfl,rfl,rfl⟩ (pr2 (by first|exact rfl|assumption|omega|(simp only[List.length_set];done)) (by first|exact rfl|assumption|omega|(simp only[List.length_set];done))) (λ _=>rfl) ?_);clear hF);(rintro n ⟨_,_⟩ hF))|((with_reducible replace hF:=toLp 2 3 hF);((refine Lp.loopI hF (_,_) rfl ⟨_,rfl,rfl,rfl,rfl⟩ (pr2 (by first|exact rfl|assumption|omega|(simp only[List.length_set];done)) (by first|exact rfl|assumption|omega|(simp only[List.length_set];done))) (λ _=>rfl) ?_);clear hF);(rintro n ⟨_,_,_⟩ hF))|((with_reducible replace hF:=toLp 3 2 hF);((refine Lp.loopI hF (_,_,_) rfl ⟨_,rfl,rfl,rfl,rfl⟩ (pr2 (by first|exact rfl|assumption|omega|(simp only[List.length_set];done)) (pr2 (by first|exact rfl|assumption|omega|(simp only[List.length_set];done)) (by first|exact rfl|assumption|omega|(simp only[List.length_set];done)))) (λ _=>rfl) ?_);clear hF);(rintro n ⟨_,_⟩ hF)))
  | ((with_reducible refine zdh ?_);first|((with_reducible replace hF:=zel 0 hF);((refine Lp.cutI hF rfl rfl ?_ ?_) <;> clear hF);(intro hF);rotate_left;(rintro _ hF);rotate_right)|((with_reducible replace hF:=zel 1 hF);((refine Lp.cutI hF rfl rfl ?_ ?_) <;> clear hF);(intro hF);rotate_left;(rintro _ hF);rotate_right)|((with_reducible replace hF:=zel 2 hF);((refine Lp.cutI hF rfl rfl ?_ ?_) <;> clear hF);(intro hF);rotate_left;(rintro⟨_,_⟩ hF);rotate_right)|((with_reducible replace hF:=zel 4 hF);((refine Lp.cutI hF rfl rfl ?_ ?_) <;> clear hF);(intro hF);rotate_left;(rintro⟨_,_,_,_⟩ hF);rotate_right))
  | ((with_reducible refine zcM [] ?hx ?_);(case hx=>exact rfl))
  | with_reducible refine zfD ?_
  | ((with_reducible have hJ:=isB hF);clear hJ;revert hF;(with_reducible first|refine G117.lend ?hx ?_|refine G148.lend ?hx ?_|refine G30.lend ?hx ?_|refine G55.lend ?hx ?_|refine G59.lend ?hx ?_|refine G71.lend ?hx ?_|refine G89.lend ?hx ?_|refine G109.step ?hx ?_|refine G110.lend ?hx ?_|refine G111.lend ?hx ?_|refine G86.lend ?hx ?_|refine G116.lend ?hx ?_|refine G118.lend ?hx ?_|refine G83.step ?hx ?_|refine G84.step ?hx ?_|refine G57.lend ?hx ?_|refine G100.lend ?hx ?_|refine G101.lend ?hx ?_|refine G14.lend ?hx ?_|refine G20.lend ?hx ?_|refine G24.lend ?hx ?_|refine G52.lend ?hx ?_|refine G72.lend ?hx ?_|refine G73.step ?hx ?_|refine G74.lend ?hx ?_|refine G75.lend ?hx ?_|refine G76.lend ?hx ?_);(case hx=>exact rfl);intro v hF;conv=>whnf)
  | (revert hF;(refine zwF (d:=iN) ?hz ?_);(case hz=>exact rfl);intro x hF;conv=>whnf)
  | ((with_reducible refine isSn ?_);(refine zrU (μ:=(λ l=>[.r 3 1 (List.map iN l)])) (by assumption) (by exact rfl) ?_);conv=>whnf)
  | ((with_reducible have hJ:=isB hF);clear hJ;revert hF;(first|refine G18.step rfl rfl rfl rfl rfl rfl rfl (by first|exact rfl|assumption|omega|(simp only[List.length_set];done)) (by first|exact trivial|exact rfl) ?hn ?_|refine G21.step rfl rfl rfl rfl rfl rfl rfl (by first|exact rfl|assumption|omega|(simp only[List.length_set];done)) (by first|exact trivial|exact rfl) ?hn ?_|refine G23.step rfl rfl rfl rfl rfl rfl rfl (by first|exact rfl|assumption|omega|(simp only[List.length_set];done)) (by first|exact trivial|exact rfl) ?hn ?_);(case hn=>exact rfl);intro v hF;conv=>whnf)
  | (revert hF;(refine zwG (d:=iN) ?hz ?_);(case hz=>exact rfl);intro x hF;conv=>whnf)
  | (cases hF;(refine Or.inl ?_);(conv=>whnf);exact⟨rfl,rfl,rfl⟩)
  | ((with_reducible have hI:=zrS hF);clear hI;revert hF;(refine zmc ?_);intro x hF;conv=>whnf)
  | ((with_reducible refine zx5 ?_);(with_reducible have hG:=zbS hF);clear hF;(refine zjH (μ:=(λ l=>[.r 3 1 (List.map iN l)])) (δ:=iN) hG (by assumption) ?hn ?ho (by exact rfl) (λ q hl hF=>?_));(case hn=>first|exact rfl|assumption|omega);(case ho=>(rintro p h;first|(cases h;done)|(cases h;exact⟨rfl,rfl⟩)));clear hG;conv=>whnf)
  | ((with_reducible have hI:=zrT hF);clear hI;revert hF;(refine zmd ?_);intro x hF;conv=>whnf)
  | ((refine zvt (μ:=(λ l=>[.r 3 1 (List.map iN l)])) (δ:=za3) (λ _=>rfl) (.inr ⟨rfl,by simp[isR1]⟩) ?hn ?_);(case hn=>first|exact rfl|assumption|omega);conv=>whnf)
  | ((with_reducible have hI:=zrQ hF);clear hI;revert hF;(refine zme ?_);intro x hF;conv=>whnf)
  | (revert hF;(refine zx7 (μ:=(λ l=>[.r 3 1 (List.map iN l)])) ?hz ?_);(case hz=>exact rfl);intro x hF;conv=>whnf)
  | ((with_reducible have hI:=zrR hF);clear hI;revert hF;(refine znW ?_);intro x hF;(try (with_reducible refine orL ?_));conv=>whnf)
  | ((with_reducible have hI:=zvs hF);clear hI;revert hF;(refine zuj ?hn ?_);(case hn=>first|exact rfl|omega);intro hF;conv=>whnf)
  | ((with_reducible have hI:=zwK hF);clear hI;revert hF;(first|refine zrO (λ _ h=>h) ?_|refine zqe ?_);intro x hF;conv=>whnf)
  | ((with_reducible have hI:=zvs hF);clear hI;revert hF;(refine zui ?hn ?_);(case hn=>first|exact rfl|assumption|omega);intro hF;conv=>whnf)
  | ((with_reducible first|refine zeH ?hx ?_|refine zdt ?hx ?_|refine zcV ?hx ?_|refine zds ?hx ?_|refine zhE ?hx ?_|refine zgk ?hx ?_);(case hx=>exact rfl))
  | (revert hF;(with_reducible refine idx1 ?hn ?_);(case hn=>first|exact rfl|exact(List.length_map _)|assumption|omega|simp);intro x hx hF;conv=>whnf)
  | ((with_reducible refine zfC ?_);(first|((first|refine zfX rfl ?hy (λ Q q0 q1 q2=>?_)|refine zen rfl ?hy (λ Q q0 q1 q2=>?_));(case hy=>first|assumption|exact notT (by assumption)|exact rfl);conv=>whnf)|((first|refine zem rfl ?hy ?_|refine zdj rfl ?hy ?_);(case hy=>first|assumption|exact notF (by assumption)|exact rfl))|(revert hF;(with_reducible first|refine zfY ?hx ?_ ?_|refine zeo ?hx ?_ ?_);(case hx=>exact rfl);(intro hc hF Q q0 q1 q2;conv=>whnf);rotate_left;(intro hc hF);rotate_right)|(revert hF;(with_reducible first|refine zfZ ?hx ?_ ?_|refine zep ?hx ?_ ?_);(case hx=>exact rfl);(intro hc hF);rotate_left;(intro hc hF Q q0 q1 q2;conv=>whnf);rotate_right)))
  | ((with_reducible have hG:=zro hF);clear hF;(refine Or.inl ?_);(conv=>whnf);(refine znV hG ?hn (λ q hF=>?_);(case hn=>first|exact rfl|assumption|omega));clear hG;conv=>whnf)
  | ((with_reducible have hG:=zgx hF);clear hF;(refine zhK hG (λ q hF=>?_));clear hG;conv=>whnf)
  | ((with_reducible have hG:=zc6 hF);clear hF;(first|((refine zek hG ?hn ?hs (λ q hF=>?_));(case hn=>first|exact rfl|assumption|omega);(case hs=>exact rfl))|((refine zdK (d:=u8N) hG ?hs (λ q hF=>?_));(case hs=>exact rfl))|((refine zdL (d:=u8N) hG ?ho ?hn ?hs (λ q hF=>?_));(case ho=>exact rfl);(case hn=>exact rfl);(case hs=>exact rfl)));clear hG;conv=>whnf)
  | ((with_reducible have hG:=zc6 hF);clear hF;(first|((refine zek hG ?hn ?hs (λ q hF=>?_));(case hn=>first|exact rfl|assumption|omega);(case hs=>exact rfl))|((refine zdK (d:=iN) hG ?hs (λ q hF=>?_));(case hs=>exact rfl))|((refine zdL (d:=iN) hG ?ho ?hn ?hs (λ q hF=>?_));(case ho=>exact rfl);(case hn=>exact rfl);(case hs=>exact rfl)));clear hG;conv=>whnf)
  | ((with_reducible have hG:=zc6 hF);clear hF;(first|((refine zek hG ?hn ?hs (λ q hF=>?_));(case hn=>first|exact rfl|assumption|omega);(case hs=>exact rfl))|((refine zdK (d:=strN) hG ?hs (λ q hF=>?_));(case hs=>exact rfl))|((refine zdL (d:=strN) hG ?ho ?hn ?hs (λ q hF=>?_));(case ho=>exact rfl);(case hn=>exact rfl);(case hs=>exact rfl)));clear hG;conv=>whnf)
  | ((refine zfU ?hn ?_);(case hn=>first|exact rfl|(simp;done)|(simp;omega));conv=>whnf)
  | ((with_reducible refine zim ?hn ?_);(case hn=>first|exact rfl|assumption|omega);conv=>whnf)
  | ((with_reducible have hG:=zbS hF);clear hF;(refine zij hG ?hs (λ q hl hF=>?_));(case hs=>exact rfl);clear hG;conv=>whnf)
  | ((refine⟨?hx, ?_⟩);(case hx=>exact⟨rfl,zAq rfl,rfl⟩);conv=>whnf)
  | ((with_reducible refine zfS ?_);conv=>whnf)
  | ((with_reducible have hG:=zoS hF);clear hF;(refine⟨?hx, ?_⟩);(case hx=>(first|exact of_decide_eq_true hG.1|exact hG.1));have hF:=hG.2;clear hG;conv=>whnf)
  | ((with_reducible refine zin ?hx ?_);(case hx=>first|exact rfl|assumption|exact notT (by assumption));conv=>whnf)
  | ((with_reducible refine zhk ?hx ?_);(case hx=>first|exact rfl|assumption|exact notF (by assumption));conv=>whnf)
  | ((refine zay 901 902000000 rfl rfl (zAq rfl) rfl (λ R hR=>?_));(conv=>whnf);(with_reducible refine hR _ ?ha ?_);(case ha=>exact rfl);clear R hR)
  | ((refine zay 1203 1204000000 rfl rfl (zAq rfl) rfl (λ R hR=>?_));(conv=>whnf);(with_reducible refine hR _ ?ha ?_);(case ha=>exact rfl);clear R hR)
  | ((refine zay 1101 1102000000 rfl rfl (zAq rfl) rfl (λ R hR=>?_));(conv=>whnf);(with_reducible refine hR _ ?ha ?_);(case ha=>exact rfl);clear R hR)
  | ((refine zay 301 302000000 rfl rfl (zAq rfl) rfl (λ R hR=>?_));(conv=>whnf);(with_reducible refine hR _ ?ha ?_);(case ha=>exact rfl);clear R hR)
  | ((refine zay 1400 1401000000 rfl rfl (zAq rfl) rfl (λ R hR=>?_));(conv=>whnf);(with_reducible refine hR _ ?ha ?_);(case ha=>exact rfl);clear R hR)
  | ((refine zay 1408 1409000000 rfl rfl (zAq rfl) rfl (λ R hR=>?_));(conv=>whnf);(with_reducible refine hR _ ?ha ?_);(case ha=>exact rfl);clear R hR)
  | ((refine zay 401 302000801000107000000 rfl rfl (zAq rfl) rfl (λ R hR=>?_));(conv=>whnf);(with_reducible refine hR _ ?ha ?_);(case ha=>exact rfl);clear R hR)
  | ((refine zay 1806 1807000000 rfl rfl (zAq rfl) rfl (λ R hR=>?_));(conv=>whnf);(with_reducible refine hR _ ?ha ?_);(case ha=>exact rfl);clear R hR)
  | ((refine zay 906 302000801000107001501000102000000 rfl rfl (zAq rfl) rfl (λ R hR=>?_));(conv=>whnf);(with_reducible refine hR _ ?ha ?_);(case ha=>exact rfl);clear R hR)
  | ((refine zay 2000 2001000000 rfl rfl (zAq rfl) rfl (λ R hR=>?_));(conv=>whnf);(with_reducible refine hR _ ?ha ?_);(case ha=>exact rfl);clear R hR)
  | ((refine zay 302000800 302000801000000 rfl rfl (zAq rfl) rfl (λ R hR=>?_));(conv=>whnf);(with_reducible refine hR _ ?ha ?_);(case ha=>exact rfl);clear R hR)
  | ((refine zay 302000801000107001500 302000801000107001501000000 rfl rfl (zAq rfl) rfl (λ R hR=>?_));(conv=>whnf);(with_reducible refine hR _ ?ha ?_);(case ha=>exact rfl);clear R hR)
  | ((refine zay 302000801000107002102 302000801000107002103000000 rfl rfl (zAq rfl) rfl (λ R hR=>?_));(conv=>whnf);(with_reducible refine hR _ ?ha ?_);(case ha=>exact rfl);clear R hR)
  | (show Kinl _ _ _ _ _ _ _;conv=>whnf)
  | ((with_reducible refine zcX ?ha ?hb ?_);(case ha=>exact rfl);(case hb=>exact rfl);conv=>whnf)
  | ((refine⟨?hx,trivial⟩);(case hx=>(cases hF;exact rfl)))
  | ((refine⟨?hx, ?_⟩);(case hx=>decide);conv=>whnf)
  | with_reducible refine zfI ?_
  | (have hF:(none:Option _)=some _:=hF;cases hF))):P:=h
set_option maxRecDepth 20000 in
theorem wk2 {P:Prop}(h:P:=by repeat' (first
  | ((with_reducible first|refine q0 _ _ ?_|refine q1 _ _ _ _ ?_|refine q2 _ _ _ ?_);clear Q q0 q1 q2)
  | ((with_reducible first|refine zd2 ?hx (λ Q q0 q1 q2=>?_)|refine zed ?hx (λ Q q0 q1 q2=>?_)|refine zec ?hx (λ Q q0 q1 q2=>?_)|refine zgj ?hx (λ Q q0 q1 q2=>?_));(case hx=>exact rfl);conv=>whnf)
  | ((with_reducible refine zfC ?_);(first|((first|refine zfX rfl ?hy (λ Q q0 q1 q2=>?_)|refine zen rfl ?hy (λ Q q0 q1 q2=>?_));(case hy=>first|assumption|exact notT (by assumption)|exact rfl);conv=>whnf)|((first|refine zem rfl ?hy ?_|refine zdj rfl ?hy ?_);(case hy=>first|assumption|exact notF (by assumption)|exact rfl))|(revert hF;(with_reducible first|refine zfY ?hx ?_ ?_|refine zeo ?hx ?_ ?_);(case hx=>exact rfl);(intro hc hF Q q0 q1 q2;conv=>whnf);rotate_left;(intro hc hF);rotate_right)|(revert hF;(with_reducible first|refine zfZ ?hx ?_ ?_|refine zep ?hx ?_ ?_);(case hx=>exact rfl);(intro hc hF);rotate_left;(intro hc hF Q q0 q1 q2;conv=>whnf);rotate_right)))
  | ((with_reducible refine zrA ?_);(first|((first|refine zoT rfl ?hy (λ Q q0 q1 q2=>?_)|refine zmi rfl ?hy (λ Q q0 q1 q2=>?_));(case hy=>first|assumption|exact notT (by assumption)|exact rfl);conv=>whnf)|((first|refine zmh rfl ?hy ?_|refine zjE rfl ?hy ?_);(case hy=>first|assumption|exact notF (by assumption)|exact rfl))|(revert hF;(with_reducible first|refine zoU ?hx ?_ ?_|refine zmj ?hx ?_ ?_);(case hx=>exact rfl);(intro hc hF Q q0 q1 q2;conv=>whnf);rotate_left;(intro hc hF);rotate_right)|(revert hF;(with_reducible first|refine zoV ?hx ?_ ?_|refine zmk ?hx ?_ ?_);(case hx=>exact rfl);(intro hc hF);rotate_left;(intro hc hF Q q0 q1 q2;conv=>whnf);rotate_right)))
  | ((with_reducible refine zdM ?_);(first|((refine zfA rfl ?hy ?_);(case hy=>first|assumption|exact notT (by assumption)|exact rfl))|((refine zfB rfl ?hy ?_);(case hy=>first|assumption|exact notF (by assumption)|exact rfl))|(revert hF;(with_reducible refine zjh ?hx ?_ ?_);(case hx=>exact rfl);all_goals (intro hc hF))))
  | ((with_reducible refine zaJ ?_);(with_reducible have hG:=zbS hF);(refine zeO 90540 603001115 hG rfl rfl (by assumption) (by exact rfl) (by first|exact rfl|assumption|(symm;assumption)|omega) (by exact rfl) (λ q hq hF1=>?_));clear hG hF;(have hF:=hF1);clear hF1;(first|((with_reducible refine hR _ ?_);clear R hR)|((with_reducible refine hL _ ?_);clear L hL)))
  | ((with_reducible refine zaJ ?_);(with_reducible have hG:=zbS hF);(refine zeO 90540 603001505 hG rfl rfl (by assumption) (by exact rfl) (by first|exact rfl|assumption|(symm;assumption)|omega) (by exact rfl) (λ q hq hF1=>?_));clear hG hF;(have hF:=hF1);clear hF1;(first|((with_reducible refine hR _ ?_);clear R hR)|((with_reducible refine hL _ ?_);clear L hL)))
  | ((with_reducible refine zaJ ?_);(with_reducible have hG:=zbS hF);(refine zeO 90540 603001905 hG rfl rfl (by assumption) (by exact rfl) (by first|exact rfl|assumption|(symm;assumption)|omega) (by exact rfl) (λ q hq hF1=>?_));clear hG hF;(have hF:=hF1);clear hF1;(first|((with_reducible refine hR _ ?_);clear R hR)|((with_reducible refine hL _ ?_);clear L hL)))
  | ((with_reducible refine zaJ ?_);(with_reducible have hG:=zbS hF);(refine zeO 90540 603002005 hG rfl rfl (by assumption) (by exact rfl) (by first|exact rfl|assumption|(symm;assumption)|omega) (by exact rfl) (λ q hq hF1=>?_));clear hG hF;(have hF:=hF1);clear hF1;(first|((with_reducible refine hR _ ?_);clear R hR)|((with_reducible refine hL _ ?_);clear L hL)))
  | ((with_reducible refine zaJ ?_);(with_reducible have hG:=zbS hF);(refine zeO 90540 603003399 hG rfl rfl (by assumption) (by exact rfl) (by first|exact rfl|assumption|(symm;assumption)|omega) (by exact rfl) (λ q hq hF1=>?_));clear hG hF;(have hF:=hF1);clear hF1;(first|((with_reducible refine hR _ ?_);clear R hR)|((with_reducible refine hL _ ?_);clear L hL)))
  | ((with_reducible refine zve ?_);(refine zvr 603001299 rfl ?_);(with_reducible have hG:=zrV hF);clear hF;(obtain⟨x,hx,hF⟩:=hG);(refine zx8 90540 603001299 2 rfl rfl hx (by exact rfl) rfl rfl (λ R L hL hR=>?_));dsimp only[St.takenS])
  | ((with_reducible refine zve ?_);(refine zvr 603003399 rfl ?_);(with_reducible have hG:=zrV hF);clear hF;(obtain⟨x,hx,hF⟩:=hG);(refine zx8 90540 603003399 2 rfl rfl hx (by exact rfl) rfl rfl (λ R L hL hR=>?_));dsimp only[St.takenS])
  | ((with_reducible refine zcJ ?_);(first|((with_reducible refine hR _ ?_);clear R hR)|((with_reducible refine hL _ ?_);clear L hL)))
  | ((with_reducible refine zc5 ?_);(with_reducible refine hR _ _ ?hx ?_);(case hx=>kernel_rfl);clear R hR)
  | ((with_reducible first|refine zce ?_|refine zcx ?_|refine idx2 (by assumption) ?_|refine idx3 (by assumption) ?_);conv=>whnf)
  | (with_reducible first|refine zct ?_|refine zcH ?_|refine ztw ?_|refine ztv ?_|refine zd1 ?_|refine zde ?_|refine zby (λ R hR=>?_)|refine zbw ?_|refine zbx ?_|refine zi7 ?_|refine zb9 ?_|refine zbO ?_|refine zc8 ?_|refine zcI ?_)
  | ((with_reducible refine zeb ?hx (λ R L hL hR=>?_));(case hx=>exact rfl))
  | ((with_reducible replace hF:=isE hF);(dsimp only[ziz,ziA,zr2,zr4,zmK,zmL,zkF,zr8,zmN,zkJ,zse,zhp,ziH,zkL,ziI,zsf,zkN,zsg,zhq,zfE,ziQ,ziR,zk4,zoe,zeu,zeZ,zvL,zgK,zl] at hF);first|((with_reducible replace hF:=chkE (e:=zfs ..) hF);rewrite[zfs] at hF)|((with_reducible replace hF:=chkE (e:=zcR ..) hF);rewrite[zcR] at hF)|((with_reducible replace hF:=chkE (e:=zg8 ..) hF);rewrite[zg8] at hF)|rewrite[zgD] at hF|rewrite[zgE] at hF|rewrite[zr1] at hF|rewrite[zr3] at hF|rewrite[ziB] at hF|rewrite[zr7] at hF|rewrite[zg7] at hF|rewrite[zkK] at hF|rewrite[zdB] at hF|rewrite[zf2] at hF|rewrite[zfr] at hF|rewrite[zkM] at hF|rewrite[zf3] at hF|rewrite[zkO] at hF|rewrite[ziS] at hF|rewrite[zbF] at hF|rewrite[zaY] at hF|rewrite[zjS] at hF|rewrite[zbe] at hF)
  | ((with_reducible refine zfW ?_);first|((with_reducible replace hF:=toLp 0 2 hF);exact Lp.backI hF () ⟨_,rfl,rfl,rfl,rfl⟩ rfl)|((with_reducible replace hF:=toLp 0 3 hF);exact Lp.backI hF () ⟨_,rfl,rfl,rfl,rfl⟩ rfl)|((with_reducible replace hF:=toLp 0 4 hF);exact Lp.backI hF () ⟨_,rfl,rfl,rfl,rfl⟩ rfl)|((with_reducible replace hF:=toLp 3 4 hF);exact Lp.backI hF (_,_,_) ⟨_,rfl,rfl,rfl,rfl⟩ (pr2 (by first|exact rfl|assumption|omega|(simp only[List.length_set];done)) (pr2 (by first|exact rfl|assumption|omega|(simp only[List.length_set];done)) (by first|exact rfl|assumption|omega|(simp only[List.length_set];done))))))
  | ((with_reducible refine zdi ?_);first|((with_reducible replace hF:=toLp 0 0 hF);exact Lp.headI hF () ⟨_,rfl,rfl,rfl,rfl⟩ rfl)|((with_reducible replace hF:=toLp 0 1 hF);exact Lp.headI hF () ⟨_,rfl,rfl,rfl,rfl⟩ rfl)|((with_reducible replace hF:=toLp 0 2 hF);exact Lp.headI hF () ⟨_,rfl,rfl,rfl,rfl⟩ rfl)|((with_reducible replace hF:=toLp 3 3 hF);exact Lp.headI hF (_,_,_) ⟨_,rfl,rfl,rfl,rfl⟩ (pr2 (by first|exact rfl|assumption|omega|(simp only[List.length_set];done)) (pr2 (by first|exact rfl|assumption|omega|(simp only[List.length_set];done)) (by first|exact rfl|assumption|omega|(simp only[List.length_set];done)))))|((with_reducible replace hF:=toLp 5 2 hF);exact Lp.headI hF (_,_,_,_,_) ⟨_,rfl,rfl,rfl,rfl⟩ (pr2 (by first|exact rfl|assumption|omega|(simp only[List.length_set];done)) (pr2 (by first|exact rfl|assumption|omega|(simp only[List.length_set];done)) (pr2 (by first|exact rfl|assumption|omega|(simp only[List.length_set];done)) (pr2 (by first|exact rfl|assumption|omega|(simp only[List.length_set];done)) (by first|exact rfl|assumption|omega|(simp only[List.length_set];done)))))))|((with_reducible replace hF:=toLp 6 1 hF);exact Lp.headI hF (_,_,_,_,_,_) ⟨_,rfl,rfl,rfl,rfl⟩ (pr2 (by first|exact rfl|assumption|omega|(simp only[List.length_set];done)) (pr2 (by first|exact rfl|assumption|omega|(simp only[List.length_set];done)) (pr2 (by first|exact rfl|assumption|omega|(simp only[List.length_set];done)) (pr2 (by first|exact rfl|assumption|omega|(simp only[List.length_set];done)) (pr2 (by first|exact rfl|assumption|omega|(simp only[List.length_set];done)) (by first|exact rfl|assumption|omega|(simp only[List.length_set];done)))))))))
  | ((with_reducible refine zfV ?_);first|((with_reducible replace hF:=toLp 0 2 hF);((refine Lp.loopI hF () rfl ⟨_,rfl,rfl,rfl,rfl⟩ rfl (λ _=>rfl) ?_);clear hF);(rintro n ⟨_,_⟩ hF))|((with_reducible replace hF:=toLp 0 3 hF);((refine Lp.loopI hF () rfl ⟨_,rfl,rfl,rfl,rfl⟩ rfl (λ _=>rfl) ?_);clear hF);(rintro n ⟨_,_,_⟩ hF))|((with_reducible replace hF:=toLp 0 4 hF);((refine Lp.loopI hF () rfl ⟨_,rfl,rfl,rfl,rfl⟩ rfl (λ _=>rfl) ?_);clear hF);(rintro n ⟨_,_,_,_⟩ hF))|((with_reducible replace hF:=toLp 3 4 hF);((refine Lp.loopI hF (_,_,_) rfl ⟨_,rfl,rfl,rfl,rfl⟩ (pr2 (by first|exact rfl|assumption|omega|(simp only[List.length_set];done)) (pr2 (by first|exact rfl|assumption|omega|(simp only[List.length_set];done)) (by first|exact rfl|assumption|omega|(simp only[List.length_set];done)))) (λ _=>rfl) ?_);clear hF);(rintro n ⟨_,_,_,_⟩ hF)))
  | ((with_reducible refine zdh ?_);first|((with_reducible replace hF:=zel 0 hF);((refine Lp.cutI hF rfl rfl ?_ ?_) <;> clear hF);(intro hF);rotate_left;(rintro _ hF);rotate_right)|((with_reducible replace hF:=zel 1 hF);((refine Lp.cutI hF rfl rfl ?_ ?_) <;> clear hF);(intro hF);rotate_left;(rintro _ hF);rotate_right)|((with_reducible replace hF:=zel 2 hF);((refine Lp.cutI hF rfl rfl ?_ ?_) <;> clear hF);(intro hF);rotate_left;(rintro⟨_,_⟩ hF);rotate_right)|((with_reducible replace hF:=zel 3 hF);((refine Lp.cutI hF rfl rfl ?_ ?_) <;> clear hF);(intro hF);rotate_left;(rintro⟨_,_,_⟩ hF);rotate_right))
  | ((with_reducible refine zcM [] ?hx ?_);(case hx=>exact rfl))
  | with_reducible refine zfD ?_
  | ((with_reducible have hJ:=isB hF);clear hJ;revert hF;(with_reducible first|refine G91.lend ?hx ?_|refine G94.lend ?hx ?_|refine G112.lend ?hx ?_|refine G126.lend ?hx ?_|refine G95.lend ?hx ?_|refine G139.lend ?hx ?_|refine G80.step ?hx ?_|refine G90.step ?hx ?_|refine G113.lend ?hx ?_|refine G114.lend ?hx ?_);(case hx=>exact rfl);intro v hF;conv=>whnf)
  | ((with_reducible refine isSn ?_);(refine zrU (μ:=Edition.mc) (by assumption) (by exact rfl) ?_);conv=>whnf)
  | ((with_reducible refine Or.inr ?_);(conv=>whnf);(with_reducible refine zvp (.bool false) ?hg ?_);(case hg=>exact rfl);(with_reducible refine zjC (List.map bN (List.replicate 10 false)) ?hx ?_);(case hx=>(unfold zlu;kernel_rfl));conv=>whnf)
  | ((with_reducible refine isSnS ?_);(with_reducible have hG:=zbS hF);clear hF;(refine zjG (μ:=Edition.mc) hG (by assumption) (by exact rfl) (λ q hl hF=>?_));clear hG;conv=>whnf)
  | ((with_reducible refine zrv hF ?_);(clear hF;intro hF;conv=>whnf))
  | ((with_reducible refine zx5 ?_);(with_reducible have hG:=zbS hF);clear hF;(refine zjH (μ:=Edition.mc) (δ:=iN) hG (by assumption) ?hn ?ho (by exact rfl) (λ q hl hF=>?_));(case hn=>first|exact rfl|assumption|omega);(case ho=>(rintro p h;first|(cases h;done)|(cases h;exact⟨rfl,rfl⟩)));clear hG;conv=>whnf)
  | ((with_reducible have hG:=zoP hF);clear hF;(first|(refine zrw hG (by(try simp only[W]);omega) (λ x hF=>?_))|(refine zrx hG (λ _=>rfl) (by(try simp only[W]);omega) (λ x hF=>?_)));clear hG;conv=>whnf)
  | ((refine zvt (μ:=Edition.mc) (δ:=Edition.d) (λ _=>rfl) (.inl rfl) ?hn ?_);(case hn=>first|exact rfl|assumption|omega);conv=>whnf)
  | ((with_reducible have hG:=zmg hF);clear hF;(first|(refine zoQ hG (by(try simp only[W]);omega) rfl rfl (λ q hF=>?_))|(refine zoR hG (λ _=>rfl) (by(try simp only[W]);omega) rfl rfl (λ q hF=>?_)));clear hG;conv=>whnf)
  | ((with_reducible refine zx6 ?_);(refine⟨⟨rfl,rfl⟩, ?_⟩);(conv=>whnf);(refine zrL (by first|exact rfl|assumption|(symm;assumption)|omega) ?_);conv=>whnf)
  | ((with_reducible refine isEx ?_);(refine⟨[.d default, .d default, .r 3 1 [], .d default, .d default, .d default, .d default],rfl, ?_⟩);(conv=>whnf);(refine⟨⟨by decide,rfl⟩, ?_⟩);conv=>whnf)
  | ((with_reducible refine zul ?hn ?_);(case hn=>exact rfl);conv=>whnf)
  | ((with_reducible have hG:=zc6 hF);(first|refine zqf (μ:=Edition.mc) hG ?ho ?hn ?hs (λ q hF1=>?_)|refine znZ (μ:=Edition.mc) hG ?hs (λ q hF1=>?_));(try (case ho=>exact rfl));(try (case hn=>first|exact rfl|assumption|omega));(case hs=>exact rfl);clear hG hF;(have hF:=hF1);clear hF1;conv=>whnf)
  | ((with_reducible have hG:=zrt hF);have hk:=hG.1;have hF:=hG.2;clear hG)
  | ((with_reducible first|refine zeH ?hx ?_|refine zdt ?hx ?_|refine zhE ?hx ?_|refine zgk ?hx ?_|refine zcV ?hx ?_|refine zds ?hx ?_);(case hx=>exact rfl))
  | (revert hF;(with_reducible refine idx1 ?hn ?_);(case hn=>first|exact rfl|exact(List.length_map _)|assumption|omega|simp);intro x hx hF;conv=>whnf)
  | ((with_reducible have hG:=zc6 hF);clear hF;(first|((refine zek hG ?hn ?hs (λ q hF=>?_));(case hn=>first|exact rfl|assumption|omega);(case hs=>exact rfl))|((refine zdK (d:=ClaimS.d) hG ?hs (λ q hF=>?_));(case hs=>exact rfl))|((refine zdL (d:=ClaimS.d) hG ?ho ?hn ?hs (λ q hF=>?_));(case ho=>exact rfl);(case hn=>exact rfl);(case hs=>exact rfl))| ((refine zdK (d:=Stone.d) hG ?hs (λ q hF=>?_));(case hs=>exact rfl))|((refine zdL (d:=Stone.d) hG ?ho ?hn ?hs (λ q hF=>?_));(case ho=>exact rfl);(case hn=>exact rfl);(case hs=>exact rfl))| ((refine zdK (d:=iN) hG ?hs (λ q hF=>?_));(case hs=>exact rfl))|((refine zdL (d:=iN) hG ?ho ?hn ?hs (λ q hF=>?_));(case ho=>exact rfl);(case hn=>exact rfl);(case hs=>exact rfl)));clear hG;conv=>whnf)
  | ((refine zfU ?hn ?_);(case hn=>first|exact rfl|(simp;done)|(simp;omega));conv=>whnf)
  | ((with_reducible refine zim ?hn ?_);(case hn=>first|exact rfl|assumption|omega);conv=>whnf)
  | ((with_reducible have hG:=zbS hF);clear hF;(refine zij hG ?hs (λ q hl hF=>?_));(case hs=>exact rfl);clear hG;conv=>whnf)
  | ((refine⟨?hx, ?_⟩);(case hx=>exact⟨rfl,zAq rfl,rfl⟩);conv=>whnf)
  | ((with_reducible refine zfS ?_);conv=>whnf)
  | ((with_reducible have hG:=zoS hF);clear hF;(refine⟨?hx, ?_⟩);(case hx=>(first|exact of_decide_eq_true hG.1|exact hG.1));have hF:=hG.2;clear hG;conv=>whnf)
  | ((with_reducible refine zin ?hx ?_);(case hx=>first|exact rfl|assumption|exact notT (by assumption));conv=>whnf)
  | ((with_reducible refine zhk ?hx ?_);(case hx=>first|exact rfl|assumption|exact notF (by assumption));conv=>whnf)
  | ((refine zay 602 zAH rfl rfl (zAq rfl) rfl (λ R hR=>?_));(conv=>whnf);(with_reducible refine hR _ ?ha ?_);(case ha=>exact rfl);clear R hR)
  | (show Kinl _ _ _ _ _ _ _;conv=>whnf)
  | ((with_reducible refine zcX ?ha ?hb ?_);(case ha=>exact rfl);(case hb=>exact rfl);conv=>whnf)
  | ((refine⟨?hx,trivial⟩);(case hx=>(cases hF;exact rfl)))
  | with_reducible refine zfI ?_)):P:=h
set_option maxRecDepth 20000 in
theorem wk3 {P:Prop}(h:P:=by repeat' (first
  | ((with_reducible first|refine q0 _ _ ?_|refine q1 _ _ _ _ ?_|refine q2 _ _ _ ?_);clear Q q0 q1 q2)
  | ((with_reducible first|refine zd2 ?hx (λ Q q0 q1 q2=>?_)|refine zed ?hx (λ Q q0 q1 q2=>?_)|refine zec ?hx (λ Q q0 q1 q2=>?_)|refine zgj ?hx (λ Q q0 q1 q2=>?_));(case hx=>exact rfl);conv=>whnf)
  | ((with_reducible first|refine zeH ?hx ?_|refine zdt ?hx ?_|refine zcV ?hx ?_|refine zds ?hx ?_|refine zhE ?hx ?_|refine zgk ?hx ?_);(case hx=>exact rfl))
  | ((with_reducible refine zdM ?_);(first|((refine zfA rfl ?hy ?_);(case hy=>first|assumption|exact notT (by assumption)|exact rfl))|((refine zfB rfl ?hy ?_);(case hy=>first|assumption|exact notF (by assumption)|exact rfl))|(revert hF;(with_reducible refine zjh ?hx ?_ ?_);(case hx=>exact rfl);all_goals (intro hc hF))))
  | ((with_reducible refine zcM [] ?hx ?_);(case hx=>exact rfl))
  | with_reducible refine zfD ?_
  | ((with_reducible refine zaJ ?_);(with_reducible refine zaJ ?_);(with_reducible have hG:=zdk hF);(refine gZ 2 1403 rfl ?_);(refine zmq 2 1403 rfl rfl rfl (by first|exact zax|exact zbj (by decide) zax) (by assumption) (by exact rfl) ?_);(have hF:=hG);clear hG;dsimp only[St.settledF];(first|((with_reducible refine hR _ ?_);clear R hR)|((with_reducible refine hL _ ?_);clear L hL)))
  | ((with_reducible refine zaJ ?_);(with_reducible refine zaJ ?_);(with_reducible have hG:=zdk hF);(refine gZ 4 1403 rfl ?_);(refine zeN 4 1403 rfl rfl rfl (by first|exact zax|exact zbj (by decide) zax) (by assumption) (by exact rfl) ?_);(have hF:=hG);clear hG;dsimp only[St.settledF];(first|((with_reducible refine hR _ ?_);clear R hR)|((with_reducible refine hL _ ?_);clear L hL)))
  | ((with_reducible refine zaJ ?_);(with_reducible refine zaJ ?_);(with_reducible have hG:=zdk hF);(refine gZ 4 1803 rfl ?_);(refine zmq 4 1803 rfl rfl rfl (by first|exact zax|exact zbj (by decide) zax) (by assumption) (by exact rfl) ?_);(have hF:=hG);clear hG;dsimp only[St.settledF];(first|((with_reducible refine hR _ ?_);clear R hR)|((with_reducible refine hL _ ?_);clear L hL)))
  | ((with_reducible refine zaJ ?_);(with_reducible refine zaJ ?_);(with_reducible have hG:=zdk hF);(refine gZ 2 2104 rfl ?_);(refine zeN 2 2104 rfl rfl rfl (by first|exact zax|exact zbj (by decide) zax) (by assumption) (by exact rfl) ?_);(have hF:=hG);clear hG;dsimp only[St.settledF];(first|((with_reducible refine hR _ ?_);clear R hR)|((with_reducible refine hL _ ?_);clear L hL)))
  | ((with_reducible refine zcJ ?_);(first|((with_reducible refine hR _ ?_);clear R hR)|((with_reducible refine hL _ ?_);clear L hL)))
  | ((with_reducible refine zc5 ?_);(with_reducible refine hR _ _ ?hx ?_);(case hx=>kernel_rfl);clear R hR)
  | ((with_reducible first|refine zce ?_|refine zcx ?_|refine idx2 (by assumption) ?_|refine idx3 (by assumption) ?_);conv=>whnf)
  | (with_reducible first|refine zct ?_|refine zcH ?_|refine zd1 ?_|refine zde ?_|refine zby (λ R hR=>?_)|refine zbw ?_|refine zbx ?_|refine zi7 ?_|refine zb9 ?_|refine zbO ?_)
  | ((with_reducible refine zeb ?hx (λ R L hL hR=>?_));(case hx=>exact rfl))
  | ((with_reducible refine exg3 ?_);revert hF;(refine G213.step rfl rfl rfl (by assumption) (by exact rfl) (by exact rfl) ?_);(intro y hy hF);conv=>whnf)
  | ((with_reducible have hJ:=isB hF);clear hJ;revert hF;(with_reducible first|refine G61.lend ?hx ?_|refine G64.lend ?hx ?_);(case hx=>exact rfl);intro v hF;conv=>whnf)
  | (cases hF;(refine Or.inl ?_);(conv=>whnf);exact⟨rfl,rfl,rfl⟩)
  | ((with_reducible have hJ:=isSm hF);clear hJ;revert hF;(refine zik (eK:=strN) (eV:=iN) zbQ ?hk ?hz ?hd ?he ?_);(case hk=>exact λ _=>rfl);(case hz=>exact rfl);(case hd=>exact rfl);(case he=>exact rfl);intro x hF;conv=>whnf)
  | ((with_reducible have hJ:=isO hF);clear hJ;revert hF;(refine zc9 (eK:=strN) (eM:=StoneM.m) zbQ ?hk ?hd ?he ?_ ?_);(case hk=>exact λ _=>rfl);(case hd=>exact rfl);(case he=>exact rfl);(intro hl hF;conv=>whnf);rotate_left;(intro i hl hF;conv=>whnf);rotate_right)
  | ((with_reducible have hJ:=isO hF);clear hJ;revert hF;(refine zc9 (eK:=strN) (eM:=EditionM.m) zbQ ?hk ?hd ?he ?_ ?_);(case hk=>exact λ _=>rfl);(case hd=>exact rfl);(case he=>exact rfl);(intro hl hF;conv=>whnf);rotate_left;(intro i hl hF;conv=>whnf);rotate_right)
  | ((with_reducible refine isLF ?_);(refine zrF (eK:=strN) (eM:=EditionM.m) zbQ (λ _=>rfl) (by exact rfl) (by exact rfl) (by assumption) ?_);conv=>whnf)
  | ((with_reducible have hG:=ziq hF);clear hF;(obtain⟨⟨x,hx,hF⟩⟩:=hG);first|((with_reducible refine isMc ?_);(refine zf0 rfl hx (by exact rfl) ?_);conv=>whnf)|skip)
  | ((with_reducible refine isMc ?_);(refine zf0 rfl (by assumption) (by exact rfl) ?_);conv=>whnf)
  | ((with_reducible refine Or.inr ?_);(conv=>whnf);(with_reducible refine isTk ?_);(refine zkA (by first|exact zax|exact zbj (by decide) zax) ?_);conv=>whnf)
  | ((refine⟨(by first|exact zax|exact zbj (by decide) zax), ?_⟩);conv=>whnf)
  | ((with_reducible have hJ:=isO hF);clear hJ;revert hF;(refine zir ?_ ?_);(intro ho hF;conv=>whnf);rotate_left;(intro j ho hF;conv=>whnf);rotate_right)
  | ((with_reducible refine isOP ?_);(refine zkz (by assumption) ?_);conv=>whnf)
  | ((with_reducible refine isLd ?_);(refine zjF rfl (by assumption) (λ key=>?_));conv=>whnf)
  | ((with_reducible have hG:=zc6 hF);clear hF;(first|((refine zek hG ?hn ?hs (λ q hF=>?_));(case hn=>first|exact rfl|assumption|omega);(case hs=>exact rfl))|((refine zdK (d:=strN) hG ?hs (λ q hF=>?_));(case hs=>exact rfl))|((refine zdL (d:=strN) hG ?ho ?hn ?hs (λ q hF=>?_));(case ho=>exact rfl);(case hn=>exact rfl);(case hs=>exact rfl)));clear hG;conv=>whnf)
  | ((with_reducible have hG:=zc6 hF);clear hF;(first|((refine zek hG ?hn ?hs (λ q hF=>?_));(case hn=>first|exact rfl|assumption|omega);(case hs=>exact rfl))|((refine zdK (d:=iN) hG ?hs (λ q hF=>?_));(case hs=>exact rfl))|((refine zdL (d:=iN) hG ?ho ?hn ?hs (λ q hF=>?_));(case ho=>exact rfl);(case hn=>exact rfl);(case hs=>exact rfl)));clear hG;conv=>whnf)
  | ((refine zfU ?hn ?_);(case hn=>first|exact rfl|(simp;done)|(simp;omega));conv=>whnf)
  | (revert hF;(refine zrP ?hn ?_ ?_);(case hn=>first|exact rfl|assumption|omega);(intro hl hF;conv=>whnf);rotate_left;(intro hF;conv=>whnf);rotate_right)
  | ((with_reducible refine zfS ?_);conv=>whnf)
  | ((with_reducible refine zhk ?hx ?_);(case hx=>first|exact rfl|assumption|exact notF (by assumption));conv=>whnf)
  | ((refine zay 1101 1102000000 rfl rfl (zAq rfl) rfl (λ R hR=>?_));(conv=>whnf);(with_reducible refine hR _ ?ha ?_);(case ha=>exact rfl);clear R hR)
  | ((refine zay 1102 1103000000 rfl rfl (zAq rfl) rfl (λ R hR=>?_));(conv=>whnf);(with_reducible refine hR _ ?ha ?_);(case ha=>exact rfl);clear R hR)
  | ((refine zay 1304 1305000000 rfl rfl (zAq rfl) rfl (λ R hR=>?_));(conv=>whnf);(with_reducible refine hR _ ?ha ?_);(case ha=>exact rfl);clear R hR)
  | ((refine zay 1502 1503000000 rfl rfl (zAq rfl) rfl (λ R hR=>?_));(conv=>whnf);(with_reducible refine hR _ ?ha ?_);(case ha=>exact rfl);clear R hR)
  | ((refine zay 1404 1405000000 rfl rfl (zAq rfl) rfl (λ R hR=>?_));(conv=>whnf);(with_reducible refine hR _ ?ha ?_);(case ha=>exact rfl);clear R hR)
  | ((refine zay 1503000101 1503000102000000 rfl rfl (zAq rfl) rfl (λ R hR=>?_));(conv=>whnf);(with_reducible refine hR _ ?ha ?_);(case ha=>exact rfl);clear R hR)
  | ((refine zay 1103000101 1103000102000000 rfl rfl (zAq rfl) rfl (λ R hR=>?_));(conv=>whnf);(with_reducible refine hR _ ?ha ?_);(case ha=>exact rfl);clear R hR)
  | (show Kinl _ _ _ _ _ _ _;conv=>whnf)
  | ((with_reducible refine zcX ?ha ?hb ?_);(case ha=>exact rfl);(case hb=>exact rfl);conv=>whnf)
  | with_reducible refine zfI ?_)):P:=h
set_option maxRecDepth 20000 in
theorem wk4 {P:Prop}(h:P:=by repeat' (first
  | ((with_reducible first|refine q0 _ _ ?_|refine q1 _ _ _ _ ?_|refine q2 _ _ _ ?_);clear Q q0 q1 q2)
  | ((with_reducible first|refine zd2 ?hx (λ Q q0 q1 q2=>?_)|refine zed ?hx (λ Q q0 q1 q2=>?_)|refine zec ?hx (λ Q q0 q1 q2=>?_)|refine zgj ?hx (λ Q q0 q1 q2=>?_));(case hx=>exact rfl);conv=>whnf)
  | ((with_reducible refine zaJ ?_);(with_reducible refine zaJ ?_);(with_reducible have hG:=zdk hF);(refine gZ 2 1206 rfl ?_);(refine zeN 2 1206 rfl rfl rfl (by first|exact zax|exact zbj (by decide) zax) (by assumption) (by exact rfl) ?_);(have hF:=hG);clear hG;dsimp only[St.settledF];(first|((with_reducible refine hR _ ?_);clear R hR)|((with_reducible refine hL _ ?_);clear L hL)))
  | ((with_reducible refine zaJ ?_);(with_reducible refine zaJ ?_);(with_reducible have hJ:=zmn hF);clear hJ;(refine gZ 2 1303 rfl ?_);(refine zhL 2 1303 hF rfl rfl rfl (by first|exact zax|exact zbj (by decide) zax) (by assumption) (by exact rfl) (by first|exact rfl|assumption|(symm;assumption)|omega) (by exact rfl) (λ q hq hF1=>?_));clear hF;(have hF:=hF1);clear hF1;dsimp only[St.settledF];(first|((with_reducible refine hR _ ?_);clear R hR)|((with_reducible refine hL _ ?_);clear L hL)))
  | ((with_reducible refine zcM [] ?hx ?_);(case hx=>exact rfl))
  | with_reducible refine zfD ?_
  | ((with_reducible refine zaJ ?_);(with_reducible refine zaJ ?_);(with_reducible have hJ:=zmn hF);clear hJ;(refine gZ 2 1206 rfl ?_);(refine zhL 2 1206 hF rfl rfl rfl (by first|exact zax|exact zbj (by decide) zax) (by assumption) (by exact rfl) (by first|exact rfl|assumption|(symm;assumption)|omega) (by exact rfl) (λ q hq hF1=>?_));clear hF;(have hF:=hF1);clear hF1;dsimp only[St.settledF];(first|((with_reducible refine hR _ ?_);clear R hR)|((with_reducible refine hL _ ?_);clear L hL)))
  | ((with_reducible refine zaJ ?_);(with_reducible refine zaJ ?_);(with_reducible have hJ:=zmn hF);clear hJ;(refine gZ 2 1303 rfl ?_);(refine zo1 2 1303 hF rfl rfl rfl (by first|exact zax|exact zbj (by decide) zax) (by assumption) (by exact rfl) (by exact rfl) (λ q hq hF1=>?_));clear hF;(have hF:=hF1);clear hF1;dsimp only[St.settledF];(first|((with_reducible refine hR _ ?_);clear R hR)|((with_reducible refine hL _ ?_);clear L hL)))
  | ((with_reducible refine zaJ ?_);(with_reducible refine zaJ ?_);(with_reducible have hJ:=zmn hF);clear hJ;(refine gZ 2 1203 rfl ?_);(refine zo1 2 1203 hF rfl rfl rfl (by first|exact zax|exact zbj (by decide) zax) (by assumption) (by exact rfl) (by exact rfl) (λ q hq hF1=>?_));clear hF;(have hF:=hF1);clear hF1;dsimp only[St.settledF];(first|((with_reducible refine hR _ ?_);clear R hR)|((with_reducible refine hL _ ?_);clear L hL)))
  | ((with_reducible refine zaJ ?_);(with_reducible refine zaJ ?_);(with_reducible have hJ:=zmn hF);clear hJ;(refine gZ 2 1306 rfl ?_);(refine zhL 2 1306 hF rfl rfl rfl (by first|exact zax|exact zbj (by decide) zax) (by assumption) (by exact rfl) (by first|exact rfl|assumption|(symm;assumption)|omega) (by exact rfl) (λ q hq hF1=>?_));clear hF;(have hF:=hF1);clear hF1;dsimp only[St.settledF];(first|((with_reducible refine hR _ ?_);clear R hR)|((with_reducible refine hL _ ?_);clear L hL)))
  | ((with_reducible refine zaJ ?_);(with_reducible refine zaJ ?_);(with_reducible have hJ:=zmn hF);clear hJ;(refine gZ 2 1501 rfl ?_);(refine zhL 2 1501 hF rfl rfl rfl (by first|exact zax|exact zbj (by decide) zax) (by assumption) (by exact rfl) (by first|exact rfl|assumption|(symm;assumption)|omega) (by exact rfl) (λ q hq hF1=>?_));clear hF;(have hF:=hF1);clear hF1;dsimp only[St.settledF];(first|((with_reducible refine hR _ ?_);clear R hR)|((with_reducible refine hL _ ?_);clear L hL)))
  | ((with_reducible refine zcJ ?_);(first|((with_reducible refine hR _ ?_);clear R hR)|((with_reducible refine hL _ ?_);clear L hL)))
  | ((with_reducible refine zc5 ?_);(with_reducible refine hR _ _ ?hx ?_);(case hx=>kernel_rfl);clear R hR)
  | ((with_reducible first|refine zce ?_|refine zcx ?_|refine idx2 (by assumption) ?_|refine idx3 (by assumption) ?_);conv=>whnf)
  | (with_reducible first|refine zcH ?_|refine zd1 ?_|refine zby (λ R hR=>?_)|refine zbw ?_)
  | ((with_reducible refine zeb ?hx (λ R L hL hR=>?_));(case hx=>exact rfl))
  | ((with_reducible refine exg3 ?_);revert hF;(refine G213.step rfl rfl rfl (by assumption) (by exact rfl) (by exact rfl) ?_);(intro y hy hF);conv=>whnf)
  | (cases hF;(refine Or.inl ?_);(conv=>whnf);exact⟨rfl,rfl,rfl⟩)
  | ((with_reducible have hJ:=isSm hF);clear hJ;revert hF;(refine zik (eK:=strN) (eV:=iN) zbQ ?hk ?hz ?hd ?he ?_);(case hk=>exact λ _=>rfl);(case hz=>exact rfl);(case hd=>exact rfl);(case he=>exact rfl);intro x hF;conv=>whnf)
  | ((refine znX rfl (by assumption) (λ d hp=>?_));(conv=>whnf);(refine zrI hF hp (by assumption) rfl (by exact rfl) (λ q hq hF1=>?_));clear hp;clear hF;(have hF:=hF1);clear hF1;conv=>whnf)
  | ((with_reducible have hJ:=isSm hF);clear hJ;revert hF;(refine zoO (eK:=strN) (eV:=iN) zbQ ?hk ?hv ?hd ?he ?_);(case hk=>exact λ _=>rfl);(case hv=>exact rfl);(case hd=>exact rfl);(case he=>exact rfl);intro x hF;conv=>whnf)
  | ((with_reducible have hJ:=isO hF);clear hJ;revert hF;(refine zc9 (eK:=strN) (eM:=StoneM.m) zbQ ?hk ?hd ?he ?_ ?_);(case hk=>exact λ _=>rfl);(case hd=>exact rfl);(case he=>exact rfl);(intro hl hF;conv=>whnf);rotate_left;(intro i hl hF;conv=>whnf);rotate_right)
  | ((with_reducible have hJ:=isSm hF);clear hJ;revert hF;(refine zoO (eK:=strN) (eV:=bN) zbQ ?hk ?hv ?hd ?he ?_);(case hk=>exact λ _=>rfl);(case hv=>exact rfl);(case hd=>exact rfl);(case he=>exact rfl);intro x hF;conv=>whnf)
  | ((with_reducible have hJ:=isO hF);clear hJ;revert hF;(refine zc9 (eK:=strN) (eM:=EditionM.m) zbQ ?hk ?hd ?he ?_ ?_);(case hk=>exact λ _=>rfl);(case hd=>exact rfl);(case he=>exact rfl);(intro hl hF;conv=>whnf);rotate_left;(intro i hl hF;conv=>whnf);rotate_right)
  | ((with_reducible have hG:=ziq hF);clear hF;(obtain⟨⟨x,hx,hF⟩⟩:=hG);first|((with_reducible refine isMc ?_);(refine zf0 rfl hx (by exact rfl) ?_);conv=>whnf)|skip)
  | ((with_reducible refine isMc ?_);(refine zf0 rfl (by assumption) (by exact rfl) ?_);conv=>whnf)
  | ((with_reducible refine Or.inr ?_);(conv=>whnf);(with_reducible refine isTk ?_);(refine zkA (by first|exact zax|exact zbj (by decide) zax) ?_);conv=>whnf)
  | ((refine⟨(by first|exact zax|exact zbj (by decide) zax), ?_⟩);conv=>whnf)
  | ((with_reducible have hJ:=isO hF);clear hJ;revert hF;(refine zir ?_ ?_);(intro ho hF;conv=>whnf);rotate_left;(intro j ho hF;conv=>whnf);rotate_right)
  | ((with_reducible refine isOP ?_);(refine zkz (by assumption) ?_);conv=>whnf)
  | ((with_reducible refine isOP ?_);(refine zrG (by assumption) ?_);conv=>whnf)
  | ((with_reducible refine isSF ?_);(with_reducible have hJ:=zmn hF);clear hJ;(refine zrH hF (by assumption) rfl (by exact rfl) (λ q hq hF1=>?_));clear hF;(have hF:=hF1);clear hF1;conv=>whnf)
  | ((with_reducible refine isPF ?_);(with_reducible have hJ:=zmn hF);clear hJ;(refine zrN hF (by assumption) rfl (by first|exact rfl|assumption|omega) (by exact rfl) (by first|exact zrM.trans zo0|exact zo0|exact rfl) (λ q hq hF1=>?_));clear hF;(have hF:=hF1);clear hF1;conv=>whnf)
  | (revert hF;(with_reducible refine idx1 ?hn ?_);(case hn=>first|exact rfl|exact(List.length_map _)|assumption|omega|simp);intro x hx hF;conv=>whnf)
  | ((with_reducible have hG:=zc6 hF);clear hF;(first|((refine zek hG ?hn ?hs (λ q hF=>?_));(case hn=>first|exact rfl|assumption|omega);(case hs=>exact rfl))|((refine zdK (d:=iN) hG ?hs (λ q hF=>?_));(case hs=>exact rfl))|((refine zdL (d:=iN) hG ?ho ?hn ?hs (λ q hF=>?_));(case ho=>exact rfl);(case hn=>exact rfl);(case hs=>exact rfl)));clear hG;conv=>whnf)
  | ((refine zfU ?hn ?_);(case hn=>first|exact rfl|(simp;done)|(simp;omega));conv=>whnf)
  | ((with_reducible refine zim ?hn ?_);(case hn=>first|exact rfl|assumption|omega);conv=>whnf)
  | ((with_reducible have hG:=zbS hF);clear hF;(refine zij hG ?hs (λ q hl hF=>?_));(case hs=>exact rfl);clear hG;conv=>whnf)
  | ((refine⟨?hx, ?_⟩);(case hx=>exact⟨rfl,zAq rfl,rfl⟩);conv=>whnf)
  | ((with_reducible refine zfS ?_);conv=>whnf)
  | with_reducible refine zfI ?_
  | (have hF:(none:Option _)=some _:=hF;cases hF))):P:=h
set_option maxRecDepth 20000 in
theorem wk5 {P:Prop}(h:P:=by repeat' (first
  | ((with_reducible first|refine q0 _ _ ?_|refine q1 _ _ _ _ ?_|refine q2 _ _ _ ?_);clear Q q0 q1 q2)
  | ((with_reducible first|refine zd2 ?hx (λ Q q0 q1 q2=>?_)|refine zed ?hx (λ Q q0 q1 q2=>?_));(case hx=>exact rfl);conv=>whnf)
  | ((with_reducible refine zdM ?_);(first|((refine zfA rfl ?hy ?_);(case hy=>first|assumption|exact notT (by assumption)|exact rfl))|((refine zfB rfl ?hy ?_);(case hy=>first|assumption|exact notF (by assumption)|exact rfl))|(revert hF;(with_reducible refine zjh ?hx ?_ ?_);(case hx=>exact rfl);all_goals (intro hc hF))))
  | ((with_reducible refine zcJ ?_);(first|((with_reducible refine hR _ ?_);clear R hR)|((with_reducible refine hL _ ?_);clear L hL)))
  | ((with_reducible refine zc5 ?_);(with_reducible refine hR _ _ ?hx ?_);(case hx=>kernel_rfl);clear R hR)
  | ((with_reducible first|refine zce ?_|refine zcx ?_|refine idx2 (by assumption) ?_|refine idx3 (by assumption) ?_);conv=>whnf)
  | (with_reducible first|refine zct ?_|refine zcH ?_|refine zd1 ?_|refine zde ?_|refine zby (λ R hR=>?_)|refine zbw ?_|refine zbx ?_|refine zi7 ?_|refine zb9 ?_|refine zbO ?_|refine zc8 ?_|refine zcI ?_)
  | ((with_reducible refine zeb ?hx (λ R L hL hR=>?_));(case hx=>exact rfl))
  | ((with_reducible replace hF:=isE hF);(dsimp only[zn1,zvv,zmz,zer,zhn,zbU,zkE,zr6,zmM,zn4,zvy,zr9,zn5,zvz,zmO,zn7,zvC,zqh,zkI,zsd,zjJ,zn9,zvE,zmR] at hF);first|((with_reducible replace hF:=chkE (e:=zg6) hF);rewrite[zg6] at hF)|((with_reducible replace hF:=chkE (e:=zjI) hF);rewrite[zjI] at hF)|((with_reducible replace hF:=chkE (e:=ziC) hF);rewrite[ziC] at hF)|((with_reducible replace hF:=chkE (e:=ziF) hF);rewrite[ziF] at hF)|((with_reducible replace hF:=chkE (e:=zf1) hF);rewrite[zf1] at hF)|rewrite[ziu] at hF|rewrite[zo5] at hF|rewrite[zbT] at hF|rewrite[zdA] at hF|rewrite[zr5] at hF|rewrite[zvx] at hF|rewrite[zo8] at hF|rewrite[zvB] at hF|rewrite[zsc] at hF|rewrite[zjK] at hF|rewrite[zpa] at hF)
  | ((with_reducible refine zfW ?_);first|((with_reducible replace hF:=toLp 0 1 hF);exact Lp.backI hF () ⟨_,rfl,rfl,rfl,rfl⟩ rfl)|((with_reducible replace hF:=toLp 0 2 hF);exact Lp.backI hF () ⟨_,rfl,rfl,rfl,rfl⟩ rfl))
  | ((with_reducible refine zdi ?_);first|((with_reducible replace hF:=toLp 0 0 hF);exact Lp.headI hF () ⟨_,rfl,rfl,rfl,rfl⟩ rfl)|((with_reducible replace hF:=toLp 0 1 hF);exact Lp.headI hF () ⟨_,rfl,rfl,rfl,rfl⟩ rfl))
  | ((with_reducible refine zfV ?_);first|((with_reducible replace hF:=toLp 0 1 hF);((refine Lp.loopI hF () rfl ⟨_,rfl,rfl,rfl,rfl⟩ rfl (λ _=>rfl) ?_);clear hF);(rintro n _ hF))|((with_reducible replace hF:=toLp 0 2 hF);((refine Lp.loopI hF () rfl ⟨_,rfl,rfl,rfl,rfl⟩ rfl (λ _=>rfl) ?_);clear hF);(rintro n ⟨_,_⟩ hF)))
  | ((with_reducible refine zdh ?_);first|((with_reducible replace hF:=zel 0 hF);((refine Lp.cutI hF rfl rfl ?_ ?_) <;> clear hF);(intro hF);rotate_left;(rintro _ hF);rotate_right)|((with_reducible replace hF:=zel 1 hF);((refine Lp.cutI hF rfl rfl ?_ ?_) <;> clear hF);(intro hF);rotate_left;(rintro _ hF);rotate_right))
  | ((with_reducible refine zcM [] ?hx ?_);(case hx=>exact rfl))
  | with_reducible refine zfD ?_
  | (revert hF;(with_reducible refine idx1 ?hn ?_);(case hn=>first|exact rfl|exact(List.length_map _)|assumption|omega|simp);intro x hx hF;conv=>whnf)
  | ((with_reducible have hG:=zgx hF);clear hF;(refine zhK hG (λ q hF=>?_));clear hG;conv=>whnf)
  | ((refine zay 103 104000000 rfl rfl (zAq rfl) rfl (λ R hR=>?_));(conv=>whnf);(with_reducible refine hR _ ?ha ?_);(case ha=>exact rfl);clear R hR)
  | ((refine zay 104000403 104000404000000 rfl rfl (zAq rfl) rfl (λ R hR=>?_));(conv=>whnf);(with_reducible refine hR _ ?ha ?_);(case ha=>exact rfl);clear R hR)
  | (show Kinl _ _ _ _ _ _ _;conv=>whnf)
  | ((with_reducible refine zcX ?ha ?hb ?_);(case ha=>exact rfl);(case hb=>exact rfl);conv=>whnf)
  | ((refine⟨?hx,trivial⟩);(case hx=>(cases hF;exact rfl)))
  | with_reducible refine zfI ?_)):P:=h
set_option maxRecDepth 20000 in
theorem wk6 {P:Prop}(h:P:=by repeat' (first
  | ((with_reducible first|refine q0 _ _ ?_|refine q1 _ _ _ _ ?_|refine q2 _ _ _ ?_);clear Q q0 q1 q2)
  | ((with_reducible first|refine zd2 ?hx (λ Q q0 q1 q2=>?_)|refine zec ?hx (λ Q q0 q1 q2=>?_));(case hx=>exact rfl);conv=>whnf)
  | ((with_reducible refine zfC ?_);(first|((first|refine zfX rfl ?hy (λ Q q0 q1 q2=>?_)|refine zen rfl ?hy (λ Q q0 q1 q2=>?_));(case hy=>first|assumption|exact notT (by assumption)|exact rfl);conv=>whnf)|((first|refine zem rfl ?hy ?_|refine zdj rfl ?hy ?_);(case hy=>first|assumption|exact notF (by assumption)|exact rfl))|(revert hF;(with_reducible first|refine zfY ?hx ?_ ?_|refine zeo ?hx ?_ ?_);(case hx=>exact rfl);(intro hc hF Q q0 q1 q2;conv=>whnf);rotate_left;(intro hc hF);rotate_right)|(revert hF;(with_reducible first|refine zfZ ?hx ?_ ?_|refine zep ?hx ?_ ?_);(case hx=>exact rfl);(intro hc hF);rotate_left;(intro hc hF Q q0 q1 q2;conv=>whnf);rotate_right)))
  | ((with_reducible refine zdM ?_);(first|((refine zfA rfl ?hy ?_);(case hy=>first|assumption|exact notT (by assumption)|exact rfl))|((refine zfB rfl ?hy ?_);(case hy=>first|assumption|exact notF (by assumption)|exact rfl))|(revert hF;(with_reducible refine zjh ?hx ?_ ?_);(case hx=>exact rfl);all_goals (intro hc hF))))
  | ((with_reducible refine zcJ ?_);(first|((with_reducible refine hR _ ?_);clear R hR)|((with_reducible refine hL _ ?_);clear L hL)))
  | ((with_reducible first|refine zce ?_|refine zcx ?_|refine idx2 (by assumption) ?_|refine idx3 (by assumption) ?_);conv=>whnf)
  | (with_reducible first|refine zct ?_|refine zcH ?_|refine zd1 ?_|refine zde ?_|refine zby (λ R hR=>?_)|refine zbw ?_|refine zbx ?_|refine zi7 ?_|refine zb9 ?_|refine zbO ?_|refine zc8 ?_|refine zcI ?_)
  | ((with_reducible replace hF:=isE hF);(dsimp only[zkB,zrY,zkC,zeS,zn0,zvu,zit,zn6,zvA,zmP,zn8,zvD,zmQ,zkP,zsh,zfF,zbB,zcz,zbC,zbl,zcb,zcB,za5,zaZ,za6,zo,zvF,zoa,zob,zvG,zkS,ziN,zsl,zkU,zgI,zbD,zcC,zaG] at hF);first|((with_reducible replace hF:=chkE (e:=zeq ..) hF);rewrite[zeq] at hF)|((with_reducible replace hF:=chkE (e:=zeT ..) hF);rewrite[zeT] at hF)|((with_reducible replace hF:=chkE (e:=ziG) hF);rewrite[ziG] at hF)|((with_reducible replace hF:=chkE (e:=zaS ..) hF);rewrite[zaS] at hF)|((with_reducible replace hF:=chkE (e:=zaT ..) hF);rewrite[zaT] at hF)|((with_reducible replace hF:=chkE (e:=zaN ..) hF);rewrite[zaN] at hF)|((with_reducible replace hF:=chkE (e:=zhr) hF);rewrite[zhr] at hF)|((with_reducible replace hF:=chkE (e:=zeV ..) hF);rewrite[zeV] at hF)|((with_reducible replace hF:=chkE (e:=zaD ..) hF);rewrite[zaD] at hF)|rewrite[zeR] at hF|rewrite[zis] at hF|rewrite[zms] at hF|rewrite[ziD] at hF|rewrite[zo9] at hF|rewrite[zp] at hF|rewrite[zdN] at hF|rewrite[ziJ] at hF|rewrite[zcy] at hF|rewrite[zca] at hF|rewrite[zcA] at hF|rewrite[zgH] at hF|rewrite[zsk] at hF|rewrite[zpd] at hF|rewrite[zes] at hF|rewrite[zkT] at hF|rewrite[zbd] at hF)
  | ((with_reducible refine zfW ?_);first|((with_reducible replace hF:=toLp 0 1 hF);exact Lp.backI hF () ⟨_,rfl,rfl,rfl,rfl⟩ rfl)|((with_reducible replace hF:=toLp 0 2 hF);exact Lp.backI hF () ⟨_,rfl,rfl,rfl,rfl⟩ rfl))
  | ((with_reducible refine zdi ?_);first|((with_reducible replace hF:=toLp 0 0 hF);exact Lp.headI hF () ⟨_,rfl,rfl,rfl,rfl⟩ rfl)|((with_reducible replace hF:=toLp 0 1 hF);exact Lp.headI hF () ⟨_,rfl,rfl,rfl,rfl⟩ rfl))
  | ((with_reducible refine zfV ?_);first|((with_reducible replace hF:=toLp 0 1 hF);((refine Lp.loopI hF () rfl ⟨_,rfl,rfl,rfl,rfl⟩ rfl (λ _=>rfl) ?_);clear hF);(rintro n _ hF))|((with_reducible replace hF:=toLp 0 2 hF);((refine Lp.loopI hF () rfl ⟨_,rfl,rfl,rfl,rfl⟩ rfl (λ _=>rfl) ?_);clear hF);(rintro n ⟨_,_⟩ hF)))
  | ((with_reducible refine zdh ?_);first|((with_reducible replace hF:=zel 0 hF);((refine Lp.cutI hF rfl rfl ?_ ?_) <;> clear hF);(intro hF);rotate_left;(rintro _ hF);rotate_right)|((with_reducible replace hF:=zel 1 hF);((refine Lp.cutI hF rfl rfl ?_ ?_) <;> clear hF);(intro hF);rotate_left;(rintro _ hF);rotate_right))
  | ((with_reducible refine zcM [] ?hx ?_);(case hx=>exact rfl))
  | with_reducible refine zfD ?_
  | ((with_reducible have hJ:=isB hF);clear hJ;revert hF;(with_reducible first|refine G73.step ?hx ?_|refine G117.lend ?hx ?_|refine G143.step ?hx ?_|refine G145.lend ?hx ?_|refine G30.lend ?hx ?_|refine G86.lend ?hx ?_|refine G124.lend ?hx ?_|refine G116.lend ?hx ?_);(case hx=>exact rfl);intro v hF;conv=>whnf)
  | ((with_reducible have hI:=zrS hF);clear hI;revert hF;(refine zmc ?_);intro x hF;conv=>whnf)
  | (revert hF;(refine zrr ?_);intro x hF;conv=>whnf)
  | ((with_reducible have hI:=zrT hF);clear hI;revert hF;(refine zmd ?_);intro x hF;conv=>whnf)
  | ((with_reducible have hI:=zrQ hF);clear hI;revert hF;(refine zme ?_);intro x hF;conv=>whnf)
  | ((with_reducible first|refine zeH ?hx ?_|refine zdt ?hx ?_|refine zcV ?hx ?_|refine zds ?hx ?_);(case hx=>exact rfl))
  | (revert hF;(with_reducible refine idx1 ?hn ?_);(case hn=>first|exact rfl|exact(List.length_map _)|assumption|omega|simp);intro x hx hF;conv=>whnf)
  | ((with_reducible refine zfS ?_);conv=>whnf)
  | ((with_reducible refine zin ?hx ?_);(case hx=>first|exact rfl|assumption|exact notT (by assumption));conv=>whnf)
  | ((with_reducible refine zhk ?hx ?_);(case hx=>first|exact rfl|assumption|exact notF (by assumption));conv=>whnf)
  | (revert hF;(with_reducible refine zbc ?_ ?_) <;> (intro hc hF;conv=>whnf))
  | ((refine zay 206 207000000 rfl rfl (zAq rfl) rfl (λ R hR=>?_));(conv=>whnf);(with_reducible refine hR _ ?ha ?_);(case ha=>exact rfl);clear R hR)
  | ((refine zay 602 zAH rfl rfl (zAq rfl) rfl (λ R hR=>?_));(conv=>whnf);(with_reducible refine hR _ ?ha ?_);(case ha=>exact rfl);clear R hR)
  | ((refine zay 403 404000000 rfl rfl (zAq rfl) rfl (λ R hR=>?_));(conv=>whnf);(with_reducible refine hR _ ?ha ?_);(case ha=>exact rfl);clear R hR)
  | ((refine zay 603000102 603000103000000 rfl rfl (zAq rfl) rfl (λ R hR=>?_));(conv=>whnf);(with_reducible refine hR _ ?ha ?_);(case ha=>exact rfl);clear R hR)
  | ((refine zay 207000102 207000103000000 rfl rfl (zAq rfl) rfl (λ R hR=>?_));(conv=>whnf);(with_reducible refine hR _ ?ha ?_);(case ha=>exact rfl);clear R hR)
  | ((refine zay 603000103000405 603000103000406000000 rfl rfl (zAq rfl) rfl (λ R hR=>?_));(conv=>whnf);(with_reducible refine hR _ ?ha ?_);(case ha=>exact rfl);clear R hR)
  | ((refine zay 404000102 404000103000000 rfl rfl (zAq rfl) rfl (λ R hR=>?_));(conv=>whnf);(with_reducible refine hR _ ?ha ?_);(case ha=>exact rfl);clear R hR)
  | ((refine zay 207000103000405 207000103000406000000 rfl rfl (zAq rfl) rfl (λ R hR=>?_));(conv=>whnf);(with_reducible refine hR _ ?ha ?_);(case ha=>exact rfl);clear R hR)
  | ((refine zay 404000103000405 404000103000406000000 rfl rfl (zAq rfl) rfl (λ R hR=>?_));(conv=>whnf);(with_reducible refine hR _ ?ha ?_);(case ha=>exact rfl);clear R hR)
  | (show Kinl _ _ _ _ _ _ _;conv=>whnf)
  | ((with_reducible refine zcX ?ha ?hb ?_);(case ha=>exact rfl);(case hb=>exact rfl);conv=>whnf)
  | ((refine⟨?hx,trivial⟩);(case hx=>(cases hF;exact rfl)))
  | ((refine⟨?hx, ?_⟩);(case hx=>decide);conv=>whnf)
  | with_reducible refine zfI ?_)):P:=h
set_option maxRecDepth 20000 in
theorem wk7 {P:Prop}(h:P:=by repeat' (first
  | ((with_reducible first|refine q0 _ _ ?_|refine q1 _ _ _ _ ?_|refine q2 _ _ _ ?_);clear Q q0 q1 q2)
  | ((with_reducible first|refine zd2 ?hx (λ Q q0 q1 q2=>?_)|refine zed ?hx (λ Q q0 q1 q2=>?_)|refine zec ?hx (λ Q q0 q1 q2=>?_)|refine zgj ?hx (λ Q q0 q1 q2=>?_));(case hx=>exact rfl);conv=>whnf)
  | ((with_reducible refine zdM ?_);(first|((refine zfA rfl ?hy ?_);(case hy=>first|assumption|exact notT (by assumption)|exact rfl))|((refine zfB rfl ?hy ?_);(case hy=>first|assumption|exact notF (by assumption)|exact rfl))|(revert hF;(with_reducible refine zjh ?hx ?_ ?_);(case hx=>exact rfl);all_goals (intro hc hF))))
  | ((with_reducible refine zcJ ?_);(first|((with_reducible refine hR _ ?_);clear R hR)|((with_reducible refine hL _ ?_);clear L hL)))
  | ((with_reducible refine zcM [] ?hx ?_);(case hx=>exact rfl))
  | with_reducible refine zfD ?_
  | ((with_reducible refine zc5 ?_);(with_reducible refine hR _ _ ?hx ?_);(case hx=>kernel_rfl);clear R hR)
  | (with_reducible first|refine zcH ?_|refine zd1 ?_|refine zby (λ R hR=>?_)|refine zbw ?_|refine zct ?_|refine zde ?_|refine zbx ?_|refine zi7 ?_|refine zb9 ?_|refine zbO ?_)
  | ((with_reducible refine zeb ?hx (λ R L hL hR=>?_));(case hx=>exact rfl))
  | ((with_reducible have hJ:=isB hF);clear hJ;revert hF;(first|refine G51.step rfl rfl rfl rfl rfl rfl rfl (by first|exact rfl|assumption|omega|(simp only[List.length_set];done)) (by first|exact trivial|exact rfl) ?hn ?_);(case hn=>exact rfl);intro v hF;(obtain⟨v,ve⟩:=v);(try dsimp only at hF);(conv=>whnf))
  | ((with_reducible have hJ:=isB hF);clear hJ;revert hF;(first|refine G197.step rfl rfl rfl rfl rfl  (by first|exact trivial|exact rfl) ?hn ?_|refine G199.step rfl rfl rfl rfl rfl  (by first|exact trivial|exact rfl) ?hn ?_|refine G201.step rfl rfl rfl rfl rfl  (by first|exact trivial|exact rfl) ?hn ?_|refine G203.step rfl rfl rfl rfl rfl  (by first|exact trivial|exact rfl) ?hn ?_|refine G205.step rfl rfl rfl rfl rfl  (by first|exact trivial|exact rfl) ?hn ?_|refine G207.step rfl rfl rfl rfl rfl  (by first|exact trivial|exact rfl) ?hn ?_|refine G209.step rfl rfl rfl rfl rfl  (by first|exact trivial|exact rfl) ?hn ?_|refine G211.step rfl rfl rfl rfl rfl  (by first|exact trivial|exact rfl) ?hn ?_|refine G214.step rfl rfl rfl rfl rfl  (by first|exact trivial|exact rfl) ?hn ?_);(case hn=>exact rfl);intro v hF;conv=>whnf)
  | (cases hF;(refine Or.inl ?_);(conv=>whnf);exact⟨rfl,rfl,rfl⟩)
  | (with_reducible first|(replace hF:=I97.go0 hF)|(replace hF:=I97.go1 hF)|(replace hF:=I97.go2 hF)|(replace hF:=I97.go3 hF)|(replace hF:=I97.go4 hF)|(replace hF:=I97.go5 hF)|(replace hF:=I97.go6 hF)|(replace hF:=I97.go7 hF)|(replace hF:=I97.go8 hF)|(replace hF:=I97.go9 hF))
  | ((with_reducible have hG:=zmo hF);clear hF;(refine zmp (eM:=StoneM.m) hG zbQ ?hk ?hd ?he [.d default, .p 0 none, .d default] rfl ?_);(case hk=>exact λ _=>rfl);(case hd=>exact rfl);(case he=>exact rfl);(conv=>whnf);(refine⟨⟨rfl,rfl,(by decide)⟩, ?_⟩);(refine zrK hG rfl rfl rfl (λ q hq hF=>?_));clear hG;conv=>whnf)
  | ((with_reducible have hG:=zmo hF);clear hF;(refine zmp (eM:=EditionM.m) hG zbQ ?hk ?hd ?he [.d default, .d default, .r 3 1 [], .d default, .d default, .d default, .d default, .m [], .d default] rfl ?_);(case hk=>exact λ _=>rfl);(case hd=>exact rfl);(case he=>exact rfl);(conv=>whnf);(refine⟨⟨rfl,rfl,(by decide)⟩, ?_⟩);(refine zrK hG rfl rfl rfl (λ q hq hF=>?_));clear hG;conv=>whnf)
  | ((refine zfU ?hn ?_);(case hn=>first|exact rfl|(simp;done)|(simp;omega));conv=>whnf)
  | with_reducible refine zfI ?_
  | (have hF:(none:Option _)=some _:=hF;cases hF)
  | ((with_reducible have hG:=zc6 hF);clear hF;(first|((refine zek hG ?hn ?hs (λ q hF=>?_));(case hn=>first|exact rfl|assumption|omega);(case hs=>exact rfl))|((refine zdK (d:=strN) hG ?hs (λ q hF=>?_));(case hs=>exact rfl))|((refine zdL (d:=strN) hG ?ho ?hn ?hs (λ q hF=>?_));(case ho=>exact rfl);(case hn=>exact rfl);(case hs=>exact rfl)));clear hG;conv=>whnf)
  | ((refine I97.fp (K:=λ x=>Q ⟨x,[]⟩ _) ?_);conv=>whnf)
  | ((rename I97=>xi);cases xi <;> ((try dsimp only at hF);(try (conv=>whnf)))))):P:=h
set_option maxRecDepth 20000 in
theorem wk8 {P:Prop}(h:P:=by repeat' (first
  | ((with_reducible first|refine q0 _ _ ?_|refine q1 _ _ _ _ ?_|refine q2 _ _ _ ?_);clear Q q0 q1 q2)
  | ((with_reducible first|refine zd2 ?hx (λ Q q0 q1 q2=>?_));(case hx=>exact rfl);conv=>whnf)
  | ((with_reducible refine zcJ ?_);(first|((with_reducible refine hR _ ?_);clear R hR)|((with_reducible refine hL _ ?_);clear L hL)))
  | ((with_reducible first|refine zce ?_|refine zcx ?_);conv=>whnf)
  | ((with_reducible refine zcM [] ?hx ?_);(case hx=>exact rfl))
  | with_reducible refine zfD ?_
  | (with_reducible first|refine zcH ?_|refine zd1 ?_|refine zby (λ R hR=>?_)|refine zbw ?_)
  | ((with_reducible have hJ:=isB hF);clear hJ;revert hF;(with_reducible first|refine G88.lend ?hx ?_|refine G96.lend ?hx ?_|refine G93.lend ?hx ?_|refine G61.lend ?hx ?_|refine G119.step ?hx ?_);(case hx=>exact rfl);intro v hF;conv=>whnf)
  | ((with_reducible have hG:=zgx hF);clear hF;(refine zhK hG (λ q hF=>?_));clear hG;conv=>whnf)
  | ((refine zfU ?hn ?_);(case hn=>first|exact rfl|(simp;done)|(simp;omega));conv=>whnf)
  | ((refine⟨?hx,trivial⟩);(case hx=>(cases hF;exact rfl)))
  | with_reducible refine zfI ?_)):P:=h
set_option maxRecDepth 20000 in
theorem wk9 {P:Prop}(h:P:=by repeat' (first
  | ((with_reducible first|refine q0 _ _ ?_|refine q1 _ _ _ _ ?_|refine q2 _ _ _ ?_);clear Q q0 q1 q2)
  | ((with_reducible first|refine zd2 ?hx (λ Q q0 q1 q2=>?_)|refine zed ?hx (λ Q q0 q1 q2=>?_));(case hx=>exact rfl);conv=>whnf)
  | ((with_reducible first|refine zeH ?hx ?_|refine zdt ?hx ?_|refine zcV ?hx ?_|refine zds ?hx ?_);(case hx=>exact rfl))
  | ((with_reducible refine zfC ?_);(first|((first|refine zfX rfl ?hy (λ Q q0 q1 q2=>?_)|refine zen rfl ?hy (λ Q q0 q1 q2=>?_));(case hy=>first|assumption|exact notT (by assumption)|exact rfl);conv=>whnf)|((first|refine zem rfl ?hy ?_|refine zdj rfl ?hy ?_);(case hy=>first|assumption|exact notF (by assumption)|exact rfl))|(revert hF;(with_reducible first|refine zfY ?hx ?_ ?_|refine zeo ?hx ?_ ?_);(case hx=>exact rfl);(intro hc hF Q q0 q1 q2;conv=>whnf);rotate_left;(intro hc hF);rotate_right)|(revert hF;(with_reducible first|refine zfZ ?hx ?_ ?_|refine zep ?hx ?_ ?_);(case hx=>exact rfl);(intro hc hF);rotate_left;(intro hc hF Q q0 q1 q2;conv=>whnf);rotate_right)))
  | ((with_reducible refine zdM ?_);(first|((refine zfA rfl ?hy ?_);(case hy=>first|assumption|exact notT (by assumption)|exact rfl))|((refine zfB rfl ?hy ?_);(case hy=>first|assumption|exact notF (by assumption)|exact rfl))|(revert hF;(with_reducible refine zjh ?hx ?_ ?_);(case hx=>exact rfl);all_goals (intro hc hF))))
  | ((with_reducible refine zcJ ?_);(first|((with_reducible refine hR _ ?_);clear R hR)|((with_reducible refine hL _ ?_);clear L hL)))
  | ((with_reducible refine zc5 ?_);(with_reducible refine hR _ _ ?hx ?_);(case hx=>kernel_rfl);clear R hR)
  | ((with_reducible first|refine zce ?_|refine zcx ?_);conv=>whnf)
  | (with_reducible first|refine zcH ?_|refine zd1 ?_|refine zby (λ R hR=>?_)|refine zbw ?_|refine zct ?_|refine zde ?_|refine zbx ?_|refine zi7 ?_|refine zb9 ?_|refine zbO ?_)
  | ((with_reducible have hJ:=isB hF);clear hJ;revert hF;(with_reducible first|refine G132.lend ?hx ?_|refine G158.lend ?hx ?_|refine G116.lend ?hx ?_|refine G131.lend ?hx ?_);(case hx=>exact rfl);intro v hF;conv=>whnf)
  | ((with_reducible refine zeb ?hx (λ R L hL hR=>?_));(case hx=>exact rfl))
  | ((with_reducible replace hF:=isE hF);(dsimp only[zof] at hF);first|rewrite[ziT] at hF)
  | ((with_reducible refine zdi ?_);first|((with_reducible replace hF:=toLp 1 2 hF);exact Lp.headI hF (_,()) ⟨_,rfl,rfl,rfl,rfl⟩ (pr2 (by first|exact rfl|assumption|omega|(simp only[List.length_set];done)) rfl)))
  | ((with_reducible refine zdh ?_);first|((with_reducible replace hF:=zel 2 hF);((refine Lp.cutI hF rfl rfl ?_ ?_) <;> clear hF);(intro hF);rotate_left;(rintro⟨_,_⟩ hF);rotate_right))
  | ((with_reducible refine zcM [] ?hx ?_);(case hx=>exact rfl))
  | with_reducible refine zfD ?_
  | (revert hF;(with_reducible refine G79.step ?hx ?_);(case hx=>exact rfl);intro v hF;(obtain⟨v,ve⟩:=v);(try dsimp only at hF);(conv=>whnf))
  | ((with_reducible have hJ:=isB hF);clear hJ;revert hF;(first|refine G198.step rfl rfl rfl rfl rfl  (by first|exact trivial|exact rfl) ?hn ?_|refine G200.step rfl rfl rfl rfl rfl  (by first|exact trivial|exact rfl) ?hn ?_|refine G202.step rfl rfl rfl rfl rfl  (by first|exact trivial|exact rfl) ?hn ?_|refine G204.step rfl rfl rfl rfl rfl  (by first|exact trivial|exact rfl) ?hn ?_|refine G206.step rfl rfl rfl rfl rfl  (by first|exact trivial|exact rfl) ?hn ?_|refine G208.step rfl rfl rfl rfl rfl  (by first|exact trivial|exact rfl) ?hn ?_|refine G210.step rfl rfl rfl rfl rfl  (by first|exact trivial|exact rfl) ?hn ?_|refine G212.step rfl rfl rfl rfl rfl  (by first|exact trivial|exact rfl) ?hn ?_|refine G215.step rfl rfl rfl rfl rfl  (by first|exact trivial|exact rfl) ?hn ?_);(case hn=>exact rfl);intro v hF;conv=>whnf)
  | (cases hF;(refine Or.inl ?_);(conv=>whnf);exact⟨rfl,rfl,rfl⟩)
  | (with_reducible first|(replace hF:=I97.go0 hF)|(replace hF:=I97.go1 hF)|(replace hF:=I97.go2 hF)|(replace hF:=I97.go3 hF)|(replace hF:=I97.go4 hF)|(replace hF:=I97.go5 hF)|(replace hF:=I97.go6 hF)|(replace hF:=I97.go7 hF)|(replace hF:=I97.go8 hF)|(replace hF:=I97.go9 hF))
  | ((with_reducible refine zin ?hx ?_);(case hx=>first|exact rfl|assumption|exact notT (by assumption));conv=>whnf)
  | ((with_reducible refine zhk ?hx ?_);(case hx=>first|exact rfl|assumption|exact notF (by assumption));conv=>whnf)
  | ((refine zay 1101 1102000000 rfl rfl (zAq rfl) rfl (λ R hR=>?_));(conv=>whnf);(with_reducible refine hR _ ?ha ?_);(case ha=>exact rfl);clear R hR)
  | (show Kinl _ _ _ _ _ _ _;conv=>whnf)
  | ((with_reducible refine zcX ?ha ?hb ?_);(case ha=>exact rfl);(case hb=>exact rfl);conv=>whnf)
  | ((refine⟨?hx,trivial⟩);(case hx=>(cases hF;exact rfl)))
  | with_reducible refine zfI ?_
  | (have hF:(none:Option _)=some _:=hF;cases hF)
  | ((refine I97.fo (K:=λ x=>Q ⟨x,[]⟩ _) ?_);conv=>whnf)
  | ((rename I97=>xi);cases xi <;> ((try dsimp only at hF);(try (conv=>whnf)))))):P:=h
set_option maxRecDepth 20000 in
theorem wk10 {P:Prop}(h:P:=by repeat' (first
  | ((with_reducible first|refine q0 _ _ ?_|refine q1 _ _ _ _ ?_|refine q2 _ _ _ ?_);clear Q q0 q1 q2)
  | ((with_reducible first|refine zd2 ?hx (λ Q q0 q1 q2=>?_)|refine zed ?hx (λ Q q0 q1 q2=>?_)|refine zec ?hx (λ Q q0 q1 q2=>?_));(case hx=>exact rfl);conv=>whnf)
  | ((with_reducible refine zc5 ?_);(with_reducible refine hR _ _ ?hx ?_);(case hx=>kernel_rfl);clear R hR)
  | ((with_reducible first|refine zce ?_|refine idx2 (by assumption) ?_|refine idx3 (by assumption) ?_);conv=>whnf)
  | ((with_reducible refine zcM [] ?hx ?_);(case hx=>exact rfl))
  | with_reducible refine zfD ?_
  | (with_reducible first|refine zct ?_|refine zcH ?_|refine zd1 ?_|refine zde ?_|refine zby (λ R hR=>?_)|refine zbw ?_|refine zbx ?_|refine zi7 ?_|refine zb9 ?_|refine zbO ?_)
  | ((with_reducible refine zeb ?hx (λ R L hL hR=>?_));(case hx=>exact rfl))
  | ((with_reducible have hJ:=isB hF);clear hJ;revert hF;(with_reducible first|refine G64.lend ?hx ?_|refine G146.lend ?hx ?_|refine G147.lend ?hx ?_|refine G55.lend ?hx ?_|refine G80.step ?hx ?_|refine G81.lend ?hx ?_);(case hx=>exact rfl);intro v hF;conv=>whnf)
  | (cases hF;(refine Or.inl ?_);(conv=>whnf);exact⟨rfl,rfl,rfl⟩)
  | ((with_reducible have hJ:=zx3 hF);clear hJ;revert hF;(refine zrs ?_);intro x hF;conv=>whnf)
  | ((with_reducible have hJ:=isO hF);clear hJ;revert hF;(refine zc9 (eK:=strN) (eM:=StoneM.m) zbQ ?hk ?hd ?he ?_ ?_);(case hk=>exact λ _=>rfl);(case hd=>exact rfl);(case he=>exact rfl);(intro hl hF;conv=>whnf);rotate_left;(intro i hl hF;conv=>whnf);rotate_right)
  | ((with_reducible have hJ:=isSm hF);clear hJ;revert hF;(refine zik (eK:=strN) (eV:=bN) zbQ ?hk ?hz ?hd ?he ?_);(case hk=>exact λ _=>rfl);(case hz=>exact rfl);(case hd=>exact rfl);(case he=>exact rfl);intro x hF;conv=>whnf)
  | ((with_reducible have hJ:=isO hF);clear hJ;revert hF;(refine zc9 (eK:=strN) (eM:=EditionM.m) zbQ ?hk ?hd ?he ?_ ?_);(case hk=>exact λ _=>rfl);(case hd=>exact rfl);(case he=>exact rfl);(intro hl hF;conv=>whnf);rotate_left;(intro i hl hF;conv=>whnf);rotate_right)
  | ((with_reducible have hG:=ziq hF);clear hF;(obtain⟨⟨x,hx,hF⟩⟩:=hG);first|((with_reducible refine isMc ?_);(refine zf0 rfl hx (by exact rfl) ?_);conv=>whnf)|skip)
  | ((with_reducible refine isMc ?_);(refine zf0 rfl (by assumption) (by exact rfl) ?_);conv=>whnf)
  | ((with_reducible refine Or.inr ?_);(conv=>whnf);(with_reducible refine isTk ?_);(refine zkA (by first|exact zax|exact zbj (by decide) zax) ?_);conv=>whnf)
  | ((with_reducible have hJ:=isO hF);clear hJ;revert hF;(refine zir ?_ ?_);(intro ho hF;conv=>whnf);rotate_left;(intro j ho hF;conv=>whnf);rotate_right)
  | ((with_reducible refine isOP ?_);(refine zkz (by assumption) ?_);conv=>whnf)
  | ((with_reducible refine isLd ?_);(refine zjF rfl (by assumption) (λ key=>?_));conv=>whnf)
  | ((with_reducible have hJ:=zx3 hF);clear hJ;revert hF;(refine zrJ rfl ?_);intro x hF;conv=>whnf)
  | ((with_reducible first|refine zeH ?hx ?_|refine zdt ?hx ?_|refine zhE ?hx ?_|refine zgk ?hx ?_|refine zcV ?hx ?_|refine zds ?hx ?_);(case hx=>exact rfl))
  | (revert hF;(with_reducible refine idx1 ?hn ?_);(case hn=>first|exact rfl|exact(List.length_map _)|assumption|omega|simp);intro x hx hF;conv=>whnf)
  | ((with_reducible refine zfC ?_);(first|((first|refine zfX rfl ?hy (λ Q q0 q1 q2=>?_)|refine zen rfl ?hy (λ Q q0 q1 q2=>?_));(case hy=>first|assumption|exact notT (by assumption)|exact rfl);conv=>whnf)|((first|refine zem rfl ?hy ?_|refine zdj rfl ?hy ?_);(case hy=>first|assumption|exact notF (by assumption)|exact rfl))|(revert hF;(with_reducible first|refine zfY ?hx ?_ ?_|refine zeo ?hx ?_ ?_);(case hx=>exact rfl);(intro hc hF Q q0 q1 q2;conv=>whnf);rotate_left;(intro hc hF);rotate_right)|(revert hF;(with_reducible first|refine zfZ ?hx ?_ ?_|refine zep ?hx ?_ ?_);(case hx=>exact rfl);(intro hc hF);rotate_left;(intro hc hF Q q0 q1 q2;conv=>whnf);rotate_right)))
  | ((with_reducible refine zrA ?_);(first|((first|refine zoT rfl ?hy (λ Q q0 q1 q2=>?_)|refine zmi rfl ?hy (λ Q q0 q1 q2=>?_));(case hy=>first|assumption|exact notT (by assumption)|exact rfl);conv=>whnf)|((first|refine zmh rfl ?hy ?_|refine zjE rfl ?hy ?_);(case hy=>first|assumption|exact notF (by assumption)|exact rfl))|(revert hF;(with_reducible first|refine zoU ?hx ?_ ?_|refine zmj ?hx ?_ ?_);(case hx=>exact rfl);(intro hc hF Q q0 q1 q2;conv=>whnf);rotate_left;(intro hc hF);rotate_right)|(revert hF;(with_reducible first|refine zoV ?hx ?_ ?_|refine zmk ?hx ?_ ?_);(case hx=>exact rfl);(intro hc hF);rotate_left;(intro hc hF Q q0 q1 q2;conv=>whnf);rotate_right)))
  | ((with_reducible refine zdM ?_);(first|((refine zfA rfl ?hy ?_);(case hy=>first|assumption|exact notT (by assumption)|exact rfl))|((refine zfB rfl ?hy ?_);(case hy=>first|assumption|exact notF (by assumption)|exact rfl))|(revert hF;(with_reducible refine zjh ?hx ?_ ?_);(case hx=>exact rfl);all_goals (intro hc hF))))
  | ((with_reducible refine zim ?hn ?_);(case hn=>first|exact rfl|assumption|omega);conv=>whnf)
  | ((with_reducible refine zaJ ?_);(with_reducible refine zaJ ?_);(with_reducible have hG:=zdk hF);(refine gZ 2 1611 rfl ?_);(refine zeN 2 1611 rfl rfl rfl (by first|exact zax|exact zbj (by decide) zax) (by assumption) (by exact rfl) ?_);(have hF:=hG);clear hG;dsimp only[St.settledF];(first|((with_reducible refine hR _ ?_);clear R hR)|((with_reducible refine hL _ ?_);clear L hL)))
  | ((with_reducible refine zaJ ?_);(with_reducible refine zaJ ?_);(with_reducible have hG:=zdk hF);(refine gZ 2 1603 rfl ?_);(refine zeN 2 1603 rfl rfl rfl (by first|exact zax|exact zbj (by decide) zax) (by assumption) (by exact rfl) ?_);(have hF:=hG);clear hG;dsimp only[St.settledF];(first|((with_reducible refine hR _ ?_);clear R hR)|((with_reducible refine hL _ ?_);clear L hL)))
  | ((with_reducible refine zcJ ?_);(first|((with_reducible refine hR _ ?_);clear R hR)|((with_reducible refine hL _ ?_);clear L hL)))
  | ((with_reducible refine zfS ?_);conv=>whnf)
  | ((with_reducible refine zin ?hx ?_);(case hx=>first|exact rfl|assumption|exact notT (by assumption));conv=>whnf)
  | ((with_reducible refine zhk ?hx ?_);(case hx=>first|exact rfl|assumption|exact notF (by assumption));conv=>whnf)
  | ((refine⟨?hx,trivial⟩);(case hx=>(cases hF;exact rfl)))
  | ((refine⟨?hx, ?_⟩);(case hx=>decide);conv=>whnf)
  | with_reducible refine zfI ?_)):P:=h

end Go.Vc
