/-
  A library for proofs about Go functions by symbolic evaluation,and plain Lean functions that the walked Go functions compute (written by a program of this claim).
-/
import Derived.Test.YtijmkjnlgcockaaGreatDoorFRDF1
set_option linter.unusedVariables false
set_option linter.unnecessarySimpa false
set_option linter.unusedSimpArgs false
namespace Go.Vc
open Go.Proofs
variable {N id:Nat} {ρ:Type} {q:ρ} {xs:List SV} {m:Nat->Blk} {l:List Loc} {ds:List D} {K:Dl->List Loc->Prop} {k0 k1 k2 k3 k4 k5 k6 k7 k8 k9 k10 k11 k12 k13 k14 k15 m0 m1 m2 m3 m4 m5:Nat}
def zhO (N:Nat)(x15:Int)(v30:Bool):Option (Bool) :=
 bif !v30 then ((f14 N ).bind λ x20 =>
 some (x20))
 else (bif decide (x15<(48:Int)) then ((f14 N ).bind λ x21 =>
 some (x21))
 else (bif decide ((57:Int)<x15) then ((f14 N ).bind λ x22 =>
 some (x22))
 else ((f14 N ).bind λ x23 =>
 some (x23))))
def znc (N:Nat)(x15:Int):Lp (Bool) Unit (Bool):=lp0 ⟨[22,27,30],[],[],[]⟩ (λ v30=>[.dat (iN (19:Int)), .dat (u8N x15), .kb v30]) (λ _=>[]) (λ v30=>zhO N x15 v30)
instance Ef9_c47 {N x15 v30}:IsLp 0 1 (zhO N x15 v30) (znc N x15) v30:=⟨rfl⟩
instance Cf9_c47 {N x15}:IsCut 1 (zhO N x15) (znc N x15) 47:=⟨⟩
def zhP (a1:Int)(N:Nat)(x6:ByteArray)(x15:Int)(v29:Int):Option (Bool) :=
 zau (zhO N x15) λ k0 =>
 bif decide ((1:Int)<=(W (v29-(Int.tmod a1 (ByteArray.size x6:Int))))) then (bif decide ((W (v29-(Int.tmod a1 (ByteArray.size x6:Int))))<=(5:Int)) then (k0 (decide ((10:Int)<(Int.tmod a1 (ByteArray.size x6:Int)))))
 else (k0 false))
 else (k0 false)
def znd (a1:Int)(N:Nat)(x6:ByteArray)(x15:Int):Lp (Int) Unit (Bool):=lp0 ⟨[22,23,27,29],[],[],[]⟩ (λ v29=>[.dat (iN (19:Int)), .dat (iN (Int.tmod a1 (ByteArray.size x6:Int))), .dat (u8N x15), .dat (iN v29)]) (λ _=>[]) (λ v29=>zhP a1 N x6 x15 v29)
instance Ef9_c46 {a1 N x6 x15 v29}:IsLp 0 1 (zhP a1 N x6 x15 v29) (znd a1 N x6 x15) v29:=⟨rfl⟩
instance Cf9_c46 {a1 N x6 x15}:IsCut 1 (zhP a1 N x6 x15) (znd a1 N x6 x15) 46:=⟨⟩
def zuO (r44:Int->Option (Bool))(a1:Int)(x6:ByteArray)(x15:Int)(k1:Int->Option (Bool))(v29:Int):Option (Bool) :=
 bif decide (v29<(W ((ByteArray.size x6:Int)-(1:Int)))) then ((idxS x6 v29).bind λ x24 =>
 bif decide (¬ x24=(10:Int)) then (r44 (W (v29+(1:Int))))
 else (k1 v29))
 else (k1 v29)
def zne (a1:Int)(x6:ByteArray)(x15:Int)(k1:Int->Option (Bool)):Nat->Int->Option (Bool)
 | 0,_=>none
 | n+1,v29=>zuO (zne a1 x6 x15 k1 n) a1 x6 x15 k1 v29
def zuP (a1:Int)(x6:ByteArray)(x15:Int)(k1:Int->Option (Bool)):Lp (Nat×Int) Unit (Bool):=lp0 ⟨[20,22,23,27,29],[],[],[]⟩ (λ (_,v29)=>[.dat (strN x6), .dat (iN (19:Int)), .dat (iN (Int.tmod a1 (ByteArray.size x6:Int))), .dat (u8N x15), .dat (iN v29)]) (λ (_,_)=>[]) (λ (n,v29)=>zne a1 x6 x15 k1 n v29)
instance Ef9_44 {a1 x6 x15 k1 n v29}:IsLp 0 1 (zne a1 x6 x15 k1 n v29) (zuP a1 x6 x15 k1) (n,v29):=⟨rfl⟩
def zdO (N:Nat)(x15:Int)(v30:Bool):Option (Bool) :=
 bif !v30 then ((f14 N ).bind λ x26 =>
 some (x26))
 else (bif decide (x15<(48:Int)) then ((f14 N ).bind λ x27 =>
 some (x27))
 else (bif decide ((57:Int)<x15) then ((f14 N ).bind λ x28 =>
 some (x28))
 else ((f14 N ).bind λ x29 =>
 some (x29))))
def zhQ (N:Nat)(x15:Int):Lp (Bool) Unit (Bool):=lp0 ⟨[22,27,30],[],[],[]⟩ (λ v30=>[.dat (iN (18:Int)), .dat (u8N x15), .kb v30]) (λ _=>[]) (λ v30=>zdO N x15 v30)
instance zx8 {N x15 v30}:IsLp 0 1 (zdO N x15 v30) (zhQ N x15) v30:=⟨rfl⟩
instance zx9 {N x15}:IsCut 1 (zdO N x15) (zhQ N x15) 47:=⟨⟩
def zdP (a1:Int)(N:Nat)(x6:ByteArray)(x15:Int)(v29:Int):Option (Bool) :=
 zau (zdO N x15) λ k2 =>
 bif decide ((1:Int)<=(W (v29-(Int.tmod a1 (ByteArray.size x6:Int))))) then (bif decide ((W (v29-(Int.tmod a1 (ByteArray.size x6:Int))))<=(5:Int)) then (k2 (decide ((10:Int)<(Int.tmod a1 (ByteArray.size x6:Int)))))
 else (k2 false))
 else (k2 false)
def zhR (a1:Int)(N:Nat)(x6:ByteArray)(x15:Int):Lp (Int) Unit (Bool):=lp0 ⟨[22,23,27,29],[],[],[]⟩ (λ v29=>[.dat (iN (18:Int)), .dat (iN (Int.tmod a1 (ByteArray.size x6:Int))), .dat (u8N x15), .dat (iN v29)]) (λ _=>[]) (λ v29=>zdP a1 N x6 x15 v29)
instance zy {a1 N x6 x15 v29}:IsLp 0 1 (zdP a1 N x6 x15 v29) (zhR a1 N x6 x15) v29:=⟨rfl⟩
instance zya {a1 N x6 x15}:IsCut 1 (zdP a1 N x6 x15) (zhR a1 N x6 x15) 46:=⟨⟩
def zof (r44:Int->Option (Bool))(a1:Int)(x6:ByteArray)(x15:Int)(k3:Int->Option (Bool))(v29:Int):Option (Bool) :=
 bif decide (v29<(W ((ByteArray.size x6:Int)-(1:Int)))) then ((idxS x6 v29).bind λ x30 =>
 bif decide (¬ x30=(10:Int)) then (r44 (W (v29+(1:Int))))
 else (k3 v29))
 else (k3 v29)
def zfh (a1:Int)(x6:ByteArray)(x15:Int)(k3:Int->Option (Bool)):Nat->Int->Option (Bool)
 | 0,_=>none
 | n+1,v29=>zof (zfh a1 x6 x15 k3 n) a1 x6 x15 k3 v29
def zog (a1:Int)(x6:ByteArray)(x15:Int)(k3:Int->Option (Bool)):Lp (Nat×Int) Unit (Bool):=lp0 ⟨[20,22,23,27,29],[],[],[]⟩ (λ (_,v29)=>[.dat (strN x6), .dat (iN (18:Int)), .dat (iN (Int.tmod a1 (ByteArray.size x6:Int))), .dat (u8N x15), .dat (iN v29)]) (λ (_,_)=>[]) (λ (n,v29)=>zfh a1 x6 x15 k3 n v29)
instance Ef9_44_1 {a1 x6 x15 k3 n v29}:IsLp 0 1 (zfh a1 x6 x15 k3 n v29) (zog a1 x6 x15 k3) (n,v29):=⟨rfl⟩
def zdQ (N:Nat)(x15:Int)(v30:Bool):Option (Bool) :=
 bif !v30 then ((f14 N ).bind λ x36 =>
 some (x36))
 else (bif decide (x15<(48:Int)) then ((f14 N ).bind λ x37 =>
 some (x37))
 else (bif decide ((57:Int)<x15) then ((f14 N ).bind λ x38 =>
 some (x38))
 else ((f14 N ).bind λ x39 =>
 some (x39))))
def zhS (N:Nat)(x15:Int):Lp (Bool) Unit (Bool):=lp0 ⟨[22,27,30],[],[],[]⟩ (λ v30=>[.dat (iN (9:Int)), .dat (u8N x15), .kb v30]) (λ _=>[]) (λ v30=>zdQ N x15 v30)
instance zyb {N x15 v30}:IsLp 0 1 (zdQ N x15 v30) (zhS N x15) v30:=⟨rfl⟩
instance zyc {N x15}:IsCut 1 (zdQ N x15) (zhS N x15) 47:=⟨⟩
def zdR (a1:Int)(N:Nat)(x6:ByteArray)(x15:Int)(v29:Int):Option (Bool) :=
 zau (zdQ N x15) λ k4 =>
 bif decide ((1:Int)<=(W (v29-(Int.tmod a1 (ByteArray.size x6:Int))))) then (bif decide ((W (v29-(Int.tmod a1 (ByteArray.size x6:Int))))<=(5:Int)) then (k4 (decide ((10:Int)<(Int.tmod a1 (ByteArray.size x6:Int)))))
 else (k4 false))
 else (k4 false)
def zhT (a1:Int)(N:Nat)(x6:ByteArray)(x15:Int):Lp (Int) Unit (Bool):=lp0 ⟨[22,23,27,29],[],[],[]⟩ (λ v29=>[.dat (iN (9:Int)), .dat (iN (Int.tmod a1 (ByteArray.size x6:Int))), .dat (u8N x15), .dat (iN v29)]) (λ _=>[]) (λ v29=>zdR a1 N x6 x15 v29)
instance zyd {a1 N x6 x15 v29}:IsLp 0 1 (zdR a1 N x6 x15 v29) (zhT a1 N x6 x15) v29:=⟨rfl⟩
instance zye {a1 N x6 x15}:IsCut 1 (zdR a1 N x6 x15) (zhT a1 N x6 x15) 46:=⟨⟩
def zoh (r44:Int->Option (Bool))(a1:Int)(x6:ByteArray)(x15:Int)(k5:Int->Option (Bool))(v29:Int):Option (Bool) :=
 bif decide (v29<(W ((ByteArray.size x6:Int)-(1:Int)))) then ((idxS x6 v29).bind λ x40 =>
 bif decide (¬ x40=(10:Int)) then (r44 (W (v29+(1:Int))))
 else (k5 v29))
 else (k5 v29)
def zfi (a1:Int)(x6:ByteArray)(x15:Int)(k5:Int->Option (Bool)):Nat->Int->Option (Bool)
 | 0,_=>none
 | n+1,v29=>zoh (zfi a1 x6 x15 k5 n) a1 x6 x15 k5 v29
def zoi (a1:Int)(x6:ByteArray)(x15:Int)(k5:Int->Option (Bool)):Lp (Nat×Int) Unit (Bool):=lp0 ⟨[20,22,23,27,29],[],[],[]⟩ (λ (_,v29)=>[.dat (strN x6), .dat (iN (9:Int)), .dat (iN (Int.tmod a1 (ByteArray.size x6:Int))), .dat (u8N x15), .dat (iN v29)]) (λ (_,_)=>[]) (λ (n,v29)=>zfi a1 x6 x15 k5 n v29)
instance Ef9_44_2 {a1 x6 x15 k5 n v29}:IsLp 0 1 (zfi a1 x6 x15 k5 n v29) (zoi a1 x6 x15 k5) (n,v29):=⟨rfl⟩
def zdg (N:Nat)(x15:Int)(v30:Bool):Option (Bool) :=
 bif !v30 then ((f14 N ).bind λ x43 =>
 some (x43))
 else (bif decide (x15<(48:Int)) then ((f14 N ).bind λ x44 =>
 some (x44))
 else (bif decide ((57:Int)<x15) then ((f14 N ).bind λ x45 =>
 some (x45))
 else (some (false))))
def zhU (N:Nat)(x15:Int):Lp (Bool) Unit (Bool):=lp0 ⟨[22,27,30],[],[],[]⟩ (λ v30=>[.dat (iN (0:Int)), .dat (u8N x15), .kb v30]) (λ _=>[]) (λ v30=>zdg N x15 v30)
instance zyf {N x15 v30}:IsLp 0 1 (zdg N x15 v30) (zhU N x15) v30:=⟨rfl⟩
instance zyg {N x15}:IsCut 1 (zdg N x15) (zhU N x15) 47:=⟨⟩
def zdh (a1:Int)(N:Nat)(x6:ByteArray)(x15:Int)(v29:Int):Option (Bool) :=
 zau (zdg N x15) λ k6 =>
 bif decide ((1:Int)<=(W (v29-(Int.tmod a1 (ByteArray.size x6:Int))))) then (bif decide ((W (v29-(Int.tmod a1 (ByteArray.size x6:Int))))<=(5:Int)) then (k6 (decide ((10:Int)<(Int.tmod a1 (ByteArray.size x6:Int)))))
 else (k6 false))
 else (k6 false)
def zhV (a1:Int)(N:Nat)(x6:ByteArray)(x15:Int):Lp (Int) Unit (Bool):=lp0 ⟨[22,23,27,29],[],[],[]⟩ (λ v29=>[.dat (iN (0:Int)), .dat (iN (Int.tmod a1 (ByteArray.size x6:Int))), .dat (u8N x15), .dat (iN v29)]) (λ _=>[]) (λ v29=>zdh a1 N x6 x15 v29)
instance zyh {a1 N x6 x15 v29}:IsLp 0 1 (zdh a1 N x6 x15 v29) (zhV a1 N x6 x15) v29:=⟨rfl⟩
instance zyi {a1 N x6 x15}:IsCut 1 (zdh a1 N x6 x15) (zhV a1 N x6 x15) 46:=⟨⟩
def zoj (r44:Int->Option (Bool))(a1:Int)(x6:ByteArray)(x15:Int)(k7:Int->Option (Bool))(v29:Int):Option (Bool) :=
 bif decide (v29<(W ((ByteArray.size x6:Int)-(1:Int)))) then ((idxS x6 v29).bind λ x46 =>
 bif decide (¬ x46=(10:Int)) then (r44 (W (v29+(1:Int))))
 else (k7 v29))
 else (k7 v29)
def zgb (a1:Int)(x6:ByteArray)(x15:Int)(k7:Int->Option (Bool)):Nat->Int->Option (Bool)
 | 0,_=>none
 | n+1,v29=>zoj (zgb a1 x6 x15 k7 n) a1 x6 x15 k7 v29
def zok (a1:Int)(x6:ByteArray)(x15:Int)(k7:Int->Option (Bool)):Lp (Nat×Int) Unit (Bool):=lp0 ⟨[20,22,23,27,29],[],[],[]⟩ (λ (_,v29)=>[.dat (strN x6), .dat (iN (0:Int)), .dat (iN (Int.tmod a1 (ByteArray.size x6:Int))), .dat (u8N x15), .dat (iN v29)]) (λ (_,_)=>[]) (λ (n,v29)=>zgb a1 x6 x15 k7 n v29)
instance Ef9_44_3 {a1 x6 x15 k7 n v29}:IsLp 0 1 (zgb a1 x6 x15 k7 n v29) (zok a1 x6 x15 k7) (n,v29):=⟨rfl⟩
def zbg (a1:Int)(N:Nat)(x6:ByteArray)(x15:Int)(v26:List Int)(b106_1'':LB)(b100'':LS)(b101'':LE)(b102'':LC):Option (Bool) :=
 (f23 N (b106_1'') (b100'') (b101'') (b102'')).bind λ x41 =>
 (zjC v26).bind λ x42 =>
 bif decide (¬ x41=x42) then (some (false))
 else (zau (zdh a1 N x6 x15) λ k7 =>
 zgb a1 x6 x15 k7 N (Int.tmod a1 (ByteArray.size x6:Int)))
def zdS (a1:Int)(N:Nat)(x6:ByteArray)(x15:Int)(v26:List Int):Lp (LB×LS×LE×LC) (Nat×Unit) (Bool):=lpm ⟨[5],[90026,zzg,zzk,zzb,zzm,zzn,zzh],[(.cell zzh 1,zzg,9,1)],[]⟩ (λ (b106_1'',b100'',b101'',b102'')=>zbg a1 N x6 x15 v26 b106_1'' b100'' b101'' b102'') (λ (_,_,_,_) (_,_)=>[.ptr zzh 0]) (λ (b106_1'',b100'',b101'',b102'') (m0,_)=>[.row 5 1 (List.map u8N v26),(rW b106_1''),(sW [zzb] b100''),(eW b101''),(mW b102''), .box [.mp zzk, .mp zzb, .mp zzm], .box [.ptr zzn 0, .rs zzg m0]]) λ (b106_1'',_,_,_)=>(List.length (b106_1''),())
instance ztI {a1 N x6 x15 v26 b106_1'' b100'' b101'' b102''}:IsLp 1 4 (zbg a1 N x6 x15 v26 b106_1'' b100'' b101'' b102'') (zdS a1 N x6 x15 v26) (b106_1'',b100'',b101'',b102''):=⟨rfl⟩
instance ztJ {a1 N x6 x15 v26}:IsCut 4 (zbg a1 N x6 x15 v26) (zdS a1 N x6 x15 v26) 4003000000018:=⟨⟩
def zdT (N:Nat)(x15:Int)(x49:Int×LS×LE×LC×LB)(v30:Bool):Option (Bool) :=
 bif !v30 then ((f14 N ).bind λ x50 =>
 some (x50))
 else (bif decide (x15<(48:Int)) then ((f14 N ).bind λ x51 =>
 some (x51))
 else (bif decide ((57:Int)<x15) then ((f14 N ).bind λ x52 =>
 some (x52))
 else ((f14 N ).bind λ x53 =>
 some (x53))))
def zhW (N:Nat)(x15:Int)(x49:Int×LS×LE×LC×LB):Lp (Bool) Unit (Bool):=lp0 ⟨[22,27,30],[],[],[]⟩ (λ v30=>[.dat (iN x49.1), .dat (u8N x15), .kb v30]) (λ _=>[]) (λ v30=>zdT N x15 x49 v30)
instance zyj {N x15 x49 v30}:IsLp 0 1 (zdT N x15 x49 v30) (zhW N x15 x49) v30:=⟨rfl⟩
instance zyk {N x15 x49}:IsCut 1 (zdT N x15 x49) (zhW N x15 x49) 47:=⟨⟩
def zdU (a1:Int)(N:Nat)(x6:ByteArray)(x15:Int)(x49:Int×LS×LE×LC×LB)(v29:Int):Option (Bool) :=
 zau (zdT N x15 x49) λ k9 =>
 bif decide ((1:Int)<=(W (v29-(Int.tmod a1 (ByteArray.size x6:Int))))) then (bif decide ((W (v29-(Int.tmod a1 (ByteArray.size x6:Int))))<=(5:Int)) then (k9 (decide ((10:Int)<(Int.tmod a1 (ByteArray.size x6:Int)))))
 else (k9 false))
 else (k9 false)
def zhX (a1:Int)(N:Nat)(x6:ByteArray)(x15:Int)(x49:Int×LS×LE×LC×LB):Lp (Int) Unit (Bool):=lp0 ⟨[22,23,27,29],[],[],[]⟩ (λ v29=>[.dat (iN x49.1), .dat (iN (Int.tmod a1 (ByteArray.size x6:Int))), .dat (u8N x15), .dat (iN v29)]) (λ _=>[]) (λ v29=>zdU a1 N x6 x15 x49 v29)
instance zyl {a1 N x6 x15 x49 v29}:IsLp 0 1 (zdU a1 N x6 x15 x49 v29) (zhX a1 N x6 x15 x49) v29:=⟨rfl⟩
instance zym {a1 N x6 x15 x49}:IsCut 1 (zdU a1 N x6 x15 x49) (zhX a1 N x6 x15 x49) 46:=⟨⟩
def zol (r44:Int->Option (Bool))(a1:Int)(x6:ByteArray)(x15:Int)(x49:Int×LS×LE×LC×LB)(k10:Int->Option (Bool))(v29:Int):Option (Bool) :=
 bif decide (v29<(W ((ByteArray.size x6:Int)-(1:Int)))) then ((idxS x6 v29).bind λ x54 =>
 bif decide (¬ x54=(10:Int)) then (r44 (W (v29+(1:Int))))
 else (k10 v29))
 else (k10 v29)
def zfj (a1:Int)(x6:ByteArray)(x15:Int)(x49:Int×LS×LE×LC×LB)(k10:Int->Option (Bool)):Nat->Int->Option (Bool)
 | 0,_=>none
 | n+1,v29=>zol (zfj a1 x6 x15 x49 k10 n) a1 x6 x15 x49 k10 v29
def zom (a1:Int)(x6:ByteArray)(x15:Int)(x49:Int×LS×LE×LC×LB)(k10:Int->Option (Bool)):Lp (Nat×Int) Unit (Bool):=lp0 ⟨[20,22,23,27,29],[],[],[]⟩ (λ (_,v29)=>[.dat (strN x6), .dat (iN x49.1), .dat (iN (Int.tmod a1 (ByteArray.size x6:Int))), .dat (u8N x15), .dat (iN v29)]) (λ (_,_)=>[]) (λ (n,v29)=>zfj a1 x6 x15 x49 k10 n v29)
instance Ef9_44_4 {a1 x6 x15 x49 k10 n v29}:IsLp 0 1 (zfj a1 x6 x15 x49 k10 n v29) (zom a1 x6 x15 x49 k10) (n,v29):=⟨rfl⟩
def zdV (N:Nat)(x15:Int)(e9:Int)(v30:Bool):Option (Bool) :=
 bif !v30 then ((f14 N ).bind λ x55 =>
 some (x55))
 else (bif decide (x15<(48:Int)) then ((f14 N ).bind λ x56 =>
 some (x56))
 else (bif decide ((57:Int)<x15) then ((f14 N ).bind λ x57 =>
 some (x57))
 else ((f14 N ).bind λ x58 =>
 some (x58))))
def zhY (N:Nat)(x15:Int)(e9:Int):Lp (Bool) Unit (Bool):=lp0 ⟨[22,27,30],[],[],[]⟩ (λ v30=>[.dat (iN e9), .dat (u8N x15), .kb v30]) (λ _=>[]) (λ v30=>zdV N x15 e9 v30)
instance zyn {N x15 e9 v30}:IsLp 0 1 (zdV N x15 e9 v30) (zhY N x15 e9) v30:=⟨rfl⟩
instance zyo {N x15 e9}:IsCut 1 (zdV N x15 e9) (zhY N x15 e9) 47:=⟨⟩
def zdW (a1:Int)(N:Nat)(x6:ByteArray)(x15:Int)(e9:Int)(v29:Int):Option (Bool) :=
 zau (zdV N x15 e9) λ k11 =>
 bif decide ((1:Int)<=(W (v29-(Int.tmod a1 (ByteArray.size x6:Int))))) then (bif decide ((W (v29-(Int.tmod a1 (ByteArray.size x6:Int))))<=(5:Int)) then (k11 (decide ((10:Int)<(Int.tmod a1 (ByteArray.size x6:Int)))))
 else (k11 false))
 else (k11 false)
def zhZ (a1:Int)(N:Nat)(x6:ByteArray)(x15:Int)(e9:Int):Lp (Int) Unit (Bool):=lp0 ⟨[22,23,27,29],[],[],[]⟩ (λ v29=>[.dat (iN e9), .dat (iN (Int.tmod a1 (ByteArray.size x6:Int))), .dat (u8N x15), .dat (iN v29)]) (λ _=>[]) (λ v29=>zdW a1 N x6 x15 e9 v29)
instance zyp {a1 N x6 x15 e9 v29}:IsLp 0 1 (zdW a1 N x6 x15 e9 v29) (zhZ a1 N x6 x15 e9) v29:=⟨rfl⟩
instance zyq {a1 N x6 x15 e9}:IsCut 1 (zdW a1 N x6 x15 e9) (zhZ a1 N x6 x15 e9) 46:=⟨⟩
def zon (r44:Int->Option (Bool))(a1:Int)(x6:ByteArray)(x15:Int)(e9:Int)(k12:Int->Option (Bool))(v29:Int):Option (Bool) :=
 bif decide (v29<(W ((ByteArray.size x6:Int)-(1:Int)))) then ((idxS x6 v29).bind λ x59 =>
 bif decide (¬ x59=(10:Int)) then (r44 (W (v29+(1:Int))))
 else (k12 v29))
 else (k12 v29)
def zfk (a1:Int)(x6:ByteArray)(x15:Int)(e9:Int)(k12:Int->Option (Bool)):Nat->Int->Option (Bool)
 | 0,_=>none
 | n+1,v29=>zon (zfk a1 x6 x15 e9 k12 n) a1 x6 x15 e9 k12 v29
def zoo (a1:Int)(x6:ByteArray)(x15:Int)(e9:Int)(k12:Int->Option (Bool)):Lp (Nat×Int) Unit (Bool):=lp0 ⟨[20,22,23,27,29],[],[],[]⟩ (λ (_,v29)=>[.dat (strN x6), .dat (iN e9), .dat (iN (Int.tmod a1 (ByteArray.size x6:Int))), .dat (u8N x15), .dat (iN v29)]) (λ (_,_)=>[]) (λ (n,v29)=>zfk a1 x6 x15 e9 k12 n v29)
instance Ef9_44_5 {a1 x6 x15 e9 k12 n v29}:IsLp 0 1 (zfk a1 x6 x15 e9 k12 n v29) (zoo a1 x6 x15 e9 k12) (n,v29):=⟨rfl⟩
def zcy (a1:Int)(N:Nat)(x6:ByteArray)(x15:Int)(v26:List Int)(x47:LB)(v34:Int)(b106_1'':LB)(b100'':LS)(b101'':LE)(b102'':LC)(r10:Int->LB->LS->LE->LC->Option (Bool))(line8:ByteArray)(e9:Int):Option (Bool) :=
 bif decide (e9=(0:Int)) then ((f18 N line8 (b106_1'') (b100'') (b101'') (b102'')).bind λ x49 =>
 bif decide (¬ x49.1=(0:Int)) then (bif !(true == (decide (¬ x49.1=(0:Int)))) then (some (false))
 else (zau (zdU a1 N x6 x15 x49) λ k10 =>
 zfj a1 x6 x15 x49 k10 N (Int.tmod a1 (ByteArray.size x6:Int))))
 else (r10 (W (v34+(1:Int))) x49.2.2.2.2 x49.2.1 x49.2.2.1 x49.2.2.2.1))
 else (bif !(true == (decide (¬ e9=(0:Int)))) then (some (false))
 else (zau (zdW a1 N x6 x15 e9) λ k12 =>
 zfk a1 x6 x15 e9 k12 N (Int.tmod a1 (ByteArray.size x6:Int))))
def zdX (a1:Int)(N:Nat)(x6:ByteArray)(x15:Int)(v26:List Int)(x47:LB)(v34:Int)(b106_1'':LB)(b100'':LS)(b101'':LE)(b102'':LC)(r10:Int->LB->LS->LE->LC->Option (Bool)):Lp (ByteArray×Int) (Nat×Unit) (Bool):=lpm ⟨[5,8,9,32,33,34],[90026,zzg,zzk,zzb,zzm,zzn,zzh],[],[]⟩ (λ (line8,e9)=>zcy a1 N x6 x15 v26 x47 v34 b106_1'' b100'' b101'' b102'' r10 line8 e9) (λ (line8,e9) (_,_)=>[.ptr zzh 0, .dat (strN line8), .dat (iN e9), .dat (zat x47), .dat (iN (List.length x47:Int)), .dat (iN v34)]) (λ (_,_) (m0,_)=>[.row 5 1 (List.map u8N v26),(rW b106_1''),(sW [zzb] b100''),(eW b101''),(mW b102''), .box [.mp zzk, .mp zzb, .mp zzm], .box [.ptr zzn 0, .rs zzg m0]]) λ (_,_)=>(List.length (b106_1''),())
instance ztK {a1 N x6 x15 v26 x47 v34 b106_1'' b100'' b101'' b102'' r10 line8 e9}:IsLp 1 2 (zcy a1 N x6 x15 v26 x47 v34 b106_1'' b100'' b101'' b102'' r10 line8 e9) (zdX a1 N x6 x15 v26 x47 v34 b106_1'' b100'' b101'' b102'' r10) (line8,e9):=⟨rfl⟩
instance ztL {a1 N x6 x15 v26 x47 v34 b106_1'' b100'' b101'' b102'' r10}:IsCut 2 (zcy a1 N x6 x15 v26 x47 v34 b106_1'' b100'' b101'' b102'' r10) (zdX a1 N x6 x15 v26 x47 v34 b106_1'' b100'' b101'' b102'' r10) 4003000000013:=⟨⟩
def zgv (r10:Int->LB->LS->LE->LC->Option (Bool))(a1:Int)(N:Nat)(x6:ByteArray)(x15:Int)(v26:List Int)(k8:LB->LS->LE->LC->Option (Bool))(x47:LB)(v34:Int)(b106_1'':LB)(b100'':LS)(b101'':LE)(b102'':LC):Option (Bool) :=
 bif decide (v34<(List.length x47:Int)) then ((ix x47 v34).bind λ x48 =>
 zau (zcy a1 N x6 x15 v26 x47 v34 b106_1'' b100'' b101'' b102'' r10) λ k13 =>
 (f75 N x48).bind λ x60 =>
 k13 x60.1 x60.2)
 else (k8 (b106_1'') (b100'') (b101'') (b102''))
def zb1 (a1:Int)(N:Nat)(x6:ByteArray)(x15:Int)(v26:List Int)(k8:LB->LS->LE->LC->Option (Bool))(x47:LB):Nat->Int->LB->LS->LE->LC->Option (Bool)
 | 0,_,_,_,_,_=>none
 | n+1,v34,b106_1'',b100'',b101'',b102'' => zgv (zb1 a1 N x6 x15 v26 k8 x47 n) a1 N x6 x15 v26 k8 x47 v34 b106_1'' b100'' b101'' b102''
def zgw (a1:Int)(N:Nat)(x6:ByteArray)(x15:Int)(v26:List Int)(k8:LB->LS->LE->LC->Option (Bool))(x47:LB):Lp (Nat×Int×LB×LS×LE×LC) (Nat×Unit) (Bool):=lpm ⟨[5,32,33,34],[90026,zzg,zzk,zzb,zzm,zzn,zzh],[(.cell zzh 1,zzg,9,1)],[]⟩ (λ (n,v34,b106_1'',b100'',b101'',b102'')=>zb1 a1 N x6 x15 v26 k8 x47 n v34 b106_1'' b100'' b101'' b102'') (λ (_,v34,_,_,_,_) (_,_)=>[.ptr zzh 0, .dat (zat x47), .dat (iN (List.length x47:Int)), .dat (iN v34)]) (λ (_,_,b106_1'',b100'',b101'',b102'') (m0,_)=>[.row 5 1 (List.map u8N v26),(rW b106_1''),(sW [zzb] b100''),(eW b101''),(mW b102''), .box [.mp zzk, .mp zzb, .mp zzm], .box [.ptr zzn 0, .rs zzg m0]]) λ (_,_,b106_1'',_,_,_)=>(List.length (b106_1''),())
instance zuQ {a1 N x6 x15 v26 k8 x47 n v34 b106_1'' b100'' b101'' b102''}:IsLp 1 5 (zb1 a1 N x6 x15 v26 k8 x47 n v34 b106_1'' b100'' b101'' b102'') (zgw a1 N x6 x15 v26 k8 x47) (n,v34,b106_1'',b100'',b101'',b102''):=⟨rfl⟩
def zeT (a1:Int)(N:Nat)(x6:ByteArray)(x15:Int)(v26:List Int):Option (Bool) :=
 (zjC v26).bind λ x19 =>
 bif decide ((17000:Int)<(ByteArray.size x19:Int)) then (zau (zhP a1 N x6 x15) λ k1 =>
 zne a1 x6 x15 k1 N (Int.tmod a1 (ByteArray.size x6:Int)))
 else ((f72 N x19 (strC [10])).bind λ x25 =>
 bif !x25 then (zau (zdP a1 N x6 x15) λ k3 =>
 zfh a1 x6 x15 k3 N (Int.tmod a1 (ByteArray.size x6:Int)))
 else ((f74 N x19 (strC [10])).bind λ x31 =>
 (f73 N x31 (strC [10])).bind λ x32 =>
 (ix x32 (0:Int)).bind λ x33 =>
 (f30 N (W ((List.length x32:Int)-(1:Int)))).bind λ x34 =>
 (addS (strC [116,117,115,99,104,101,32]) x34).bind λ x35 =>
 bif decide (¬ x33=x35) then (zau (zdR a1 N x6 x15) λ k5 =>
 zfi a1 x6 x15 k5 N (Int.tmod a1 (ByteArray.size x6:Int)))
 else (zau (zbg a1 N x6 x15 v26) λ k8 =>
 (sub x32 (1:Int) (List.length x32:Int)).bind λ x47 =>
 zb1 a1 N x6 x15 v26 k8 x47 N (0:Int) [] [] [] [])))
def znf (a1:Int)(N:Nat)(x6:ByteArray)(x15:Int):Lp ((List Int)) (Nat×Unit) (Bool):=lpm ⟨[20,23,26,27],[90026],[(.slot 26,90026,5,1)],[]⟩ (λ v26=>zeT a1 N x6 x15 v26) (λ _ (m0,_)=>[.dat (strN x6), .dat (iN (Int.tmod a1 (ByteArray.size x6:Int))), .rs 90026 m0, .dat (u8N x15)]) (λ v26 (_,_)=>[.row 5 1 (List.map u8N v26)]) λ v26=>(List.length v26,())
instance Ef9_c40 {a1 N x6 x15 v26}:IsLp 1 1 (zeT a1 N x6 x15 v26) (znf a1 N x6 x15) v26:=⟨rfl⟩
instance Cf9_c40 {a1 N x6 x15}:IsCut 1 (zeT a1 N x6 x15) (znf a1 N x6 x15) 40:=⟨⟩
def zfS (a1:Int)(a2:Int)(a3:Bool)(N:Nat)(x6:ByteArray):Option (Bool) :=
 (some (zd4 x6)).bind λ x14 =>
 (ix x14 (Int.tmod a1 (ByteArray.size x6:Int))).bind λ x15 =>
 (ix x14 (Int.tmod a1 (ByteArray.size x6:Int))).bind λ x16 =>
 (ix x14 (Int.tmod a1 (ByteArray.size x6:Int))).bind λ x17 =>
 (setx x14 (Int.tmod a1 (ByteArray.size x6:Int)) (zi4 .xor .u8 x16 (Wk .u8 ((1:Int)+(Int.tmod a2 (127:Int)))))).bind λ x18 =>
 zau (zeT a1 N x6 x15) λ k14 =>
 bif a3 then (bif decide ((W ((Int.tmod a1 (ByteArray.size x6:Int))+(1:Int)))<(ByteArray.size x6:Int)) then ((some (zd4 x6)).bind λ x61 =>
 (ix x61 (W ((Int.tmod a1 (ByteArray.size x6:Int))+(1:Int)))).bind λ x62 =>
 (ix x61 (Int.tmod a1 (ByteArray.size x6:Int))).bind λ x63 =>
 (ix x61 (Int.tmod a1 (ByteArray.size x6:Int))).bind λ x64 =>
 (setx x61 (Int.tmod a1 (ByteArray.size x6:Int)) x62).bind λ x65 =>
 (ix x65 (W ((Int.tmod a1 (ByteArray.size x6:Int))+(1:Int)))).bind λ x66 =>
 (setx x65 (W ((Int.tmod a1 (ByteArray.size x6:Int))+(1:Int))) x63).bind λ x67 =>
 (ix x67 (Int.tmod a1 (ByteArray.size x6:Int))).bind λ x68 =>
 (ix x67 (W ((Int.tmod a1 (ByteArray.size x6:Int))+(1:Int)))).bind λ x69 =>
 bif decide (x68=x69) then ((f14 N ).bind λ x70 =>
 some (x70))
 else (k14 x67))
 else (k14 x18))
 else (k14 x18)
def zng (a1:Int)(a2:Int)(a3:Bool)(N:Nat)(x6:ByteArray):Lp (Unit) Unit (Bool):=lp0 ⟨[2,3,20,23],[],[],[]⟩ (λ _=>[.dat (u8N a2), .kb a3, .dat (strN x6), .dat (iN (Int.tmod a1 (ByteArray.size x6:Int)))]) (λ _=>[]) (λ _=>zfS a1 a2 a3 N x6)
instance Ef9_c32 {a1 a2 a3 N x6}:IsLp 0 0 (zfS a1 a2 a3 N x6) (zng a1 a2 a3 N x6) ():=⟨rfl⟩
instance Cf9_c32 {a1 a2 a3 N x6}:IsCut 0 (zfS a1 a2 a3 N x6) (zng a1 a2 a3 N x6) 32:=⟨⟩
def zb4 (b106_1:LB)(b100:LS)(b101:LE)(b102:LC)(b106_1':LB)(b100':LS)(b101':LE)(b102':LC)(b106_1'':LB)(b100'':LS)(b101'':LE)(b102'':LC):Option (Bool) :=
 some (false)
def zdY (b106_1:LB)(b100:LS)(b101:LE)(b102:LC)(b106_1':LB)(b100':LS)(b101':LE)(b102':LC):Lp (LB×LS×LE×LC) (Nat×Nat×Nat) (Bool):=lpm ⟨[5],[zyY,zyZ,zyX,zy0,zy1,zy2,zy4,zy6,zy3,zy7,zy8,zy9,zzi,zzl,zzc,zzo,zzp,zzj],[(.cell zzj 1,zzi,9,1)],[]⟩ (λ (b106_1'',b100'',b101'',b102'')=>zb4 b106_1 b100 b101 b102 b106_1' b100' b101' b102' b106_1'' b100'' b101'' b102'') (λ (_,_,_,_) (_,_,_)=>[.ptr zzj 0]) (λ (b106_1'',b100'',b101'',b102'') (m0,m1,m2)=>[(rW b106_1),(sW [zyX] b100),(eW b101),(mW b102), .box [.mp zyZ, .mp zyX, .mp zy0], .box [.ptr zy1 0, .rs zyY m0],(rW b106_1'),(sW [zy3] b100'),(eW b101'),(mW b102'), .box [.mp zy6, .mp zy3, .mp zy7], .box [.ptr zy8 0, .rs zy4 m1],(rW b106_1''),(sW [zzc] b100''),(eW b101''),(mW b102''), .box [.mp zzl, .mp zzc, .mp zzo], .box [.ptr zzp 0, .rs zzi m2]]) λ (b106_1'',_,_,_)=>(List.length b106_1,List.length (b106_1'),List.length (b106_1''))
instance ztM {b106_1 b100 b101 b102 b106_1' b100' b101' b102' b106_1'' b100'' b101'' b102''}:IsLp 3 4 (zb4 b106_1 b100 b101 b102 b106_1' b100' b101' b102' b106_1'' b100'' b101'' b102'') (zdY b106_1 b100 b101 b102 b106_1' b100' b101' b102') (b106_1'',b100'',b101'',b102''):=⟨rfl⟩
instance ztN {b106_1 b100 b101 b102 b106_1' b100' b101' b102'}:IsCut 4 (zb4 b106_1 b100 b101 b102 b106_1' b100' b101' b102') (zdY b106_1 b100 b101 b102 b106_1' b100' b101' b102') zzq:=⟨⟩
def zcz (N:Nat)(b106_1:LB)(b100:LS)(b101:LE)(b102:LC)(b106_1':LB)(b100':LS)(b101':LE)(b102':LC)(k15:Option (Bool))(x78:LB)(v34:Int)(b106_1'':LB)(b100'':LS)(b101'':LE)(b102'':LC)(r10:Int->LB->LS->LE->LC->Option (Bool))(line8:ByteArray)(e9:Int):Option (Bool) :=
 bif decide (e9=(0:Int)) then ((f18 N line8 (b106_1'') (b100'') (b101'') (b102'')).bind λ x80 =>
 bif decide (¬ x80.1=(0:Int)) then k15
 else (r10 (W (v34+(1:Int))) x80.2.2.2.2 x80.2.1 x80.2.2.1 x80.2.2.2.1))
 else k15
def zdZ (N:Nat)(b106_1:LB)(b100:LS)(b101:LE)(b102:LC)(b106_1':LB)(b100':LS)(b101':LE)(b102':LC)(k15:Option (Bool))(x78:LB)(v34:Int)(b106_1'':LB)(b100'':LS)(b101'':LE)(b102'':LC)(r10:Int->LB->LS->LE->LC->Option (Bool)):Lp (ByteArray×Int) (Nat×Nat×Nat) (Bool):=lpm ⟨[5,8,9,32,33,34],[zyY,zyZ,zyX,zy0,zy1,zy2,zy4,zy6,zy3,zy7,zy8,zy9,zzi,zzl,zzc,zzo,zzp,zzj],[],[]⟩ (λ (line8,e9)=>zcz N b106_1 b100 b101 b102 b106_1' b100' b101' b102' k15 x78 v34 b106_1'' b100'' b101'' b102'' r10 line8 e9) (λ (line8,e9) (_,_,_)=>[.ptr zzj 0, .dat (strN line8), .dat (iN e9), .dat (zat x78), .dat (iN (List.length x78:Int)), .dat (iN v34)]) (λ (_,_) (m0,m1,m2)=>[(rW b106_1),(sW [zyX] b100),(eW b101),(mW b102), .box [.mp zyZ, .mp zyX, .mp zy0], .box [.ptr zy1 0, .rs zyY m0],(rW b106_1'),(sW [zy3] b100'),(eW b101'),(mW b102'), .box [.mp zy6, .mp zy3, .mp zy7], .box [.ptr zy8 0, .rs zy4 m1],(rW b106_1''),(sW [zzc] b100''),(eW b101''),(mW b102''), .box [.mp zzl, .mp zzc, .mp zzo], .box [.ptr zzp 0, .rs zzi m2]]) λ (_,_)=>(List.length b106_1,List.length (b106_1'),List.length (b106_1''))
instance ztO {N b106_1 b100 b101 b102 b106_1' b100' b101' b102' k15 x78 v34 b106_1'' b100'' b101'' b102'' r10 line8 e9}:IsLp 3 2 (zcz N b106_1 b100 b101 b102 b106_1' b100' b101' b102' k15 x78 v34 b106_1'' b100'' b101'' b102'' r10 line8 e9) (zdZ N b106_1 b100 b101 b102 b106_1' b100' b101' b102' k15 x78 v34 b106_1'' b100'' b101'' b102'' r10) (line8,e9):=⟨rfl⟩
instance ztP {N b106_1 b100 b101 b102 b106_1' b100' b101' b102' k15 x78 v34 b106_1'' b100'' b101'' b102'' r10}:IsCut 2 (zcz N b106_1 b100 b101 b102 b106_1' b100' b101' b102' k15 x78 v34 b106_1'' b100'' b101'' b102'' r10) (zdZ N b106_1 b100 b101 b102 b106_1' b100' b101' b102' k15 x78 v34 b106_1'' b100'' b101'' b102'' r10) zzr:=⟨⟩
def zgx (r10:Int->LB->LS->LE->LC->Option (Bool))(N:Nat)(b106_1:LB)(b100:LS)(b101:LE)(b102:LC)(b106_1':LB)(b100':LS)(b101':LE)(b102':LC)(k15:Option (Bool))(k16:LB->LS->LE->LC->Option (Bool))(x78:LB)(v34:Int)(b106_1'':LB)(b100'':LS)(b101'':LE)(b102'':LC):Option (Bool) :=
 bif decide (v34<(List.length x78:Int)) then ((ix x78 v34).bind λ x79 =>
 zau (zcz N b106_1 b100 b101 b102 b106_1' b100' b101' b102' k15 x78 v34 b106_1'' b100'' b101'' b102'' r10) λ k17 =>
 (f75 N x79).bind λ x81 =>
 k17 x81.1 x81.2)
 else (k16 (b106_1'') (b100'') (b101'') (b102''))
def zbG (N:Nat)(b106_1:LB)(b100:LS)(b101:LE)(b102:LC)(b106_1':LB)(b100':LS)(b101':LE)(b102':LC)(k15:Option (Bool))(k16:LB->LS->LE->LC->Option (Bool))(x78:LB):Nat->Int->LB->LS->LE->LC->Option (Bool)
 | 0,_,_,_,_,_=>none
 | n+1,v34,b106_1'',b100'',b101'',b102'' => zgx (zbG N b106_1 b100 b101 b102 b106_1' b100' b101' b102' k15 k16 x78 n) N b106_1 b100 b101 b102 b106_1' b100' b101' b102' k15 k16 x78 v34 b106_1'' b100'' b101'' b102''
def zgy (N:Nat)(b106_1:LB)(b100:LS)(b101:LE)(b102:LC)(b106_1':LB)(b100':LS)(b101':LE)(b102':LC)(k15:Option (Bool))(k16:LB->LS->LE->LC->Option (Bool))(x78:LB):Lp (Nat×Int×LB×LS×LE×LC) (Nat×Nat×Nat) (Bool):=lpm ⟨[5,32,33,34],[zyY,zyZ,zyX,zy0,zy1,zy2,zy4,zy6,zy3,zy7,zy8,zy9,zzi,zzl,zzc,zzo,zzp,zzj],[(.cell zzj 1,zzi,9,1)],[]⟩ (λ (n,v34,b106_1'',b100'',b101'',b102'')=>zbG N b106_1 b100 b101 b102 b106_1' b100' b101' b102' k15 k16 x78 n v34 b106_1'' b100'' b101'' b102'') (λ (_,v34,_,_,_,_) (_,_,_)=>[.ptr zzj 0, .dat (zat x78), .dat (iN (List.length x78:Int)), .dat (iN v34)]) (λ (_,_,b106_1'',b100'',b101'',b102'') (m0,m1,m2)=>[(rW b106_1),(sW [zyX] b100),(eW b101),(mW b102), .box [.mp zyZ, .mp zyX, .mp zy0], .box [.ptr zy1 0, .rs zyY m0],(rW b106_1'),(sW [zy3] b100'),(eW b101'),(mW b102'), .box [.mp zy6, .mp zy3, .mp zy7], .box [.ptr zy8 0, .rs zy4 m1],(rW b106_1''),(sW [zzc] b100''),(eW b101''),(mW b102''), .box [.mp zzl, .mp zzc, .mp zzo], .box [.ptr zzp 0, .rs zzi m2]]) λ (_,_,b106_1'',_,_,_)=>(List.length b106_1,List.length (b106_1'),List.length (b106_1''))
instance zuR {N b106_1 b100 b101 b102 b106_1' b100' b101' b102' k15 k16 x78 n v34 b106_1'' b100'' b101'' b102''}:IsLp 3 5 (zbG N b106_1 b100 b101 b102 b106_1' b100' b101' b102' k15 k16 x78 n v34 b106_1'' b100'' b101'' b102'') (zgy N b106_1 b100 b101 b102 b106_1' b100' b101' b102' k15 k16 x78) (n,v34,b106_1'',b100'',b101'',b102''):=⟨rfl⟩
def zbv (a1:Int)(a2:Int)(a3:Bool)(N:Nat)(b106_1:LB)(b100:LS)(b101:LE)(b102:LC)(v11:ByteArray)(x6:ByteArray)(b106_1':LB)(b100':LS)(b101':LE)(b102':LC):Option (Bool) :=
 bif decide (¬ x6=v11) then (some (false))
 else ((f41 N b106_1 (b106_1') b100 b101 b102 (b100') (b101') (b102')).bind λ x13 =>
 bif !x13 then (some (false))
 else ((chk (decide ((ByteArray.size x6:Int)≠0))).bind λ _ =>
 zau (zfS a1 a2 a3 N x6) λ k15 =>
 (subS x6 0 (Int.tmod a1 (ByteArray.size x6:Int))).bind λ x71 =>
 bif decide ((17000:Int)<(ByteArray.size x71:Int)) then k15
 else ((f72 N x71 (strC [10])).bind λ x72 =>
 bif !x72 then k15
 else ((f74 N x71 (strC [10])).bind λ x73 =>
 (f73 N x73 (strC [10])).bind λ x74 =>
 (ix x74 (0:Int)).bind λ x75 =>
 (f30 N (W ((List.length x74:Int)-(1:Int)))).bind λ x76 =>
 (addS (strC [116,117,115,99,104,101,32]) x76).bind λ x77 =>
 bif decide (¬ x75=x77) then k15
 else (zau (zb4 b106_1 b100 b101 b102 b106_1' b100' b101' b102') λ k16 =>
 (sub x74 (1:Int) (List.length x74:Int)).bind λ x78 =>
 zbG N b106_1 b100 b101 b102 b106_1' b100' b101' b102' k15 k16 x78 N (0:Int) [] [] [] [])))))
def zd0 (a1:Int)(a2:Int)(a3:Bool)(N:Nat)(b106_1:LB)(b100:LS)(b101:LE)(b102:LC)(v11:ByteArray)(x6:ByteArray):Lp (LB×LS×LE×LC) (Nat×Nat) (Bool):=lpm ⟨[5],[zyY,zyZ,zyX,zy0,zy1,zy2,zy4,zy6,zy3,zy7,zy8,zy9],[(.cell zy9 1,zy4,9,1)],[]⟩ (λ (b106_1',b100',b101',b102')=>zbv a1 a2 a3 N b106_1 b100 b101 b102 v11 x6 b106_1' b100' b101' b102') (λ (_,_,_,_) (_,_)=>[.ptr zy9 0]) (λ (b106_1',b100',b101',b102') (m0,m1)=>[(rW b106_1),(sW [zyX] b100),(eW b101),(mW b102), .box [.mp zyZ, .mp zyX, .mp zy0], .box [.ptr zy1 0, .rs zyY m0],(rW b106_1'),(sW [zy3] b100'),(eW b101'),(mW b102'), .box [.mp zy6, .mp zy3, .mp zy7], .box [.ptr zy8 0, .rs zy4 m1]]) λ (b106_1',_,_,_)=>(List.length b106_1,List.length (b106_1'))
instance ztQ {a1 a2 a3 N b106_1 b100 b101 b102 v11 x6 b106_1' b100' b101' b102'}:IsLp 2 4 (zbv a1 a2 a3 N b106_1 b100 b101 b102 v11 x6 b106_1' b100' b101' b102') (zd0 a1 a2 a3 N b106_1 b100 b101 b102 v11 x6) (b106_1',b100',b101',b102'):=⟨rfl⟩
instance ztR {a1 a2 a3 N b106_1 b100 b101 b102 v11 x6}:IsCut 4 (zbv a1 a2 a3 N b106_1 b100 b101 b102 v11 x6) (zd0 a1 a2 a3 N b106_1 b100 b101 b102 v11 x6) 103000101000107000000018:=⟨⟩
def zcA (N:Nat)(b106_1:LB)(b100:LS)(b101:LE)(b102:LC)(v11:ByteArray)(x6:ByteArray)(x82:LB)(v34:Int)(b106_1':LB)(b100':LS)(b101':LE)(b102':LC)(r10:Int->LB->LS->LE->LC->Option (Bool))(line8:ByteArray)(e9:Int):Option (Bool) :=
 bif decide (e9=(0:Int)) then ((f18 N line8 (b106_1') (b100') (b101') (b102')).bind λ x84 =>
 bif decide (¬ x84.1=(0:Int)) then (bif decide (¬ x6=v11) then (some (false))
 else (some (false)))
 else (r10 (W (v34+(1:Int))) x84.2.2.2.2 x84.2.1 x84.2.2.1 x84.2.2.2.1))
 else (bif decide (¬ x6=v11) then (some (false))
 else (some (false)))
def zd1 (N:Nat)(b106_1:LB)(b100:LS)(b101:LE)(b102:LC)(v11:ByteArray)(x6:ByteArray)(x82:LB)(v34:Int)(b106_1':LB)(b100':LS)(b101':LE)(b102':LC)(r10:Int->LB->LS->LE->LC->Option (Bool)):Lp (ByteArray×Int) (Nat×Nat) (Bool):=lpm ⟨[5,8,9,32,33,34],[zyY,zyZ,zyX,zy0,zy1,zy2,zy4,zy6,zy3,zy7,zy8,zy9],[],[]⟩ (λ (line8,e9)=>zcA N b106_1 b100 b101 b102 v11 x6 x82 v34 b106_1' b100' b101' b102' r10 line8 e9) (λ (line8,e9) (_,_)=>[.ptr zy9 0, .dat (strN line8), .dat (iN e9), .dat (zat x82), .dat (iN (List.length x82:Int)), .dat (iN v34)]) (λ (_,_) (m0,m1)=>[(rW b106_1),(sW [zyX] b100),(eW b101),(mW b102), .box [.mp zyZ, .mp zyX, .mp zy0], .box [.ptr zy1 0, .rs zyY m0],(rW b106_1'),(sW [zy3] b100'),(eW b101'),(mW b102'), .box [.mp zy6, .mp zy3, .mp zy7], .box [.ptr zy8 0, .rs zy4 m1]]) λ (_,_)=>(List.length b106_1,List.length (b106_1'))
instance ztS {N b106_1 b100 b101 b102 v11 x6 x82 v34 b106_1' b100' b101' b102' r10 line8 e9}:IsLp 2 2 (zcA N b106_1 b100 b101 b102 v11 x6 x82 v34 b106_1' b100' b101' b102' r10 line8 e9) (zd1 N b106_1 b100 b101 b102 v11 x6 x82 v34 b106_1' b100' b101' b102' r10) (line8,e9):=⟨rfl⟩
instance ztT {N b106_1 b100 b101 b102 v11 x6 x82 v34 b106_1' b100' b101' b102' r10}:IsCut 2 (zcA N b106_1 b100 b101 b102 v11 x6 x82 v34 b106_1' b100' b101' b102' r10) (zd1 N b106_1 b100 b101 b102 v11 x6 x82 v34 b106_1' b100' b101' b102' r10) 103000101000107000000013:=⟨⟩
def zgz (r10:Int->LB->LS->LE->LC->Option (Bool))(N:Nat)(b106_1:LB)(b100:LS)(b101:LE)(b102:LC)(v11:ByteArray)(x6:ByteArray)(k18:LB->LS->LE->LC->Option (Bool))(x82:LB)(v34:Int)(b106_1':LB)(b100':LS)(b101':LE)(b102':LC):Option (Bool) :=
 bif decide (v34<(List.length x82:Int)) then ((ix x82 v34).bind λ x83 =>
 zau (zcA N b106_1 b100 b101 b102 v11 x6 x82 v34 b106_1' b100' b101' b102' r10) λ k19 =>
 (f75 N x83).bind λ x85 =>
 k19 x85.1 x85.2)
 else (k18 (b106_1') (b100') (b101') (b102'))
def zb2 (N:Nat)(b106_1:LB)(b100:LS)(b101:LE)(b102:LC)(v11:ByteArray)(x6:ByteArray)(k18:LB->LS->LE->LC->Option (Bool))(x82:LB):Nat->Int->LB->LS->LE->LC->Option (Bool)
 | 0,_,_,_,_,_=>none
 | n+1,v34,b106_1',b100',b101',b102' => zgz (zb2 N b106_1 b100 b101 b102 v11 x6 k18 x82 n) N b106_1 b100 b101 b102 v11 x6 k18 x82 v34 b106_1' b100' b101' b102'
def zgA (N:Nat)(b106_1:LB)(b100:LS)(b101:LE)(b102:LC)(v11:ByteArray)(x6:ByteArray)(k18:LB->LS->LE->LC->Option (Bool))(x82:LB):Lp (Nat×Int×LB×LS×LE×LC) (Nat×Nat) (Bool):=lpm ⟨[5,32,33,34],[zyY,zyZ,zyX,zy0,zy1,zy2,zy4,zy6,zy3,zy7,zy8,zy9],[(.cell zy9 1,zy4,9,1)],[]⟩ (λ (n,v34,b106_1',b100',b101',b102')=>zb2 N b106_1 b100 b101 b102 v11 x6 k18 x82 n v34 b106_1' b100' b101' b102') (λ (_,v34,_,_,_,_) (_,_)=>[.ptr zy9 0, .dat (zat x82), .dat (iN (List.length x82:Int)), .dat (iN v34)]) (λ (_,_,b106_1',b100',b101',b102') (m0,m1)=>[(rW b106_1),(sW [zyX] b100),(eW b101),(mW b102), .box [.mp zyZ, .mp zyX, .mp zy0], .box [.ptr zy1 0, .rs zyY m0],(rW b106_1'),(sW [zy3] b100'),(eW b101'),(mW b102'), .box [.mp zy6, .mp zy3, .mp zy7], .box [.ptr zy8 0, .rs zy4 m1]]) λ (_,_,b106_1',_,_,_)=>(List.length b106_1,List.length (b106_1'))
instance zuS {N b106_1 b100 b101 b102 v11 x6 k18 x82 n v34 b106_1' b100' b101' b102'}:IsLp 2 5 (zb2 N b106_1 b100 b101 b102 v11 x6 k18 x82 n v34 b106_1' b100' b101' b102') (zgA N b106_1 b100 b101 b102 v11 x6 k18 x82) (n,v34,b106_1',b100',b101',b102'):=⟨rfl⟩
def zgB (a1:Int)(a2:Int)(a3:Bool)(N:Nat)(b106_1:LB)(b100:LS)(b101:LE)(b102:LC)(v11:ByteArray):Option (Bool) :=
 (f23 N b106_1 b100 b101 b102).bind λ x6 =>
 bif decide ((17000:Int)<(ByteArray.size x6:Int)) then (bif decide (¬ x6=v11) then (some (false))
 else (some (false)))
 else ((f72 N x6 (strC [10])).bind λ x7 =>
 bif !x7 then (bif decide (¬ x6=v11) then (some (false))
 else (some (false)))
 else ((f74 N x6 (strC [10])).bind λ x8 =>
 (f73 N x8 (strC [10])).bind λ x9 =>
 (ix x9 (0:Int)).bind λ x10 =>
 (f30 N (W ((List.length x9:Int)-(1:Int)))).bind λ x11 =>
 (addS (strC [116,117,115,99,104,101,32]) x11).bind λ x12 =>
 bif decide (¬ x10=x12) then (bif decide (¬ x6=v11) then (some (false))
 else (some (false)))
 else (zau (zbv a1 a2 a3 N b106_1 b100 b101 b102 v11 x6) λ k18 =>
 (sub x9 (1:Int) (List.length x9:Int)).bind λ x82 =>
 zb2 N b106_1 b100 b101 b102 v11 x6 k18 x82 N (0:Int) [] [] [] [])))
def znh (a1:Int)(a2:Int)(a3:Bool)(N:Nat)(b106_1:LB)(b100:LS)(b101:LE)(b102:LC):Lp (ByteArray) (Nat×Unit) (Bool):=lpm ⟨[1,2,3,9,11],[zyY,zyZ,zyX,zy0,zy1,zy2],[],[]⟩ (λ v11=>zgB a1 a2 a3 N b106_1 b100 b101 b102 v11) (λ v11 (_,_)=>[.dat (u16N a1), .dat (u8N a2), .kb a3, .ptr zy2 0, .dat (strN v11)]) (λ _ (m0,_)=>[(rW b106_1),(sW [zyX] b100),(eW b101),(mW b102), .box [.mp zyZ, .mp zyX, .mp zy0], .box [.ptr zy1 0, .rs zyY m0]]) λ _=>(List.length b106_1,())
instance Ef9_c24 {a1 a2 a3 N b106_1 b100 b101 b102 v11}:IsLp 1 1 (zgB a1 a2 a3 N b106_1 b100 b101 b102 v11) (znh a1 a2 a3 N b106_1 b100 b101 b102) v11:=⟨rfl⟩
instance Cf9_c24 {a1 a2 a3 N b106_1 b100 b101 b102}:IsCut 1 (zgB a1 a2 a3 N b106_1 b100 b101 b102) (znh a1 a2 a3 N b106_1 b100 b101 b102) 24:=⟨⟩
def zh0 (a1:Int)(a2:Int)(a3:Bool)(b106_1:LB)(b100:LS)(b101:LE)(b102:LC)(x2:LB)(v43:Int)(r5:ByteArray->Int->Option (Bool))(v11':ByteArray):Option (Bool) :=
 r5 (v11') (W (v43+(1:Int)))
def zni (a1:Int)(a2:Int)(a3:Bool)(b106_1:LB)(b100:LS)(b101:LE)(b102:LC)(x2:LB)(v43:Int)(r5:ByteArray->Int->Option (Bool)):Lp (ByteArray) (Nat×Nat) (Bool):=lpm ⟨[1,2,3,9,11,41,42,43],[201,zyY,zyZ,zyX,zy0,zy1,zy2],[],[]⟩ (λ v11' => zh0 a1 a2 a3 b106_1 b100 b101 b102 x2 v43 r5 v11') (λ v11' (m0,_)=>[.dat (u16N a1), .dat (u8N a2), .kb a3, .ptr zy2 0, .dat (strN (v11')), .rs 201 m0, .dat (iN (List.length x2:Int)), .dat (iN v43)]) (λ _ (_,m1)=>[(rW x2),(rW b106_1),(sW [zyX] b100),(eW b101),(mW b102), .box [.mp zyZ, .mp zyX, .mp zy0], .box [.ptr zy1 0, .rs zyY m1]]) λ _=>(List.length x2,List.length b106_1)
instance Ef9_c23 {a1 a2 a3 b106_1 b100 b101 b102 x2 v43 r5 v11'}:IsLp 2 1 (zh0 a1 a2 a3 b106_1 b100 b101 b102 x2 v43 r5 v11') (zni a1 a2 a3 b106_1 b100 b101 b102 x2 v43 r5) v11':=⟨rfl⟩
instance Cf9_c23 {a1 a2 a3 b106_1 b100 b101 b102 x2 v43 r5}:IsCut 1 (zh0 a1 a2 a3 b106_1 b100 b101 b102 x2 v43 r5) (zni a1 a2 a3 b106_1 b100 b101 b102 x2 v43 r5) 23:=⟨⟩
def zh1 (a1:Int)(a2:Int)(a3:Bool)(N:Nat)(b106_1:LB)(b100:LS)(b101:LE)(b102:LC)(x2:LB)(v43:Int)(k21:ByteArray->Option (Bool))(v11':ByteArray)(v16:Int):Option (Bool) :=
 (f30 N (Int.tmod (W ((100:Int)-(W ((3:Int)*v16)))) (10:Int))).bind λ x89 =>
 (addS x89 (strC [10])).bind λ x90 =>
 (addS (v11') x90).bind λ x91 =>
 k21 x91
def znj (a1:Int)(a2:Int)(a3:Bool)(N:Nat)(b106_1:LB)(b100:LS)(b101:LE)(b102:LC)(x2:LB)(v43:Int)(k21:ByteArray->Option (Bool)):Lp (ByteArray×Int) (Nat×Nat) (Bool):=lpm ⟨[1,2,3,9,11,16,41,42,43],[201,zyY,zyZ,zyX,zy0,zy1,zy2],[],[]⟩ (λ (v11',v16)=>zh1 a1 a2 a3 N b106_1 b100 b101 b102 x2 v43 k21 v11' v16) (λ (v11',v16) (m0,_)=>[.dat (u16N a1), .dat (u8N a2), .kb a3, .ptr zy2 0, .dat (strN (v11')), .dat (iN v16), .rs 201 m0, .dat (iN (List.length x2:Int)), .dat (iN v43)]) (λ (_,_) (_,m1)=>[(rW x2),(rW b106_1),(sW [zyX] b100),(eW b101),(mW b102), .box [.mp zyZ, .mp zyX, .mp zy0], .box [.ptr zy1 0, .rs zyY m1]]) λ (_,_)=>(List.length x2,List.length b106_1)
instance Ef9_c22 {a1 a2 a3 N b106_1 b100 b101 b102 x2 v43 k21 v11' v16}:IsLp 2 2 (zh1 a1 a2 a3 N b106_1 b100 b101 b102 x2 v43 k21 v11' v16) (znj a1 a2 a3 N b106_1 b100 b101 b102 x2 v43 k21) (v11',v16):=⟨rfl⟩
instance Cf9_c22 {a1 a2 a3 N b106_1 b100 b101 b102 x2 v43 k21}:IsCut 2 (zh1 a1 a2 a3 N b106_1 b100 b101 b102 x2 v43 k21) (znj a1 a2 a3 N b106_1 b100 b101 b102 x2 v43 k21) 22:=⟨⟩
def zl2 (r16:ByteArray->Int->Int->Option (Bool))(a1:Int)(a2:Int)(a3:Bool)(N:Nat)(b106_1:LB)(b100:LS)(b101:LE)(b102:LC)(x2:LB)(v43:Int)(v14:Int)(k22:ByteArray->Int->Option (Bool))(v11':ByteArray)(v16:Int)(v68:Int):Option (Bool) :=
 bif decide (v68<(List.length [(1000:Int),(100:Int),(10:Int),(1:Int)]:Int)) then ((ix [(1000:Int),(100:Int),(10:Int),(1:Int)] v68).bind λ x92 =>
 (chk (decide (x92≠0))).bind λ _ =>
 (f30 N (Int.tmod (W (Int.tdiv (Int.tmod v14 (10000:Int)) x92)) (10:Int))).bind λ x93 =>
 (addS (v11') x93).bind λ x94 =>
 r16 x94 (Int.tmod (W ((W ((3:Int)*v16))+(Int.tmod (W (Int.tdiv (Int.tmod v14 (10000:Int)) x92)) (10:Int)))) (10:Int)) (W (v68+(1:Int))))
 else (k22 (v11') v16)
def znk (a1:Int)(a2:Int)(a3:Bool)(N:Nat)(b106_1:LB)(b100:LS)(b101:LE)(b102:LC)(x2:LB)(v43:Int)(v14:Int)(k22:ByteArray->Int->Option (Bool)):Nat->ByteArray->Int->Int->Option (Bool)
 | 0,_,_,_=>none
 | n+1,v11',v16,v68=>zl2 (znk a1 a2 a3 N b106_1 b100 b101 b102 x2 v43 v14 k22 n) a1 a2 a3 N b106_1 b100 b101 b102 x2 v43 v14 k22 v11' v16 v68
def zuT (a1:Int)(a2:Int)(a3:Bool)(N:Nat)(b106_1:LB)(b100:LS)(b101:LE)(b102:LC)(x2:LB)(v43:Int)(v14:Int)(k22:ByteArray->Int->Option (Bool)):Lp (Nat×ByteArray×Int×Int) (Nat×Nat×Nat) (Bool):=lpm ⟨[1,2,3,9,11,14,16,41,42,43,66,67,68],[201,1500,zyY,zyZ,zyX,zy0,zy1,zy2],[],[]⟩ (λ (n,v11',v16,v68)=>znk a1 a2 a3 N b106_1 b100 b101 b102 x2 v43 v14 k22 n v11' v16 v68) (λ (_,v11',v16,v68) (m0,m1,_)=>[.dat (u16N a1), .dat (u8N a2), .kb a3, .ptr zy2 0, .dat (strN (v11')), .dat (iN v14), .dat (iN v16), .rs 201 m0, .dat (iN (List.length x2:Int)), .dat (iN v43), .rs 1500 m1, .dat (iN (List.length [(1000:Int),(100:Int),(10:Int),(1:Int)]:Int)), .dat (iN v68)]) (λ (_,_,_,_) (_,_,m2)=>[(rW x2), .row 3 1 (List.map iN [(1000:Int),(100:Int),(10:Int),(1:Int)]),(rW b106_1),(sW [zyX] b100),(eW b101),(mW b102), .box [.mp zyZ, .mp zyX, .mp zy0], .box [.ptr zy1 0, .rs zyY m2]]) λ (_,_,_,_)=>(List.length x2,List.length [(1000:Int),(100:Int),(10:Int),(1:Int)],List.length b106_1)
instance Ef9_16 {a1 a2 a3 N b106_1 b100 b101 b102 x2 v43 v14 k22 n v11' v16 v68}:IsLp 3 3 (znk a1 a2 a3 N b106_1 b100 b101 b102 x2 v43 v14 k22 n v11' v16 v68) (zuT a1 a2 a3 N b106_1 b100 b101 b102 x2 v43 v14 k22) (n,v11',v16,v68):=⟨rfl⟩
def zh2 (a1:Int)(a2:Int)(a3:Bool)(N:Nat)(b106_1:LB)(b100:LS)(b101:LE)(b102:LC)(x2:LB)(v11:ByteArray)(v43:Int)(k21:ByteArray->Option (Bool))(x86:ByteArray)(v14:Int):Option (Bool) :=
 (addS x86 (strC [32])).bind λ x87 =>
 (addS v11 x87).bind λ x88 =>
 zau (zh1 a1 a2 a3 N b106_1 b100 b101 b102 x2 v43 k21) λ k22 =>
 znk a1 a2 a3 N b106_1 b100 b101 b102 x2 v43 v14 k22 N x88 (0:Int) (0:Int)
def znl (a1:Int)(a2:Int)(a3:Bool)(N:Nat)(b106_1:LB)(b100:LS)(b101:LE)(b102:LC)(x2:LB)(v11:ByteArray)(v43:Int)(k21:ByteArray->Option (Bool))(x86:ByteArray):Lp (Int) (Nat×Nat) (Bool):=lpm ⟨[1,2,3,9,11,13,14,41,42,43],[201,zyY,zyZ,zyX,zy0,zy1,zy2],[],[]⟩ (λ v14=>zh2 a1 a2 a3 N b106_1 b100 b101 b102 x2 v11 v43 k21 x86 v14) (λ v14 (m0,_)=>[.dat (u16N a1), .dat (u8N a2), .kb a3, .ptr zy2 0, .dat (strN v11), .dat (strN x86), .dat (iN v14), .rs 201 m0, .dat (iN (List.length x2:Int)), .dat (iN v43)]) (λ _ (_,m1)=>[(rW x2),(rW b106_1),(sW [zyX] b100),(eW b101),(mW b102), .box [.mp zyZ, .mp zyX, .mp zy0], .box [.ptr zy1 0, .rs zyY m1]]) λ _=>(List.length x2,List.length b106_1)
instance Ef9_c13 {a1 a2 a3 N b106_1 b100 b101 b102 x2 v11 v43 k21 x86 v14}:IsLp 2 1 (zh2 a1 a2 a3 N b106_1 b100 b101 b102 x2 v11 v43 k21 x86 v14) (znl a1 a2 a3 N b106_1 b100 b101 b102 x2 v11 v43 k21 x86) v14:=⟨rfl⟩
instance Cf9_c13 {a1 a2 a3 N b106_1 b100 b101 b102 x2 v11 v43 k21 x86}:IsCut 1 (zh2 a1 a2 a3 N b106_1 b100 b101 b102 x2 v11 v43 k21 x86) (znl a1 a2 a3 N b106_1 b100 b101 b102 x2 v11 v43 k21 x86) 13:=⟨⟩
def ztU (r9:Int->Int->Option (Bool))(a1:Int)(a2:Int)(a3:Bool)(b106_1:LB)(b100:LS)(b101:LE)(b102:LC)(x2:LB)(v11:ByteArray)(v43:Int)(x86:ByteArray)(k23:Int->Option (Bool))(v14:Int)(v49:Int):Option (Bool) :=
 bif decide (v49<(ByteArray.size x86:Int)) then ((idxS x86 v49).bind λ x95 =>
 r9 (W (v14+(W ((W (v49+(1:Int)))*x95)))) (W (v49+(1:Int))))
 else (k23 v14)
def f9_9 (a1:Int)(a2:Int)(a3:Bool)(b106_1:LB)(b100:LS)(b101:LE)(b102:LC)(x2:LB)(v11:ByteArray)(v43:Int)(x86:ByteArray)(k23:Int->Option (Bool)):Nat->Int->Int->Option (Bool)
 | 0,_,_=>none
 | n+1,v14,v49=>ztU (f9_9 a1 a2 a3 b106_1 b100 b101 b102 x2 v11 v43 x86 k23 n) a1 a2 a3 b106_1 b100 b101 b102 x2 v11 v43 x86 k23 v14 v49
def zyr (a1:Int)(a2:Int)(a3:Bool)(b106_1:LB)(b100:LS)(b101:LE)(b102:LC)(x2:LB)(v11:ByteArray)(v43:Int)(x86:ByteArray)(k23:Int->Option (Bool)):Lp (Nat×Int×Int) (Nat×Nat) (Bool):=lpm ⟨[1,2,3,9,11,13,14,41,42,43,48,49],[201,zyY,zyZ,zyX,zy0,zy1,zy2],[],[]⟩ (λ (n,v14,v49)=>f9_9 a1 a2 a3 b106_1 b100 b101 b102 x2 v11 v43 x86 k23 n v14 v49) (λ (_,v14,v49) (m0,_)=>[.dat (u16N a1), .dat (u8N a2), .kb a3, .ptr zy2 0, .dat (strN v11), .dat (strN x86), .dat (iN v14), .rs 201 m0, .dat (iN (List.length x2:Int)), .dat (iN v43), .dat (iN (ByteArray.size x86:Int)), .dat (iN v49)]) (λ (_,_,_) (_,m1)=>[(rW x2),(rW b106_1),(sW [zyX] b100),(eW b101),(mW b102), .box [.mp zyZ, .mp zyX, .mp zy0], .box [.ptr zy1 0, .rs zyY m1]]) λ (_,_,_)=>(List.length x2,List.length b106_1)
instance Ef9_9 {a1 a2 a3 b106_1 b100 b101 b102 x2 v11 v43 x86 k23 n v14 v49}:IsLp 2 2 (f9_9 a1 a2 a3 b106_1 b100 b101 b102 x2 v11 v43 x86 k23 n v14 v49) (zyr a1 a2 a3 b106_1 b100 b101 b102 x2 v11 v43 x86 k23) (n,v14,v49):=⟨rfl⟩
def ztV (r5:ByteArray->Int->Option (Bool))(a1:Int)(a2:Int)(a3:Bool)(N:Nat)(b106_1:LB)(b100:LS)(b101:LE)(b102:LC)(x2:LB)(k20:ByteArray->Option (Bool))(v11:ByteArray)(v43:Int):Option (Bool) :=
 bif decide (v43<(List.length x2:Int)) then (zau (zh0 a1 a2 a3 b106_1 b100 b101 b102 x2 v43 r5) λ k21 =>
 (ix x2 v43).bind λ x86 =>
 zau (zh2 a1 a2 a3 N b106_1 b100 b101 b102 x2 v11 v43 k21 x86) λ k23 =>
 f9_9 a1 a2 a3 b106_1 b100 b101 b102 x2 v11 v43 x86 k23 N (0:Int) (0:Int))
 else (k20 v11)
def f9_5 (a1:Int)(a2:Int)(a3:Bool)(N:Nat)(b106_1:LB)(b100:LS)(b101:LE)(b102:LC)(x2:LB)(k20:ByteArray->Option (Bool)):Nat->ByteArray->Int->Option (Bool)
 | 0,_,_=>none
 | n+1,v11,v43=>ztV (f9_5 a1 a2 a3 N b106_1 b100 b101 b102 x2 k20 n) a1 a2 a3 N b106_1 b100 b101 b102 x2 k20 v11 v43
def zys (a1:Int)(a2:Int)(a3:Bool)(N:Nat)(b106_1:LB)(b100:LS)(b101:LE)(b102:LC)(x2:LB)(k20:ByteArray->Option (Bool)):Lp (Nat×ByteArray×Int) (Nat×Nat) (Bool):=lpm ⟨[1,2,3,9,11,41,42,43],[201,zyY,zyZ,zyX,zy0,zy1,zy2],[],[]⟩ (λ (n,v11,v43)=>f9_5 a1 a2 a3 N b106_1 b100 b101 b102 x2 k20 n v11 v43) (λ (_,v11,v43) (m0,_)=>[.dat (u16N a1), .dat (u8N a2), .kb a3, .ptr zy2 0, .dat (strN v11), .rs 201 m0, .dat (iN (List.length x2:Int)), .dat (iN v43)]) (λ (_,_,_) (_,m1)=>[(rW x2),(rW b106_1),(sW [zyX] b100),(eW b101),(mW b102), .box [.mp zyZ, .mp zyX, .mp zy0], .box [.ptr zy1 0, .rs zyY m1]]) λ (_,_,_)=>(List.length x2,List.length b106_1)
instance Ef9_5 {a1 a2 a3 N b106_1 b100 b101 b102 x2 k20 n v11 v43}:IsLp 2 2 (f9_5 a1 a2 a3 N b106_1 b100 b101 b102 x2 k20 n v11 v43) (zys a1 a2 a3 N b106_1 b100 b101 b102 x2 k20) (n,v11,v43):=⟨rfl⟩
def zb5 (a1:Int)(a2:Int)(a3:Bool)(N:Nat)(b106_1:LB)(b100:LS)(b101:LE)(b102:LC):Option (Bool) :=
 (f21 N b106_1 b100 b101 b102).bind λ x2 =>
 (f30 N (List.length x2:Int)).bind λ x3 =>
 (addS (strC [116,117,115,99,104,101,32]) x3).bind λ x4 =>
 (addS x4 (strC [10])).bind λ x5 =>
 zau (zgB a1 a2 a3 N b106_1 b100 b101 b102) λ k20 =>
 f9_5 a1 a2 a3 N b106_1 b100 b101 b102 x2 k20 N x5 (0:Int)
def zfl (a1:Int)(a2:Int)(a3:Bool)(N:Nat):Lp (LB×LS×LE×LC) (Nat×Unit) (Bool):=lpm ⟨[3],[zyY,zyZ,zyX,zy0,zy1,zy2],[(.cell zy2 1,zyY,9,1)],[]⟩ (λ (b106_1,b100,b101,b102)=>zb5 a1 a2 a3 N b106_1 b100 b101 b102) (λ (_,_,_,_) (_,_)=>[.ptr zy2 0]) (λ (b106_1,b100,b101,b102) (m0,_)=>[(rW b106_1),(sW [zyX] b100),(eW b101),(mW b102), .box [.mp zyZ, .mp zyX, .mp zy0], .box [.ptr zy1 0, .rs zyY m0]]) λ (b106_1,_,_,_)=>(List.length b106_1,())
instance zv2 {a1 a2 a3 N b106_1 b100 b101 b102}:IsLp 1 4 (zb5 a1 a2 a3 N b106_1 b100 b101 b102) (zfl a1 a2 a3 N) (b106_1,b100,b101,b102):=⟨rfl⟩
instance zv3 {a1 a2 a3 N}:IsCut 4 (zb5 a1 a2 a3 N) (zfl a1 a2 a3 N) 103000000007:=⟨⟩
def zcK (N:Nat)(x1:LB)(v9:Int)(b106_1:LB)(b100:LS)(b101:LE)(b102:LC)(r3:Int->LB->LS->LE->LC->Option (Bool))(x5:ByteArray):Option (Bool) :=
 (f18 N x5 b106_1 b100 b101 b102).bind λ x96 =>
 r3 (W (v9+(1:Int))) x96.2.2.2.2 x96.2.1 x96.2.2.1 x96.2.2.2.1
def zfm (N:Nat)(x1:LB)(v9:Int)(b106_1:LB)(b100:LS)(b101:LE)(b102:LC)(r3:Int->LB->LS->LE->LC->Option (Bool)):Lp (ByteArray) (Nat×Unit) (Bool):=lpm ⟨[3,5,7,8,9],[zyY,zyZ,zyX,zy0,zy1,zy2],[],[]⟩ (λ x5=>zcK N x1 v9 b106_1 b100 b101 b102 r3 x5) (λ x5 (_,_)=>[.ptr zy2 0, .dat (strN x5), .dat (zat x1), .dat (iN (List.length x1:Int)), .dat (iN v9)]) (λ _ (m0,_)=>[(rW b106_1),(sW [zyX] b100),(eW b101),(mW b102), .box [.mp zyZ, .mp zyX, .mp zy0], .box [.ptr zy1 0, .rs zyY m0]]) λ _=>(List.length b106_1,())
instance zv4 {N x1 v9 b106_1 b100 b101 b102 r3 x5}:IsLp 1 1 (zcK N x1 v9 b106_1 b100 b101 b102 r3 x5) (zfm N x1 v9 b106_1 b100 b101 b102 r3) x5:=⟨rfl⟩
instance zv5 {N x1 v9 b106_1 b100 b101 b102 r3}:IsCut 1 (zcK N x1 v9 b106_1 b100 b101 b102 r3) (zfm N x1 v9 b106_1 b100 b101 b102 r3) 103000000005:=⟨⟩
def zeJ (r3:Int->LB->LS->LE->LC->Option (Bool))(N:Nat)(x1:LB)(k24:LB->LS->LE->LC->Option (Bool))(v9:Int)(b106_1:LB)(b100:LS)(b101:LE)(b102:LC):Option (Bool) :=
 bif decide (v9<(List.length x1:Int)) then (zau (zcK N x1 v9 b106_1 b100 b101 b102 r3) λ k25 =>
 (ix x1 v9).bind λ x97 =>
 k25 x97)
 else (k24 b106_1 b100 b101 b102)
def zcY (N:Nat)(x1:LB)(k24:LB->LS->LE->LC->Option (Bool)):Nat->Int->LB->LS->LE->LC->Option (Bool)
 | 0,_,_,_,_,_=>none
 | n+1,v9,b106_1,b100,b101,b102=>zeJ (zcY N x1 k24 n) N x1 k24 v9 b106_1 b100 b101 b102
def ziX (N:Nat)(x1:LB)(k24:LB->LS->LE->LC->Option (Bool)):Lp (Nat×Int×LB×LS×LE×LC) (Nat×Unit) (Bool):=lpm ⟨[3,7,8,9],[zyY,zyZ,zyX,zy0,zy1,zy2],[(.cell zy2 1,zyY,9,1)],[]⟩ (λ (n,v9,b106_1,b100,b101,b102)=>zcY N x1 k24 n v9 b106_1 b100 b101 b102) (λ (_,v9,_,_,_,_) (_,_)=>[.ptr zy2 0, .dat (zat x1), .dat (iN (List.length x1:Int)), .dat (iN v9)]) (λ (_,_,b106_1,b100,b101,b102) (m0,_)=>[(rW b106_1),(sW [zyX] b100),(eW b101),(mW b102), .box [.mp zyZ, .mp zyX, .mp zy0], .box [.ptr zy1 0, .rs zyY m0]]) λ (_,_,b106_1,_,_,_)=>(List.length b106_1,())
instance zwx {N x1 k24 n v9 b106_1 b100 b101 b102}:IsLp 1 5 (zcY N x1 k24 n v9 b106_1 b100 b101 b102) (ziX N x1 k24) (n,v9,b106_1,b100,b101,b102):=⟨rfl⟩
def f9 (N:Nat)(a0:List A4u8N)(a1:Int)(a2:Int)(a3:Bool):Option (Bool) :=
 (f26 N a0).bind λ x1 =>
 zau (zb5 a1 a2 a3 N) λ k24 =>
 zcY N x1 k24 N (0:Int) [] [] [] []
def G9 (ds:List D)(d:D):Prop:=∃ (N:Nat) (a0:List A4u8N) (a1:Int) (a2:Int) (a3:Bool) (r:Bool),ds=[zdM a0,u16N a1,u8N a2,bN a3]/\f9 N a0 a1 a2 a3=some r/\d=bN r

end Go.Vc
namespace Go.Vc
open Go.Proofs
set_option maxRecDepth 20000 in
theorem wk2 {P:Prop}(h:P:=by repeat' (first
  | ((with_reducible first|refine q0 _ _ ?_|refine q1 _ _ _ _ ?_|refine q2 _ _ _ ?_);clear Q q0 q1 q2)
  | ((with_reducible first|refine zdq ?hx (λ Q q0 q1 q2=>?_)|refine zdC ?hx (λ Q q0 q1 q2=>?_)|refine zdj ?hx (λ Q q0 q1 q2=>?_)|refine zex ?hx (λ Q q0 q1 q2=>?_));(case hx=>exact rfl);conv=>whnf)
  | ((with_reducible refine zcW ?_);(first|((refine zee rfl ?hy ?_);(case hy=>first|assumption|exact notT (by assumption)|exact rfl))|((refine zef rfl ?hy ?_);(case hy=>first|assumption|exact notF (by assumption)|exact rfl))|(revert hF;(with_reducible refine zht ?hx ?_ ?_);(case hx=>exact rfl);all_goals (intro hc hF))))
  | ((with_reducible refine zaQ ?_);(with_reducible refine zaQ ?_);(with_reducible have hJ:=zjJ hF);clear hJ;(refine gZ 2 1303 rfl ?_);(refine zn2 2 1303 hF rfl rfl rfl (by first|exact zav|exact zbl (by decide) zav) (by assumption) (by exact rfl) (by exact rfl) (λ q hq hF1=>?_));clear hF;(have hF:=hF1);clear hF1;dsimp only[St.settledF];(first|((with_reducible refine hR _ ?_);clear R hR)|((with_reducible refine hL _ ?_);clear L hL)))
  | ((with_reducible refine zco [] ?hx ?_);(case hx=>exact rfl))
  | with_reducible refine zhv ?_
  | ((with_reducible refine zaQ ?_);(with_reducible refine zaQ ?_);(with_reducible have hJ:=zjJ hF);clear hJ;(refine gZ 2 1203 rfl ?_);(refine zn2 2 1203 hF rfl rfl rfl (by first|exact zav|exact zbl (by decide) zav) (by assumption) (by exact rfl) (by exact rfl) (λ q hq hF1=>?_));clear hF;(have hF:=hF1);clear hF1;dsimp only[St.settledF];(first|((with_reducible refine hR _ ?_);clear R hR)|((with_reducible refine hL _ ?_);clear L hL)))
  | ((with_reducible refine zaQ ?_);(with_reducible refine zaQ ?_);(with_reducible have hG:=zcX hF);(refine gZ 2 1403 rfl ?_);(refine zls 2 1403 rfl rfl rfl (by first|exact zav|exact zbl (by decide) zav) (by assumption) (by exact rfl) ?_);(have hF:=hG);clear hG;dsimp only[St.settledF];(first|((with_reducible refine hR _ ?_);clear R hR)|((with_reducible refine hL _ ?_);clear L hL)))
  | ((with_reducible refine zaQ ?_);(with_reducible refine zaQ ?_);(with_reducible have hJ:=zjJ hF);clear hJ;(refine gZ 2 1501 rfl ?_);(refine zgO 2 1501 hF rfl rfl rfl (by first|exact zav|exact zbl (by decide) zav) (by assumption) (by exact rfl) (by first|exact rfl|assumption|(symm;assumption)|omega) (by exact rfl) (λ q hq hF1=>?_));clear hF;(have hF:=hF1);clear hF1;dsimp only[St.settledF];(first|((with_reducible refine hR _ ?_);clear R hR)|((with_reducible refine hL _ ?_);clear L hL)))
  | ((with_reducible refine zaQ ?_);(with_reducible refine zaQ ?_);(with_reducible have hG:=zcX hF);(refine gZ 2 2104 rfl ?_);(refine zel 2 2104 rfl rfl rfl (by first|exact zav|exact zbl (by decide) zav) (by assumption) (by exact rfl) ?_);(have hF:=hG);clear hG;dsimp only[St.settledF];(first|((with_reducible refine hR _ ?_);clear R hR)|((with_reducible refine hL _ ?_);clear L hL)))
  | ((with_reducible refine zcm ?_);(first|((with_reducible refine hR _ ?_);clear R hR)|((with_reducible refine hL _ ?_);clear L hL)))
  | ((with_reducible refine zcF ?_);(with_reducible refine hR _ _ ?hx ?_);(case hx=>kernel_rfl);clear R hR)
  | ((with_reducible first|refine zbU ?_|refine zbV ?_|refine idx2 (by assumption) ?_|refine idx3 (by assumption) ?_);conv=>whnf)
  | (with_reducible first|refine zbR ?_|refine zck ?_|refine zdp ?_|refine zcB ?_|refine zbo (λ R hR=>?_)|refine zbm ?_|refine zbe ?_|refine zg1 ?_|refine zbC ?_|refine zbn ?_)
  | ((with_reducible refine zdA ?hx (λ R L hL hR=>?_));(case hx=>exact rfl))
  | ((with_reducible refine exg3 ?_);revert hF;(refine G213.step rfl rfl rfl (by assumption) (by exact rfl) (by exact rfl) ?_);(intro y hy hF);conv=>whnf)
  | (cases hF;(refine Or.inl ?_);(conv=>whnf);exact⟨rfl,rfl,rfl⟩)
  | ((with_reducible have hJ:=isSm hF);clear hJ;revert hF;(refine zho (eK:=strN) (eV:=iN) zca ?hk ?hz ?hd ?he ?_);(case hk=>exact λ _=>rfl);(case hz=>exact rfl);(case hd=>exact rfl);(case he=>exact rfl);intro x hF;conv=>whnf)
  | ((with_reducible have hJ:=isSm hF);clear hJ;revert hF;(refine znQ (eK:=strN) (eV:=iN) zca ?hk ?hv ?hd ?he ?_);(case hk=>exact λ _=>rfl);(case hv=>exact rfl);(case hd=>exact rfl);(case he=>exact rfl);intro x hF;conv=>whnf)
  | ((with_reducible have hJ:=isSm hF);clear hJ;revert hF;(refine znQ (eK:=strN) (eV:=bN) zca ?hk ?hv ?hd ?he ?_);(case hk=>exact λ _=>rfl);(case hv=>exact rfl);(case hd=>exact rfl);(case he=>exact rfl);intro x hF;conv=>whnf)
  | ((with_reducible have hJ:=isO hF);clear hJ;revert hF;(refine zf7 (eK:=strN) (eM:=EditionM.m) zca ?hk ?hd ?he ?_ ?_);(case hk=>exact λ _=>rfl);(case hd=>exact rfl);(case he=>exact rfl);(intro hl hF;conv=>whnf);rotate_left;(intro i hl hF;conv=>whnf);rotate_right)
  | ((with_reducible have hG:=zln hF);clear hF;(obtain⟨⟨x,hx,hF⟩⟩:=hG);first|((with_reducible refine isMc ?_);(refine zhw rfl hx (by exact rfl) ?_);conv=>whnf)|skip)
  | ((with_reducible refine isMc ?_);(refine zhw rfl (by assumption) (by exact rfl) ?_);conv=>whnf)
  | ((refine⟨(by first|exact zav|exact zbl (by decide) zav), ?_⟩);conv=>whnf)
  | ((with_reducible refine isSF ?_);(with_reducible have hJ:=zjJ hF);clear hJ;(refine zlo hF (by assumption) rfl (by exact rfl) (λ q hq hF1=>?_));clear hF;(have hF:=hF1);clear hF1;conv=>whnf)
  | ((with_reducible have hJ:=zvE hF);clear hJ;revert hF;(refine zlp rfl ?_);intro x hF;conv=>whnf)
  | ((with_reducible have hG:=zec hF);clear hF;(refine zfG hG ?hs (λ q hl hF=>?_));(case hs=>exact rfl);clear hG;conv=>whnf)
  | ((refine⟨?hx, ?_⟩);(case hx=>exact⟨rfl,zyV rfl,rfl⟩);conv=>whnf)
  | with_reducible refine zeU ?_
  | (have hF:(none:Option _)=some _:=hF;cases hF))):P:=h
set_option maxRecDepth 20000 in
theorem wk3 {P:Prop}(h:P:=by repeat' (first
  | ((with_reducible first|refine q0 _ _ ?_|refine q1 _ _ _ _ ?_|refine q2 _ _ _ ?_);clear Q q0 q1 q2)
  | ((with_reducible first|refine zdq ?hx (λ Q q0 q1 q2=>?_)|refine zdj ?hx (λ Q q0 q1 q2=>?_)|refine zdC ?hx (λ Q q0 q1 q2=>?_)|refine zex ?hx (λ Q q0 q1 q2=>?_));(case hx=>exact rfl);conv=>whnf)
  | ((with_reducible refine zcW ?_);(first|((refine zee rfl ?hy ?_);(case hy=>first|assumption|exact notT (by assumption)|exact rfl))|((refine zef rfl ?hy ?_);(case hy=>first|assumption|exact notF (by assumption)|exact rfl))|(revert hF;(with_reducible refine zht ?hx ?_ ?_);(case hx=>exact rfl);all_goals (intro hc hF))))
  | ((with_reducible refine zcm ?_);(first|((with_reducible refine hR _ ?_);clear R hR)|((with_reducible refine hL _ ?_);clear L hL)))
  | ((with_reducible refine zcF ?_);(with_reducible refine hR _ _ ?hx ?_);(case hx=>kernel_rfl);clear R hR)
  | ((with_reducible first|refine zbU ?_|refine zbV ?_|refine idx2 (by assumption) ?_|refine idx3 (by assumption) ?_);conv=>whnf)
  | (with_reducible first|refine zbR ?_|refine zck ?_|refine zdp ?_|refine zcB ?_|refine zbo (λ R hR=>?_)|refine zbm ?_|refine zbe ?_|refine zg1 ?_|refine zbC ?_|refine zbn ?_|refine zcl ?_|refine zbX ?_|refine zsq ?_|refine zsp ?_)
  | ((with_reducible refine zdA ?hx (λ R L hL hR=>?_));(case hx=>exact rfl))
  | ((with_reducible replace hF:=isE hF);(dsimp only[zhz,zn7,zhB,zjN,zro,zhA,zlM,zhD,zhE,zrq,zrs,zlN,zlO,zjP,zrw,zlQ,zhH,zhI,zoa,zrz,zhJ,zlX,zj2,zrD,ziV,zj3,zrE,zm9,zuI,zfR,zj5,zj6,zuJ,zlZ,zj7,zuK,zl0] at hF);first|rewrite[zfL] at hF|rewrite[zn6] at hF|rewrite[zfM] at hF|rewrite[zhC] at hF|rewrite[zrn] at hF|rewrite[zfN] at hF|rewrite[zfO] at hF|rewrite[zrp] at hF|rewrite[zrr] at hF|rewrite[zhF] at hF|rewrite[zrv] at hF|rewrite[zfP] at hF|rewrite[zfQ] at hF|rewrite[zo] at hF|rewrite[zry] at hF|rewrite[zga] at hF|rewrite[zhM] at hF|rewrite[zep] at hF|rewrite[zj4] at hF|rewrite[zeR] at hF|rewrite[zob] at hF|rewrite[zfc] at hF|rewrite[zoc] at hF|rewrite[zfd] at hF|rewrite[zod] at hF)
  | ((with_reducible refine zcq ?_);first|((with_reducible replace hF:=toLp 0 2 hF);exact Lp.backI hF () ⟨_,rfl,rfl,rfl,rfl⟩ rfl)|((with_reducible replace hF:=toLp 0 4 hF);exact Lp.backI hF () ⟨_,rfl,rfl,rfl,rfl⟩ rfl)|((with_reducible replace hF:=toLp 1 2 hF);exact Lp.backI hF (_,()) ⟨_,rfl,rfl,rfl,rfl⟩ (pr2 (by first|exact rfl|assumption|omega|(simp only[List.length_set];done)) rfl))|((with_reducible replace hF:=toLp 1 3 hF);exact Lp.backI hF (_,()) ⟨_,rfl,rfl,rfl,rfl⟩ (pr2 (by first|exact rfl|assumption|omega|(simp only[List.length_set];done)) rfl))|((with_reducible replace hF:=toLp 3 2 hF);exact Lp.backI hF (_,_,_) ⟨_,rfl,rfl,rfl,rfl⟩ (pr2 (by first|exact rfl|assumption|omega|(simp only[List.length_set];done)) (pr2 (by first|exact rfl|assumption|omega|(simp only[List.length_set];done)) (by first|exact rfl|assumption|omega|(simp only[List.length_set];done))))))
  | ((with_reducible refine zbb ?_);first|((with_reducible replace hF:=toLp 0 1 hF);exact Lp.headI hF () ⟨_,rfl,rfl,rfl,rfl⟩ rfl)|((with_reducible replace hF:=toLp 1 1 hF);exact Lp.headI hF (_,()) ⟨_,rfl,rfl,rfl,rfl⟩ (pr2 (by first|exact rfl|assumption|omega|(simp only[List.length_set];done)) rfl))|((with_reducible replace hF:=toLp 1 2 hF);exact Lp.headI hF (_,()) ⟨_,rfl,rfl,rfl,rfl⟩ (pr2 (by first|exact rfl|assumption|omega|(simp only[List.length_set];done)) rfl))|((with_reducible replace hF:=toLp 2 1 hF);exact Lp.headI hF (_,_) ⟨_,rfl,rfl,rfl,rfl⟩ (pr2 (by first|exact rfl|assumption|omega|(simp only[List.length_set];done)) (by first|exact rfl|assumption|omega|(simp only[List.length_set];done)))))
  | ((with_reducible refine zcp ?_);first|((with_reducible replace hF:=toLp 0 2 hF);((refine Lp.loopI hF () rfl ⟨_,rfl,rfl,rfl,rfl⟩ rfl (λ _=>rfl) ?_);clear hF);(rintro n ⟨_,_⟩ hF))|((with_reducible replace hF:=toLp 0 4 hF);((refine Lp.loopI hF () rfl ⟨_,rfl,rfl,rfl,rfl⟩ rfl (λ _=>rfl) ?_);clear hF);(rintro n ⟨_,_,_,_⟩ hF))|((with_reducible replace hF:=toLp 1 2 hF);((refine Lp.loopI hF (_,()) rfl ⟨_,rfl,rfl,rfl,rfl⟩ (pr2 (by first|exact rfl|assumption|omega|(simp only[List.length_set];done)) rfl) (λ _=>rfl) ?_);clear hF);(rintro n ⟨_,_⟩ hF))|((with_reducible replace hF:=toLp 1 3 hF);((refine Lp.loopI hF (_,()) rfl ⟨_,rfl,rfl,rfl,rfl⟩ (pr2 (by first|exact rfl|assumption|omega|(simp only[List.length_set];done)) rfl) (λ _=>rfl) ?_);clear hF);(rintro n ⟨_,_,_⟩ hF))|((with_reducible replace hF:=toLp 3 2 hF);((refine Lp.loopI hF (_,_,_) rfl ⟨_,rfl,rfl,rfl,rfl⟩ (pr2 (by first|exact rfl|assumption|omega|(simp only[List.length_set];done)) (pr2 (by first|exact rfl|assumption|omega|(simp only[List.length_set];done)) (by first|exact rfl|assumption|omega|(simp only[List.length_set];done)))) (λ _=>rfl) ?_);clear hF);(rintro n ⟨_,_⟩ hF)))
  | ((with_reducible refine zb0 ?_);first|((with_reducible replace hF:=zeg 1 hF);((refine Lp.cutI hF rfl rfl ?_ ?_) <;> clear hF);(intro hF);rotate_left;(rintro _ hF);rotate_right)|((with_reducible replace hF:=zeg 2 hF);((refine Lp.cutI hF rfl rfl ?_ ?_) <;> clear hF);(intro hF);rotate_left;(rintro⟨_,_⟩ hF);rotate_right))
  | ((with_reducible refine zco [] ?hx ?_);(case hx=>exact rfl))
  | with_reducible refine zhv ?_
  | ((with_reducible have hJ:=isB hF);clear hJ;revert hF;(with_reducible first|refine G117.lend ?hx ?_|refine G148.lend ?hx ?_|refine G116.lend ?hx ?_|refine G118.lend ?hx ?_|refine G83.step ?hx ?_|refine G84.step ?hx ?_|refine G30.lend ?hx ?_|refine G57.lend ?hx ?_|refine G100.lend ?hx ?_|refine G101.lend ?hx ?_);(case hx=>exact rfl);intro v hF;conv=>whnf)
  | (revert hF;(refine zvy (d:=iN) ?hz ?_);(case hz=>exact rfl);intro x hF;conv=>whnf)
  | (revert hF;(refine zs5 (d:=iN) ?_);intro x hF;conv=>whnf)
  | ((with_reducible have hI:=zmW hF);clear hI;revert hF;(refine zhp ?_);intro x hF;conv=>whnf)
  | ((with_reducible have hI:=zrh hF);clear hI;revert hF;(refine zla ?_);intro x hF;conv=>whnf)
  | ((with_reducible refine Or.inr ?_);(conv=>whnf);(with_reducible refine ziK (List.map bN (List.replicate 10 false)) ?hx ?_);(case hx=>(unfold zoM;kernel_rfl));conv=>whnf)
  | (revert hF;(refine zvz (d:=iN) ?hz ?_);(case hz=>exact rfl);intro x hF;conv=>whnf)
  | ((refine zqX (d:=iN) (by assumption) ?_);conv=>whnf)
  | (cases hF;(refine Or.inl ?_);(conv=>whnf);exact⟨rfl,rfl,rfl⟩)
  | ((with_reducible refine zqZ hF ?_);(clear hF;intro hF;conv=>whnf))
  | ((with_reducible have hG:=zec hF);clear hF;(refine zvA (d:=iN) hG ?hn ?ho (λ q hl hF=>?_));(case hn=>first|exact rfl|assumption|omega);(case ho=>(rintro p h;first|cases h;done|(cases h;rfl)));clear hG;conv=>whnf)
  | ((with_reducible have hI:=zmV hF);clear hI;revert hF;(refine zhq ?_);intro x hF;conv=>whnf)
  | ((with_reducible have hG:=znR hF);clear hF;(first|(refine zq0 hG (by(try simp only[W]);omega) (λ x hF=>?_))|(refine zq1 hG (λ _=>rfl) (by(try simp only[W]);omega) (λ x hF=>?_)));clear hG;conv=>whnf)
  | ((refine zs6 (e:=zbc) (d:=iN) (λ _=>rfl) ?hn ?_);(case hn=>first|exact rfl|assumption|omega);conv=>whnf)
  | ((with_reducible have hI:=zlt hF);clear hI;revert hF;(refine zhr ?_);intro x hF;(try (with_reducible refine orL ?_));conv=>whnf)
  | ((with_reducible have hG:=zlc hF);clear hF;(first|(refine znS hG (by(try simp only[W]);omega) rfl rfl (λ q hF=>?_))|(refine znT hG (λ _=>rfl) (by(try simp only[W]);omega) rfl rfl (λ q hF=>?_)));clear hG;conv=>whnf)
  | ((with_reducible have hI:=zuB hF);clear hI;revert hF;(refine ztf ?hn ?_);(case hn=>first|exact rfl|omega);intro hF;conv=>whnf)
  | ((with_reducible have hI:=zvF hF);clear hI;revert hF;(first|refine zrf (λ _ h=>h) ?_|refine zpy ?_);intro x hF;conv=>whnf)
  | ((with_reducible have hI:=zuB hF);clear hI;revert hF;(refine zte ?hn ?_);(case hn=>first|exact rfl|assumption|omega);intro hF;conv=>whnf)
  | ((with_reducible first|refine zeV ?hx ?_|refine zdB ?hx ?_|refine zjb ?hx ?_|refine zg2 ?hx ?_|refine zcw ?hx ?_|refine zc4 ?hx ?_);(case hx=>exact rfl))
  | (revert hF;(with_reducible refine idx1 ?hn ?_);(case hn=>first|exact rfl|exact(List.length_map _)|assumption|omega|simp);intro x hx hF;conv=>whnf)
  | ((with_reducible refine zda ?_);(first|((first|refine zeh rfl ?hy (λ Q q0 q1 q2=>?_)|refine zdc rfl ?hy (λ Q q0 q1 q2=>?_));(case hy=>first|assumption|exact notT (by assumption)|exact rfl);conv=>whnf)|((first|refine zdb rfl ?hy ?_|refine zcx rfl ?hy ?_);(case hy=>first|assumption|exact notF (by assumption)|exact rfl))|(revert hF;(with_reducible first|refine zei ?hx ?_ ?_|refine zdd ?hx ?_ ?_);(case hx=>exact rfl);(intro hc hF Q q0 q1 q2;conv=>whnf);rotate_left;(intro hc hF);rotate_right)|(revert hF;(with_reducible first|refine zej ?hx ?_ ?_|refine zde ?hx ?_ ?_);(case hx=>exact rfl);(intro hc hF);rotate_left;(intro hc hF Q q0 q1 q2;conv=>whnf);rotate_right)))
  | ((with_reducible have hG:=zqS hF);clear hF;(refine Or.inl (Or.inl ?_));(conv=>whnf);(refine zmS hG ?hn (λ q hF=>?_);(case hn=>first|exact rfl|assumption|omega));clear hG;conv=>whnf)
  | ((with_reducible have hG:=zeF hF);clear hF;(first|((refine ze7 hG ?hn ?hs (λ q hF=>?_));(case hn=>first|exact rfl|assumption|omega);(case hs=>exact rfl))|((refine zf5 (d:=u8N) hG ?hs (λ q hF=>?_));(case hs=>exact rfl))|((refine zf6 (d:=u8N) hG ?ho ?hn ?hs (λ q hF=>?_));(case ho=>exact rfl);(case hn=>exact rfl);(case hs=>exact rfl)));clear hG;conv=>whnf)
  | ((with_reducible have hG:=zeF hF);clear hF;(first|((refine ze7 hG ?hn ?hs (λ q hF=>?_));(case hn=>first|exact rfl|assumption|omega);(case hs=>exact rfl))|((refine zf5 (d:=iN) hG ?hs (λ q hF=>?_));(case hs=>exact rfl))|((refine zf6 (d:=iN) hG ?ho ?hn ?hs (λ q hF=>?_));(case ho=>exact rfl);(case hn=>exact rfl);(case hs=>exact rfl)));clear hG;conv=>whnf)
  | ((refine zed ?hn ?_);(case hn=>first|exact rfl|(simp;done)|(simp;omega));conv=>whnf)
  | ((with_reducible refine zjG ?hn ?_);(case hn=>first|exact rfl|assumption|omega);conv=>whnf)
  | ((with_reducible have hG:=zec hF);clear hF;(refine zfG hG ?hs (λ q hl hF=>?_));(case hs=>exact rfl);clear hG;conv=>whnf)
  | ((refine⟨?hx, ?_⟩);(case hx=>exact⟨rfl,zyV rfl,rfl⟩);conv=>whnf)
  | ((with_reducible refine ze6 ?_);conv=>whnf)
  | ((with_reducible have hG:=zjF hF);clear hF;(refine⟨?hx, ?_⟩);(case hx=>(first|exact of_decide_eq_true hG.1|exact hG.1));have hF:=hG.2;clear hG;conv=>whnf)
  | ((with_reducible refine zgm ?hx ?_);(case hx=>first|exact rfl|assumption|exact notT (by assumption));conv=>whnf)
  | ((with_reducible refine zgn ?hx ?_);(case hx=>first|exact rfl|assumption|exact notF (by assumption));conv=>whnf)
  | ((refine zas 901 902000000 rfl rfl (zyV rfl) rfl (λ R hR=>?_));(conv=>whnf);(with_reducible refine hR _ ?ha ?_);(case ha=>exact rfl);clear R hR)
  | ((refine zas 1203 1204000000 rfl rfl (zyV rfl) rfl (λ R hR=>?_));(conv=>whnf);(with_reducible refine hR _ ?ha ?_);(case ha=>exact rfl);clear R hR)
  | ((refine zas 1101 1102000000 rfl rfl (zyV rfl) rfl (λ R hR=>?_));(conv=>whnf);(with_reducible refine hR _ ?ha ?_);(case ha=>exact rfl);clear R hR)
  | ((refine zas 1400 1401000000 rfl rfl (zyV rfl) rfl (λ R hR=>?_));(conv=>whnf);(with_reducible refine hR _ ?ha ?_);(case ha=>exact rfl);clear R hR)
  | ((refine zas 1408 1409000000 rfl rfl (zyV rfl) rfl (λ R hR=>?_));(conv=>whnf);(with_reducible refine hR _ ?ha ?_);(case ha=>exact rfl);clear R hR)
  | ((refine zas 1806 1807000000 rfl rfl (zyV rfl) rfl (λ R hR=>?_));(conv=>whnf);(with_reducible refine hR _ ?ha ?_);(case ha=>exact rfl);clear R hR)
  | ((refine zas 2000 2001000000 rfl rfl (zyV rfl) rfl (λ R hR=>?_));(conv=>whnf);(with_reducible refine hR _ ?ha ?_);(case ha=>exact rfl);clear R hR)
  | (show Kinl _ _ _ _ _ _ _;conv=>whnf)
  | ((with_reducible refine zcV ?ha ?hb ?_);(case ha=>exact rfl);(case hb=>exact rfl);conv=>whnf)
  | ((refine⟨?hx,trivial⟩);(case hx=>(cases hF;exact rfl)))
  | ((refine⟨?hx, ?_⟩);(case hx=>decide);conv=>whnf)
  | with_reducible refine zeU ?_
  | (have hF:(none:Option _)=some _:=hF;cases hF))):P:=h
set_option maxRecDepth 20000 in
theorem wk4 {P:Prop}(h:P:=by repeat' (first
  | ((with_reducible first|refine q0 _ _ ?_|refine q1 _ _ _ _ ?_|refine q2 _ _ _ ?_);clear Q q0 q1 q2)
  | ((with_reducible first|refine zdq ?hx (λ Q q0 q1 q2=>?_)|refine zdC ?hx (λ Q q0 q1 q2=>?_)|refine zdj ?hx (λ Q q0 q1 q2=>?_));(case hx=>exact rfl);conv=>whnf)
  | ((with_reducible refine zda ?_);(first|((first|refine zeh rfl ?hy (λ Q q0 q1 q2=>?_)|refine zdc rfl ?hy (λ Q q0 q1 q2=>?_));(case hy=>first|assumption|exact notT (by assumption)|exact rfl);conv=>whnf)|((first|refine zdb rfl ?hy ?_|refine zcx rfl ?hy ?_);(case hy=>first|assumption|exact notF (by assumption)|exact rfl))|(revert hF;(with_reducible first|refine zei ?hx ?_ ?_|refine zdd ?hx ?_ ?_);(case hx=>exact rfl);(intro hc hF Q q0 q1 q2;conv=>whnf);rotate_left;(intro hc hF);rotate_right)|(revert hF;(with_reducible first|refine zej ?hx ?_ ?_|refine zde ?hx ?_ ?_);(case hx=>exact rfl);(intro hc hF);rotate_left;(intro hc hF Q q0 q1 q2;conv=>whnf);rotate_right)))
  | ((with_reducible refine zcW ?_);(first|((refine zee rfl ?hy ?_);(case hy=>first|assumption|exact notT (by assumption)|exact rfl))|((refine zef rfl ?hy ?_);(case hy=>first|assumption|exact notF (by assumption)|exact rfl))|(revert hF;(with_reducible refine zht ?hx ?_ ?_);(case hx=>exact rfl);all_goals (intro hc hF))))
  | ((with_reducible refine zcm ?_);(first|((with_reducible refine hR _ ?_);clear R hR)|((with_reducible refine hL _ ?_);clear L hL)))
  | ((with_reducible refine zcF ?_);(with_reducible refine hR _ _ ?hx ?_);(case hx=>kernel_rfl);clear R hR)
  | ((with_reducible first|refine zbU ?_|refine zbV ?_|refine idx2 (by assumption) ?_|refine idx3 (by assumption) ?_);conv=>whnf)
  | (with_reducible first|refine zbR ?_|refine zck ?_|refine zdp ?_|refine zcB ?_|refine zbo (λ R hR=>?_)|refine zbm ?_|refine zbe ?_|refine zg1 ?_|refine zbC ?_|refine zbn ?_|refine zcl ?_|refine zbX ?_)
  | ((with_reducible refine zdA ?hx (λ R L hL hR=>?_));(case hx=>exact rfl))
  | ((with_reducible replace hF:=isE hF);(dsimp only[zjL,zrl,zjM,zhx,zmZ,zuC,zm0,zm1,zuD,zlC,zdN,zgq,zbF,zjO,zru,zlP,zm4,zuF,zlR,zm5,zuG,zlS,zjQ,zrx,zhG,zbr,zcc,zbs,zbd,zbQ,zce,zaY,zaV,zaZ,zbt,zcf,zaB] at hF);first|((with_reducible replace hF:=chkE (e:=ze8 ..) hF);rewrite[ze8] at hF)|((with_reducible replace hF:=chkE (e:=zgp ..) hF);rewrite[zgp] at hF)|((with_reducible replace hF:=chkE (e:=zf9) hF);rewrite[zf9] at hF)|((with_reducible replace hF:=chkE (e:=zgr) hF);rewrite[zgr] at hF)|((with_reducible replace hF:=chkE (e:=zgs) hF);rewrite[zgs] at hF)|((with_reducible replace hF:=chkE (e:=zaN ..) hF);rewrite[zaN] at hF)|((with_reducible replace hF:=chkE (e:=zaO ..) hF);rewrite[zaO] at hF)|((with_reducible replace hF:=chkE (e:=zaI ..) hF);rewrite[zaI] at hF)|((with_reducible replace hF:=chkE (e:=zay ..) hF);rewrite[zay] at hF)|rewrite[zf8] at hF|rewrite[zmY] at hF|rewrite[zrm] at hF|rewrite[zhy] at hF|rewrite[zn5] at hF|rewrite[zbE] at hF|rewrite[zdf] at hF|rewrite[zrt] at hF|rewrite[zn8] at hF|rewrite[zn9] at hF|rewrite[ze9] at hF|rewrite[zm6] at hF|rewrite[zcb] at hF|rewrite[zbP] at hF|rewrite[zcd] at hF|rewrite[za4] at hF)
  | ((with_reducible refine zcq ?_);first|((with_reducible replace hF:=toLp 0 1 hF);exact Lp.backI hF () ⟨_,rfl,rfl,rfl,rfl⟩ rfl)|((with_reducible replace hF:=toLp 0 2 hF);exact Lp.backI hF () ⟨_,rfl,rfl,rfl,rfl⟩ rfl))
  | ((with_reducible refine zbb ?_);first|((with_reducible replace hF:=toLp 0 0 hF);exact Lp.headI hF () ⟨_,rfl,rfl,rfl,rfl⟩ rfl)|((with_reducible replace hF:=toLp 0 1 hF);exact Lp.headI hF () ⟨_,rfl,rfl,rfl,rfl⟩ rfl))
  | ((with_reducible refine zcp ?_);first|((with_reducible replace hF:=toLp 0 1 hF);((refine Lp.loopI hF () rfl ⟨_,rfl,rfl,rfl,rfl⟩ rfl (λ _=>rfl) ?_);clear hF);(rintro n _ hF))|((with_reducible replace hF:=toLp 0 2 hF);((refine Lp.loopI hF () rfl ⟨_,rfl,rfl,rfl,rfl⟩ rfl (λ _=>rfl) ?_);clear hF);(rintro n ⟨_,_⟩ hF)))
  | ((with_reducible refine zb0 ?_);first|((with_reducible replace hF:=zeg 0 hF);((refine Lp.cutI hF rfl rfl ?_ ?_) <;> clear hF);(intro hF);rotate_left;(rintro _ hF);rotate_right)|((with_reducible replace hF:=zeg 1 hF);((refine Lp.cutI hF rfl rfl ?_ ?_) <;> clear hF);(intro hF);rotate_left;(rintro _ hF);rotate_right))
  | ((with_reducible refine zco [] ?hx ?_);(case hx=>exact rfl))
  | with_reducible refine zhv ?_
  | ((with_reducible have hI:=zmW hF);clear hI;revert hF;(refine zhp ?_);intro x hF;conv=>whnf)
  | ((with_reducible have hJ:=isB hF);clear hJ;revert hF;(with_reducible first|refine G73.step ?hx ?_|refine G117.lend ?hx ?_|refine G143.step ?hx ?_|refine G145.lend ?hx ?_|refine G116.lend ?hx ?_);(case hx=>exact rfl);intro v hF;conv=>whnf)
  | ((with_reducible first|refine zeV ?hx ?_|refine zdB ?hx ?_|refine zcw ?hx ?_|refine zc4 ?hx ?_);(case hx=>exact rfl))
  | (revert hF;(refine zqV ?_);intro x hF;conv=>whnf)
  | (revert hF;(with_reducible refine idx1 ?hn ?_);(case hn=>first|exact rfl|exact(List.length_map _)|assumption|omega|simp);intro x hx hF;conv=>whnf)
  | ((with_reducible have hG:=zgN hF);clear hF;(refine zjD hG (λ q hF=>?_));clear hG;conv=>whnf)
  | ((with_reducible refine ze6 ?_);conv=>whnf)
  | ((with_reducible refine zgm ?hx ?_);(case hx=>first|exact rfl|assumption|exact notT (by assumption));conv=>whnf)
  | ((with_reducible refine zgn ?hx ?_);(case hx=>first|exact rfl|assumption|exact notF (by assumption));conv=>whnf)
  | (revert hF;(with_reducible refine za3 ?_ ?_) <;> (intro hc hF;conv=>whnf))
  | ((refine zas 103 104000000 rfl rfl (zyV rfl) rfl (λ R hR=>?_));(conv=>whnf);(with_reducible refine hR _ ?ha ?_);(case ha=>exact rfl);clear R hR)
  | ((refine zas 206 207000000 rfl rfl (zyV rfl) rfl (λ R hR=>?_));(conv=>whnf);(with_reducible refine hR _ ?ha ?_);(case ha=>exact rfl);clear R hR)
  | ((refine zas 602 603000000 rfl rfl (zyV rfl) rfl (λ R hR=>?_));(conv=>whnf);(with_reducible refine hR _ ?ha ?_);(case ha=>exact rfl);clear R hR)
  | ((refine zas 104000403 104000404000000 rfl rfl (zyV rfl) rfl (λ R hR=>?_));(conv=>whnf);(with_reducible refine hR _ ?ha ?_);(case ha=>exact rfl);clear R hR)
  | ((refine zas 403 404000000 rfl rfl (zyV rfl) rfl (λ R hR=>?_));(conv=>whnf);(with_reducible refine hR _ ?ha ?_);(case ha=>exact rfl);clear R hR)
  | ((refine zas 603000102 603000103000000 rfl rfl (zyV rfl) rfl (λ R hR=>?_));(conv=>whnf);(with_reducible refine hR _ ?ha ?_);(case ha=>exact rfl);clear R hR)
  | ((refine zas 207000102 207000103000000 rfl rfl (zyV rfl) rfl (λ R hR=>?_));(conv=>whnf);(with_reducible refine hR _ ?ha ?_);(case ha=>exact rfl);clear R hR)
  | ((refine zas 603000103000405 603000103000406000000 rfl rfl (zyV rfl) rfl (λ R hR=>?_));(conv=>whnf);(with_reducible refine hR _ ?ha ?_);(case ha=>exact rfl);clear R hR)
  | ((refine zas 404000102 404000103000000 rfl rfl (zyV rfl) rfl (λ R hR=>?_));(conv=>whnf);(with_reducible refine hR _ ?ha ?_);(case ha=>exact rfl);clear R hR)
  | ((refine zas 207000103000405 207000103000406000000 rfl rfl (zyV rfl) rfl (λ R hR=>?_));(conv=>whnf);(with_reducible refine hR _ ?ha ?_);(case ha=>exact rfl);clear R hR)
  | ((refine zas 404000103000405 404000103000406000000 rfl rfl (zyV rfl) rfl (λ R hR=>?_));(conv=>whnf);(with_reducible refine hR _ ?ha ?_);(case ha=>exact rfl);clear R hR)
  | (show Kinl _ _ _ _ _ _ _;conv=>whnf)
  | ((with_reducible refine zcV ?ha ?hb ?_);(case ha=>exact rfl);(case hb=>exact rfl);conv=>whnf)
  | ((refine⟨?hx,trivial⟩);(case hx=>(cases hF;exact rfl)))
  | with_reducible refine zeU ?_)):P:=h
set_option maxRecDepth 20000 in
theorem wk5 {P:Prop}(h:P:=by repeat' (first
  | ((with_reducible first|refine q0 _ _ ?_|refine q1 _ _ _ _ ?_|refine q2 _ _ _ ?_);clear Q q0 q1 q2)
  | ((with_reducible first|refine zdq ?hx (λ Q q0 q1 q2=>?_)|refine zdC ?hx (λ Q q0 q1 q2=>?_)|refine zdj ?hx (λ Q q0 q1 q2=>?_)|refine zex ?hx (λ Q q0 q1 q2=>?_));(case hx=>exact rfl);conv=>whnf)
  | ((with_reducible refine zaQ ?_);(with_reducible refine zaQ ?_);(with_reducible have hG:=zcX hF);(refine gZ 2 1206 rfl ?_);(refine zel 2 1206 rfl rfl rfl (by first|exact zav|exact zbl (by decide) zav) (by assumption) (by exact rfl) ?_);(have hF:=hG);clear hG;dsimp only[St.settledF];(first|((with_reducible refine hR _ ?_);clear R hR)|((with_reducible refine hL _ ?_);clear L hL)))
  | ((with_reducible refine zaQ ?_);(with_reducible refine zaQ ?_);(with_reducible have hJ:=zjJ hF);clear hJ;(refine gZ 2 1303 rfl ?_);(refine zgO 2 1303 hF rfl rfl rfl (by first|exact zav|exact zbl (by decide) zav) (by assumption) (by exact rfl) (by first|exact rfl|assumption|(symm;assumption)|omega) (by exact rfl) (λ q hq hF1=>?_));clear hF;(have hF:=hF1);clear hF1;dsimp only[St.settledF];(first|((with_reducible refine hR _ ?_);clear R hR)|((with_reducible refine hL _ ?_);clear L hL)))
  | ((with_reducible refine zco [] ?hx ?_);(case hx=>exact rfl))
  | with_reducible refine zhv ?_
  | ((with_reducible refine zaQ ?_);(with_reducible refine zaQ ?_);(with_reducible have hJ:=zjJ hF);clear hJ;(refine gZ 2 1206 rfl ?_);(refine zgO 2 1206 hF rfl rfl rfl (by first|exact zav|exact zbl (by decide) zav) (by assumption) (by exact rfl) (by first|exact rfl|assumption|(symm;assumption)|omega) (by exact rfl) (λ q hq hF1=>?_));clear hF;(have hF:=hF1);clear hF1;dsimp only[St.settledF];(first|((with_reducible refine hR _ ?_);clear R hR)|((with_reducible refine hL _ ?_);clear L hL)))
  | ((with_reducible refine zaQ ?_);(with_reducible refine zaQ ?_);(with_reducible have hJ:=zjJ hF);clear hJ;(refine gZ 2 1306 rfl ?_);(refine zgO 2 1306 hF rfl rfl rfl (by first|exact zav|exact zbl (by decide) zav) (by assumption) (by exact rfl) (by first|exact rfl|assumption|(symm;assumption)|omega) (by exact rfl) (λ q hq hF1=>?_));clear hF;(have hF:=hF1);clear hF1;dsimp only[St.settledF];(first|((with_reducible refine hR _ ?_);clear R hR)|((with_reducible refine hL _ ?_);clear L hL)))
  | ((with_reducible refine zcF ?_);(with_reducible refine hR _ _ ?hx ?_);(case hx=>kernel_rfl);clear R hR)
  | ((with_reducible first|refine zbU ?_|refine idx2 (by assumption) ?_|refine idx3 (by assumption) ?_|refine zbV ?_);conv=>whnf)
  | (with_reducible first|refine zbR ?_|refine zck ?_|refine zdp ?_|refine zcB ?_|refine zbo (λ R hR=>?_)|refine zbm ?_|refine zbe ?_|refine zg1 ?_|refine zbC ?_|refine zbn ?_)
  | ((with_reducible refine zdA ?hx (λ R L hL hR=>?_));(case hx=>exact rfl))
  | ((with_reducible have hJ:=isB hF);clear hJ;revert hF;(with_reducible first|refine G64.lend ?hx ?_|refine G61.lend ?hx ?_);(case hx=>exact rfl);intro v hF;conv=>whnf)
  | (cases hF;(refine Or.inl ?_);(conv=>whnf);exact⟨rfl,rfl,rfl⟩)
  | ((with_reducible have hJ:=zvE hF);clear hJ;revert hF;(refine zqW ?_);intro x hF;conv=>whnf)
  | ((refine zmU rfl (by assumption) (λ d hp=>?_));(conv=>whnf);(refine zrb hF hp (by assumption) rfl (by exact rfl) (λ q hq hF1=>?_));clear hp;clear hF;(have hF:=hF1);clear hF1;conv=>whnf)
  | ((with_reducible have hJ:=isSm hF);clear hJ;revert hF;(refine zho (eK:=strN) (eV:=iN) zca ?hk ?hz ?hd ?he ?_);(case hk=>exact λ _=>rfl);(case hz=>exact rfl);(case hd=>exact rfl);(case he=>exact rfl);intro x hF;conv=>whnf)
  | ((with_reducible have hJ:=isSm hF);clear hJ;revert hF;(refine zho (eK:=strN) (eV:=bN) zca ?hk ?hz ?hd ?he ?_);(case hk=>exact λ _=>rfl);(case hz=>exact rfl);(case hd=>exact rfl);(case he=>exact rfl);intro x hF;conv=>whnf)
  | ((with_reducible have hJ:=isO hF);clear hJ;revert hF;(refine zf7 (eK:=strN) (eM:=StoneM.m) zca ?hk ?hd ?he ?_ ?_);(case hk=>exact λ _=>rfl);(case hd=>exact rfl);(case he=>exact rfl);(intro hl hF;conv=>whnf);rotate_left;(intro i hl hF;conv=>whnf);rotate_right)
  | ((with_reducible have hJ:=isO hF);clear hJ;revert hF;(refine zf7 (eK:=strN) (eM:=EditionM.m) zca ?hk ?hd ?he ?_ ?_);(case hk=>exact λ _=>rfl);(case hd=>exact rfl);(case he=>exact rfl);(intro hl hF;conv=>whnf);rotate_left;(intro i hl hF;conv=>whnf);rotate_right)
  | ((with_reducible refine isLF ?_);(refine zq9 (eK:=strN) (eM:=EditionM.m) zca (λ _=>rfl) (by exact rfl) (by exact rfl) (by assumption) ?_);conv=>whnf)
  | ((with_reducible have hG:=zln hF);clear hF;(obtain⟨⟨x,hx,hF⟩⟩:=hG);first|((with_reducible refine isMc ?_);(refine zhw rfl hx (by exact rfl) ?_);conv=>whnf)|skip)
  | ((with_reducible refine isMc ?_);(refine zhw rfl (by assumption) (by exact rfl) ?_);conv=>whnf)
  | ((with_reducible refine Or.inr ?_);(conv=>whnf);(with_reducible refine isTk ?_);(refine ztb (by first|exact zav|exact zbl (by decide) zav) ?_);conv=>whnf)
  | ((refine⟨(by first|exact zav|exact zbl (by decide) zav), ?_⟩);conv=>whnf)
  | ((with_reducible have hJ:=isO hF);clear hJ;revert hF;(refine zr ?_ ?_);(intro ho hF;conv=>whnf);rotate_left;(intro j ho hF;conv=>whnf);rotate_right)
  | ((with_reducible refine isOP ?_);(refine zt (by assumption) ?_);conv=>whnf)
  | ((with_reducible refine isOP ?_);(refine zra (by assumption) ?_);conv=>whnf)
  | ((with_reducible refine isSF ?_);(with_reducible have hJ:=zjJ hF);clear hJ;(refine zlo hF (by assumption) rfl (by exact rfl) (λ q hq hF1=>?_));clear hF;(have hF:=hF1);clear hF1;conv=>whnf)
  | ((with_reducible refine isPF ?_);(with_reducible have hJ:=zjJ hF);clear hJ;(refine zre hF (by assumption) rfl (by first|exact rfl|assumption|omega) (by exact rfl) (by first|exact zrd.trans zn1|exact zn1|exact rfl) (λ q hq hF1=>?_));clear hF;(have hF:=hF1);clear hF1;conv=>whnf)
  | ((with_reducible refine isLd ?_);(refine zpw rfl (by assumption) (λ key=>?_));conv=>whnf)
  | ((with_reducible have hJ:=zvE hF);clear hJ;revert hF;(refine zlp rfl ?_);intro x hF;conv=>whnf)
  | ((with_reducible first|refine zeV ?hx ?_|refine zdB ?hx ?_|refine zjb ?hx ?_|refine zg2 ?hx ?_|refine zcw ?hx ?_|refine zc4 ?hx ?_);(case hx=>exact rfl))
  | (revert hF;(with_reducible refine idx1 ?hn ?_);(case hn=>first|exact rfl|exact(List.length_map _)|assumption|omega|simp);intro x hx hF;conv=>whnf)
  | ((with_reducible refine zda ?_);(first|((first|refine zeh rfl ?hy (λ Q q0 q1 q2=>?_)|refine zdc rfl ?hy (λ Q q0 q1 q2=>?_));(case hy=>first|assumption|exact notT (by assumption)|exact rfl);conv=>whnf)|((first|refine zdb rfl ?hy ?_|refine zcx rfl ?hy ?_);(case hy=>first|assumption|exact notF (by assumption)|exact rfl))|(revert hF;(with_reducible first|refine zei ?hx ?_ ?_|refine zdd ?hx ?_ ?_);(case hx=>exact rfl);(intro hc hF Q q0 q1 q2;conv=>whnf);rotate_left;(intro hc hF);rotate_right)|(revert hF;(with_reducible first|refine zej ?hx ?_ ?_|refine zde ?hx ?_ ?_);(case hx=>exact rfl);(intro hc hF);rotate_left;(intro hc hF Q q0 q1 q2;conv=>whnf);rotate_right)))
  | ((with_reducible refine zq4 ?_);(first|((first|refine znU rfl ?hy (λ Q q0 q1 q2=>?_)|refine zle rfl ?hy (λ Q q0 q1 q2=>?_));(case hy=>first|assumption|exact notT (by assumption)|exact rfl);conv=>whnf)|((first|refine zld rfl ?hy ?_|refine ziM rfl ?hy ?_);(case hy=>first|assumption|exact notF (by assumption)|exact rfl))|(revert hF;(with_reducible first|refine znV ?hx ?_ ?_|refine zlf ?hx ?_ ?_);(case hx=>exact rfl);(intro hc hF Q q0 q1 q2;conv=>whnf);rotate_left;(intro hc hF);rotate_right)|(revert hF;(with_reducible first|refine znW ?hx ?_ ?_|refine zlg ?hx ?_ ?_);(case hx=>exact rfl);(intro hc hF);rotate_left;(intro hc hF Q q0 q1 q2;conv=>whnf);rotate_right)))
  | ((with_reducible have hG:=zeF hF);clear hF;(first|((refine ze7 hG ?hn ?hs (λ q hF=>?_));(case hn=>first|exact rfl|assumption|omega);(case hs=>exact rfl))|((refine zf5 (d:=iN) hG ?hs (λ q hF=>?_));(case hs=>exact rfl))|((refine zf6 (d:=iN) hG ?ho ?hn ?hs (λ q hF=>?_));(case ho=>exact rfl);(case hn=>exact rfl);(case hs=>exact rfl)));clear hG;conv=>whnf)
  | ((with_reducible have hG:=zeF hF);clear hF;(first|((refine ze7 hG ?hn ?hs (λ q hF=>?_));(case hn=>first|exact rfl|assumption|omega);(case hs=>exact rfl))|((refine zf5 (d:=strN) hG ?hs (λ q hF=>?_));(case hs=>exact rfl))|((refine zf6 (d:=strN) hG ?ho ?hn ?hs (λ q hF=>?_));(case ho=>exact rfl);(case hn=>exact rfl);(case hs=>exact rfl)));clear hG;conv=>whnf)
  | ((with_reducible refine zcW ?_);(first|((refine zee rfl ?hy ?_);(case hy=>first|assumption|exact notT (by assumption)|exact rfl))|((refine zef rfl ?hy ?_);(case hy=>first|assumption|exact notF (by assumption)|exact rfl))|(revert hF;(with_reducible refine zht ?hx ?_ ?_);(case hx=>exact rfl);all_goals (intro hc hF))))
  | ((refine zed ?hn ?_);(case hn=>first|exact rfl|(simp;done)|(simp;omega));conv=>whnf)
  | ((with_reducible refine zaQ ?_);(with_reducible refine zaQ ?_);(with_reducible have hG:=zcX hF);(refine gZ 2 1611 rfl ?_);(refine zel 2 1611 rfl rfl rfl (by first|exact zav|exact zbl (by decide) zav) (by assumption) (by exact rfl) ?_);(have hF:=hG);clear hG;dsimp only[St.settledF];(first|((with_reducible refine hR _ ?_);clear R hR)|((with_reducible refine hL _ ?_);clear L hL)))
  | ((with_reducible refine zaQ ?_);(with_reducible refine zaQ ?_);(with_reducible have hG:=zcX hF);(refine gZ 2 1603 rfl ?_);(refine zel 2 1603 rfl rfl rfl (by first|exact zav|exact zbl (by decide) zav) (by assumption) (by exact rfl) ?_);(have hF:=hG);clear hG;dsimp only[St.settledF];(first|((with_reducible refine hR _ ?_);clear R hR)|((with_reducible refine hL _ ?_);clear L hL)))
  | ((with_reducible refine zaQ ?_);(with_reducible refine zaQ ?_);(with_reducible have hG:=zcX hF);(refine gZ 4 1403 rfl ?_);(refine zel 4 1403 rfl rfl rfl (by first|exact zav|exact zbl (by decide) zav) (by assumption) (by exact rfl) ?_);(have hF:=hG);clear hG;dsimp only[St.settledF];(first|((with_reducible refine hR _ ?_);clear R hR)|((with_reducible refine hL _ ?_);clear L hL)))
  | ((with_reducible refine zaQ ?_);(with_reducible refine zaQ ?_);(with_reducible have hG:=zcX hF);(refine gZ 4 1803 rfl ?_);(refine zls 4 1803 rfl rfl rfl (by first|exact zav|exact zbl (by decide) zav) (by assumption) (by exact rfl) ?_);(have hF:=hG);clear hG;dsimp only[St.settledF];(first|((with_reducible refine hR _ ?_);clear R hR)|((with_reducible refine hL _ ?_);clear L hL)))
  | ((with_reducible refine zjG ?hn ?_);(case hn=>first|exact rfl|assumption|omega);conv=>whnf)
  | ((with_reducible refine zcm ?_);(first|((with_reducible refine hR _ ?_);clear R hR)|((with_reducible refine hL _ ?_);clear L hL)))
  | ((with_reducible have hG:=zec hF);clear hF;(refine zfG hG ?hs (λ q hl hF=>?_));(case hs=>exact rfl);clear hG;conv=>whnf)
  | (revert hF;(refine zrg ?hn ?_ ?_);(case hn=>first|exact rfl|assumption|omega);(intro hl hF;conv=>whnf);rotate_left;(intro hF;conv=>whnf);rotate_right)
  | ((refine⟨?hx, ?_⟩);(case hx=>exact⟨rfl,zyV rfl,rfl⟩);conv=>whnf)
  | ((with_reducible refine ze6 ?_);conv=>whnf)
  | ((with_reducible refine zgm ?hx ?_);(case hx=>first|exact rfl|assumption|exact notT (by assumption));conv=>whnf)
  | ((with_reducible refine zgn ?hx ?_);(case hx=>first|exact rfl|assumption|exact notF (by assumption));conv=>whnf)
  | ((refine zas 1101 1102000000 rfl rfl (zyV rfl) rfl (λ R hR=>?_));(conv=>whnf);(with_reducible refine hR _ ?ha ?_);(case ha=>exact rfl);clear R hR)
  | ((refine zas 1102 1103000000 rfl rfl (zyV rfl) rfl (λ R hR=>?_));(conv=>whnf);(with_reducible refine hR _ ?ha ?_);(case ha=>exact rfl);clear R hR)
  | ((refine zas 1304 1305000000 rfl rfl (zyV rfl) rfl (λ R hR=>?_));(conv=>whnf);(with_reducible refine hR _ ?ha ?_);(case ha=>exact rfl);clear R hR)
  | ((refine zas 1502 1503000000 rfl rfl (zyV rfl) rfl (λ R hR=>?_));(conv=>whnf);(with_reducible refine hR _ ?ha ?_);(case ha=>exact rfl);clear R hR)
  | ((refine zas 1404 1405000000 rfl rfl (zyV rfl) rfl (λ R hR=>?_));(conv=>whnf);(with_reducible refine hR _ ?ha ?_);(case ha=>exact rfl);clear R hR)
  | ((refine zas 1503000101 1503000102000000 rfl rfl (zyV rfl) rfl (λ R hR=>?_));(conv=>whnf);(with_reducible refine hR _ ?ha ?_);(case ha=>exact rfl);clear R hR)
  | ((refine zas 1103000101 1103000102000000 rfl rfl (zyV rfl) rfl (λ R hR=>?_));(conv=>whnf);(with_reducible refine hR _ ?ha ?_);(case ha=>exact rfl);clear R hR)
  | (show Kinl _ _ _ _ _ _ _;conv=>whnf)
  | ((with_reducible refine zcV ?ha ?hb ?_);(case ha=>exact rfl);(case hb=>exact rfl);conv=>whnf)
  | with_reducible refine zeU ?_
  | (have hF:(none:Option _)=some _:=hF;cases hF))):P:=h
set_option maxRecDepth 20000 in
theorem wk6 {P:Prop}(h:P:=by repeat' (first
  | ((with_reducible first|refine q0 _ _ ?_|refine q1 _ _ _ _ ?_|refine q2 _ _ _ ?_);clear Q q0 q1 q2)
  | ((with_reducible first|refine zdq ?hx (λ Q q0 q1 q2=>?_)|refine zdC ?hx (λ Q q0 q1 q2=>?_)|refine zdj ?hx (λ Q q0 q1 q2=>?_)|refine zex ?hx (λ Q q0 q1 q2=>?_));(case hx=>exact rfl);conv=>whnf)
  | ((with_reducible refine zcW ?_);(first|((refine zee rfl ?hy ?_);(case hy=>first|assumption|exact notT (by assumption)|exact rfl))|((refine zef rfl ?hy ?_);(case hy=>first|assumption|exact notF (by assumption)|exact rfl))|(revert hF;(with_reducible refine zht ?hx ?_ ?_);(case hx=>exact rfl);all_goals (intro hc hF))))
  | ((with_reducible refine zcm ?_);(first|((with_reducible refine hR _ ?_);clear R hR)|((with_reducible refine hL _ ?_);clear L hL)))
  | ((with_reducible refine zco [] ?hx ?_);(case hx=>exact rfl))
  | with_reducible refine zhv ?_
  | ((with_reducible refine zcF ?_);(with_reducible refine hR _ _ ?hx ?_);(case hx=>kernel_rfl);clear R hR)
  | (with_reducible first|refine zck ?_|refine zdp ?_|refine zbo (λ R hR=>?_)|refine zbm ?_|refine zbR ?_|refine zcB ?_|refine zbe ?_|refine zg1 ?_|refine zbC ?_|refine zbn ?_)
  | ((with_reducible refine zdA ?hx (λ R L hL hR=>?_));(case hx=>exact rfl))
  | ((with_reducible have hJ:=isB hF);clear hJ;revert hF;(first|refine G51.step rfl rfl rfl rfl rfl rfl rfl (by first|exact rfl|assumption|omega|(simp only[List.length_set];done)) (by first|exact trivial|exact rfl) ?hn ?_);(case hn=>exact rfl);intro v hF;(obtain⟨v,ve⟩:=v);(try dsimp only at hF);(conv=>whnf))
  | ((with_reducible have hJ:=isB hF);clear hJ;revert hF;(first|refine G197.step rfl rfl rfl rfl rfl  (by first|exact trivial|exact rfl) ?hn ?_|refine G199.step rfl rfl rfl rfl rfl  (by first|exact trivial|exact rfl) ?hn ?_|refine G201.step rfl rfl rfl rfl rfl  (by first|exact trivial|exact rfl) ?hn ?_|refine G203.step rfl rfl rfl rfl rfl  (by first|exact trivial|exact rfl) ?hn ?_|refine G205.step rfl rfl rfl rfl rfl  (by first|exact trivial|exact rfl) ?hn ?_|refine G207.step rfl rfl rfl rfl rfl  (by first|exact trivial|exact rfl) ?hn ?_|refine G209.step rfl rfl rfl rfl rfl  (by first|exact trivial|exact rfl) ?hn ?_|refine G211.step rfl rfl rfl rfl rfl  (by first|exact trivial|exact rfl) ?hn ?_|refine G214.step rfl rfl rfl rfl rfl  (by first|exact trivial|exact rfl) ?hn ?_);(case hn=>exact rfl);intro v hF;conv=>whnf)
  | (cases hF;(refine Or.inl ?_);(conv=>whnf);exact⟨rfl,rfl,rfl⟩)
  | ((with_reducible have hG:=zlq hF);clear hF;(refine zlr (eM:=StoneM.m) hG zca ?hk ?hd ?he [.d default, .p 0 none, .d default] rfl ?_);(case hk=>exact λ _=>rfl);(case hd=>exact rfl);(case he=>exact rfl);(conv=>whnf);(refine⟨⟨rfl,rfl,(by decide)⟩, ?_⟩);(refine zrc hG rfl rfl rfl (λ q hq hF=>?_));clear hG;conv=>whnf)
  | ((with_reducible have hG:=zlq hF);clear hF;(refine zlr (eM:=EditionM.m) hG zca ?hk ?hd ?he [.d default, .d default, .r 3 1 [], .d default, .d default, .d default, .d default, .m [], .d default] rfl ?_);(case hk=>exact λ _=>rfl);(case hd=>exact rfl);(case he=>exact rfl);(conv=>whnf);(refine⟨⟨rfl,rfl,(by decide)⟩, ?_⟩);(refine zrc hG rfl rfl rfl (λ q hq hF=>?_));clear hG;conv=>whnf)
  | ((refine zed ?hn ?_);(case hn=>first|exact rfl|(simp;done)|(simp;omega));conv=>whnf)
  | with_reducible refine zeU ?_
  | (have hF:(none:Option _)=some _:=hF;cases hF)
  | (revert hF;(refine I97.on_step ?_ ?_ ?_ ?_ ?_ ?_ ?_ ?_ ?_ ?_) <;> ((intros);(rename_i hx hF);(first|(cases hx;done)|(subst hx;(conv=>whnf))|(cases hx;(conv=>whnf))|(simp only[hx];(conv=>whnf)))))
  | ((with_reducible have hG:=zeF hF);clear hF;(first|((refine ze7 hG ?hn ?hs (λ q hF=>?_));(case hn=>first|exact rfl|assumption|omega);(case hs=>exact rfl))|((refine zf5 (d:=strN) hG ?hs (λ q hF=>?_));(case hs=>exact rfl))|((refine zf6 (d:=strN) hG ?ho ?hn ?hs (λ q hF=>?_));(case ho=>exact rfl);(case hn=>exact rfl);(case hs=>exact rfl)));clear hG;conv=>whnf)
  | ((refine I97.fp (K:=λ x=>Q ⟨x,[]⟩ _) ?_);conv=>whnf)
  | ((refine I97.fp (K:=λ x=>mvPg x _ _ _ _) ?_);conv=>whnf))):P:=h
set_option maxRecDepth 20000 in
theorem wk7 {P:Prop}(h:P:=by repeat' (first
  | ((with_reducible first|refine q0 _ _ ?_|refine q1 _ _ _ _ ?_|refine q2 _ _ _ ?_);clear Q q0 q1 q2)
  | ((with_reducible first|refine zdq ?hx (λ Q q0 q1 q2=>?_));(case hx=>exact rfl);conv=>whnf)
  | ((with_reducible refine zcm ?_);(first|((with_reducible refine hR _ ?_);clear R hR)|((with_reducible refine hL _ ?_);clear L hL)))
  | ((with_reducible first|refine zbU ?_|refine zbV ?_|refine idx2 (by assumption) ?_|refine idx3 (by assumption) ?_);conv=>whnf)
  | ((with_reducible refine zco [] ?hx ?_);(case hx=>exact rfl))
  | with_reducible refine zhv ?_
  | (with_reducible first|refine zck ?_|refine zdp ?_|refine zbo (λ R hR=>?_)|refine zbm ?_)
  | ((with_reducible have hJ:=isB hF);clear hJ;revert hF;(with_reducible first|refine G88.lend ?hx ?_|refine G61.lend ?hx ?_|refine G119.step ?hx ?_);(case hx=>exact rfl);intro v hF;conv=>whnf)
  | (revert hF;(with_reducible refine idx1 ?hn ?_);(case hn=>first|exact rfl|exact(List.length_map _)|assumption|omega|simp);intro x hx hF;conv=>whnf)
  | ((refine zed ?hn ?_);(case hn=>first|exact rfl|(simp;done)|(simp;omega));conv=>whnf)
  | ((with_reducible refine ze6 ?_);conv=>whnf)
  | ((with_reducible have hG:=zjF hF);clear hF;(refine⟨?hx, ?_⟩);(case hx=>(first|exact of_decide_eq_true hG.1|exact hG.1));have hF:=hG.2;clear hG;conv=>whnf)
  | ((refine⟨?hx,trivial⟩);(case hx=>(cases hF;exact rfl)))
  | with_reducible refine zeU ?_)):P:=h
set_option maxRecDepth 20000 in
theorem wk8 {P:Prop}(h:P:=by repeat' (first
  | ((with_reducible first|refine q0 _ _ ?_|refine q1 _ _ _ _ ?_|refine q2 _ _ _ ?_);clear Q q0 q1 q2)
  | ((with_reducible first|refine zdq ?hx (λ Q q0 q1 q2=>?_)|refine zdC ?hx (λ Q q0 q1 q2=>?_));(case hx=>exact rfl);conv=>whnf)
  | ((with_reducible refine zcW ?_);(first|((refine zee rfl ?hy ?_);(case hy=>first|assumption|exact notT (by assumption)|exact rfl))|((refine zef rfl ?hy ?_);(case hy=>first|assumption|exact notF (by assumption)|exact rfl))|(revert hF;(with_reducible refine zht ?hx ?_ ?_);(case hx=>exact rfl);all_goals (intro hc hF))))
  | ((with_reducible refine zcm ?_);(first|((with_reducible refine hR _ ?_);clear R hR)|((with_reducible refine hL _ ?_);clear L hL)))
  | ((with_reducible refine zcF ?_);(with_reducible refine hR _ _ ?hx ?_);(case hx=>kernel_rfl);clear R hR)
  | ((with_reducible first|refine zbU ?_|refine idx2 (by assumption) ?_|refine idx3 (by assumption) ?_|refine zbV ?_);conv=>whnf)
  | (with_reducible first|refine zbR ?_|refine zck ?_|refine zdp ?_|refine zcB ?_|refine zbo (λ R hR=>?_)|refine zbm ?_|refine zbe ?_|refine zg1 ?_|refine zbC ?_|refine zbn ?_)
  | ((with_reducible refine zdA ?hx (λ R L hL hR=>?_));(case hx=>exact rfl))
  | ((with_reducible have hJ:=isB hF);clear hJ;revert hF;(with_reducible first|refine G132.lend ?hx ?_|refine G158.lend ?hx ?_|refine G116.lend ?hx ?_|refine G146.lend ?hx ?_|refine G147.lend ?hx ?_|refine G131.lend ?hx ?_);(case hx=>exact rfl);intro v hF;conv=>whnf)
  | ((with_reducible replace hF:=isE hF);(dsimp only[zm7] at hF);first|rewrite[zhL] at hF)
  | ((with_reducible refine zbb ?_);first|((with_reducible replace hF:=toLp 1 2 hF);exact Lp.headI hF (_,()) ⟨_,rfl,rfl,rfl,rfl⟩ (pr2 (by first|exact rfl|assumption|omega|(simp only[List.length_set];done)) rfl)))
  | ((with_reducible refine zb0 ?_);first|((with_reducible replace hF:=zeg 2 hF);((refine Lp.cutI hF rfl rfl ?_ ?_) <;> clear hF);(intro hF);rotate_left;(rintro⟨_,_⟩ hF);rotate_right))
  | ((with_reducible refine zco [] ?hx ?_);(case hx=>exact rfl))
  | with_reducible refine zhv ?_
  | (revert hF;(with_reducible refine G79.step ?hx ?_);(case hx=>exact rfl);intro v hF;(obtain⟨v,ve⟩:=v);(try dsimp only at hF);(conv=>whnf))
  | ((with_reducible refine zbb ?_);(rename I97=>xi);cases xi)
  | ((with_reducible have hJ:=isB hF);clear hJ;revert hF;(first|refine G198.step rfl rfl rfl rfl rfl  (by first|exact trivial|exact rfl) ?hn ?_|refine G200.step rfl rfl rfl rfl rfl  (by first|exact trivial|exact rfl) ?hn ?_|refine G202.step rfl rfl rfl rfl rfl  (by first|exact trivial|exact rfl) ?hn ?_|refine G204.step rfl rfl rfl rfl rfl  (by first|exact trivial|exact rfl) ?hn ?_|refine G206.step rfl rfl rfl rfl rfl  (by first|exact trivial|exact rfl) ?hn ?_|refine G208.step rfl rfl rfl rfl rfl  (by first|exact trivial|exact rfl) ?hn ?_|refine G210.step rfl rfl rfl rfl rfl  (by first|exact trivial|exact rfl) ?hn ?_|refine G212.step rfl rfl rfl rfl rfl  (by first|exact trivial|exact rfl) ?hn ?_|refine G215.step rfl rfl rfl rfl rfl  (by first|exact trivial|exact rfl) ?hn ?_);(case hn=>exact rfl);intro v hF;conv=>whnf)
  | ((with_reducible refine zda ?_);(first|((first|refine zeh rfl ?hy (λ Q q0 q1 q2=>?_)|refine zdc rfl ?hy (λ Q q0 q1 q2=>?_));(case hy=>first|assumption|exact notT (by assumption)|exact rfl);conv=>whnf)|((first|refine zdb rfl ?hy ?_|refine zcx rfl ?hy ?_);(case hy=>first|assumption|exact notF (by assumption)|exact rfl))|(revert hF;(with_reducible first|refine zei ?hx ?_ ?_|refine zdd ?hx ?_ ?_);(case hx=>exact rfl);(intro hc hF Q q0 q1 q2;conv=>whnf);rotate_left;(intro hc hF);rotate_right)|(revert hF;(with_reducible first|refine zej ?hx ?_ ?_|refine zde ?hx ?_ ?_);(case hx=>exact rfl);(intro hc hF);rotate_left;(intro hc hF Q q0 q1 q2;conv=>whnf);rotate_right)))
  | (cases hF;(refine Or.inl ?_);(conv=>whnf);exact⟨rfl,rfl,rfl⟩)
  | (revert hF;(with_reducible refine idx1 ?hn ?_);(case hn=>first|exact rfl|exact(List.length_map _)|assumption|omega|simp);intro x hx hF;conv=>whnf)
  | ((with_reducible refine zgm ?hx ?_);(case hx=>first|exact rfl|assumption|exact notT (by assumption));conv=>whnf)
  | ((with_reducible refine zgn ?hx ?_);(case hx=>first|exact rfl|assumption|exact notF (by assumption));conv=>whnf)
  | ((refine zas 1101 1102000000 rfl rfl (zyV rfl) rfl (λ R hR=>?_));(conv=>whnf);(with_reducible refine hR _ ?ha ?_);(case ha=>exact rfl);clear R hR)
  | (show Kinl _ _ _ _ _ _ _;conv=>whnf)
  | ((with_reducible refine zcV ?ha ?hb ?_);(case ha=>exact rfl);(case hb=>exact rfl);conv=>whnf)
  | ((refine⟨?hx,trivial⟩);(case hx=>(cases hF;exact rfl)))
  | ((refine⟨?hx, ?_⟩);(case hx=>decide);conv=>whnf)
  | with_reducible refine zeU ?_
  | (have hF:(none:Option _)=some _:=hF;cases hF)
  | (revert hF;(refine I97.on_step ?_ ?_ ?_ ?_ ?_ ?_ ?_ ?_ ?_ ?_) <;> ((intros);(rename_i hx hF);(first|(cases hx;done)|(subst hx;(conv=>whnf))|(cases hx;(conv=>whnf))|(simp only[hx];(conv=>whnf)))))
  | ((refine I97.fo (K:=λ x=>Q ⟨x,[]⟩ _) ?_);conv=>whnf)
  | ((refine I97.fp (K:=λ x=>Q ⟨x,[]⟩ _) ?_);conv=>whnf)
  | ((refine I97.fp (K:=λ x=>mvPg x _ _ _ _) ?_);conv=>whnf)
  | ((rename I97=>xi);cases xi <;> ((try dsimp only at hF);(try (conv=>whnf)))))):P:=h

end Go.Vc
