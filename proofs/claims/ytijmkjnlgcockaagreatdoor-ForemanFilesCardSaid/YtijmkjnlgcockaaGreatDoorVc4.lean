/-
  A library for proofs about Go functions by symbolic evaluation,and plain Lean functions that the walked Go functions compute (written by a program of this claim).
-/
import Derived.Test.YtijmkjnlgcockaaGreatDoorVc3
import Derived.ProofKit
import Derived.JoinedTies
import Derived.HandedShaped
import GoSem.ClaimJoined
import Derived.LaidMore
import Derived.Stop.Joined
set_option linter.unusedVariables false
set_option linter.unnecessarySimpa false
set_option linter.unusedSimpArgs false
namespace Go.Vc
abbrev iN (n:Int):D := .v (.int .i64 n)
abbrev u8N (n:Int):D := .v (.int .u8 n)
abbrev i32N (n:Int):D := .v (.int .i32 n)
abbrev strN (s:ByteArray):D := .v (.string s)
abbrev bN (b:Bool):D := .v (.bool b)
section
variable {α β γ:Type}
def ix (l:List α)(i:Int):Option α:=if 0<=i then l[i.toNat]? else none
def sub (l:List α)(a b:Int):Option (List α):=if 0<=a/\a<=b/\b<=l.length then some ((l.take b.toNat).drop a.toNat) else none
def app (s:Nat)(l xs:List α):Option (List α):=if (l.length+xs.length)*s<=140737488355328/\l.length+xs.length<=maxLen then some (l++xs) else none
def setx (l:List α)(i:Int)(x:α):Option (List α):=if 0<=i/\i<l.length then some (l.set i.toNat x) else none
def subR (l:List α)(a b:Int):Option (List α):=sub l a b
def ixN (l:List α)(m:Nat):Option α:=l[m]?
def setN (l:List α)(m:Nat)(x:α):Option (List α):=if m<l.length then some (l.set m x) else none
def chkI (n:Nat)(i:Int):Option Unit:=if 0<=i/\i<n then some () else none
def zeL (d:α->D):List α->List D
 | []=>[]
 | x::l=>(d x).cells++zeL d l
def encM {κ ν:Type}(eK:κ->D)(eV:ν->D)(l:List (κ×ν)):List (D×D):=l.map λ p=>(eK p.1,eV p.2)
def za2 {κ ν:Type}[DecidableEq κ](z:ν)(k:κ):List (κ×ν)->ν×Bool
 | []=>(z,false)
 | p::r=>if p.1=k then (p.2,true) else za2 z k r
def setK {κ ν:Type}[DecidableEq κ](k:κ)(v:ν):List (κ×ν)->List (κ×ν)
 | []=>[(k,v)]
 | p::r=>if p.1=k then (k,v)::r else p::setK k v r
def zap (k:β)(g:β->γ):γ:=g k
def strC (l:List UInt8):ByteArray:=⟨l.toArray⟩
def zaz:ByteArray:=⟨#[]⟩
def idxS (s:ByteArray)(i:Int):Option Int:=if 0<=i/\i<s.size then some (zdc s i.toNat) else none
def subS (s:ByteArray)(a b:Int):Option ByteArray:=if 0<=a/\a<=b/\b<=s.size then some (zeC s a.toNat b.toNat) else none
def addS (s t:ByteArray):Option ByteArray:=if s.size+t.size<=maxLen then some (s++t) else none
def lenM {α:Type}(l:List α):Option Nat:=if l.length<=maxLen then some l.length else none
def zgw (s:ByteArray):List Int:=s.data.toList.map λ b=>(b.toNat:Int)
def mkS (bytes:Nat)(z:α)(n n':Int):Option (List α):=if 0<=n/\n<=n'/\n'*bytes<=140737488355328 then some (List.replicate n.toNat z) else none
def mkA (bytes:Nat)(z:α)(n:Int):Option (List α):=if 1<=n/\n*bytes<=140737488355328 then some (List.replicate n.toNat z) else none
def zjg (l q:List α):Option (List α):=if l.length=q.length then some q else none
def chk (b:Bool):Option Unit:=bif b then some () else none
def inB (k:IntKind)(n:Int):Bool:=match n with
 | .ofNat m=>Nat.ble m (match k with
  | .i8=>127 | .i16=>32767 | .i32=>2147483647 | .i64=>9223372036854775807
  | .u8=>255 | .u16=>65535 | .u32=>4294967295 | .u64=>18446744073709551615)
 | .negSucc m=>match k with
  | .i8=>Nat.ble m 127 | .i16=>Nat.ble m 32767 | .i32=>Nat.ble m 2147483647 | .i64=>Nat.ble m 9223372036854775807
  | _=>false
def Wk (k:IntKind)(n:Int):Int:=bif inB k n then n else k.wrap n
abbrev W (n:Int):Int:=Wk .i64 n
def demB [DecidableEq γ](l:List α)(a b:Option γ):Option γ:=if l.isEmpty=true then (if a=b then b else none) else b
theorem zrn {k:IntKind}{n:Int}(h:inB k n=true):k.min<=n/\n<=k.max:=by
 cases n <;> cases k <;> simp only[inB,Bool.false_eq_true] at h <;> (try have h:=zAq h) <;> simp[IntKind.min,IntKind.max,IntKind.signed,IntKind.bits] <;> omega
theorem zxZ (k:IntKind)(n:Int):Wk k n=k.wrap n:=by
 grind [znl,zrn,Wk,inB]
theorem zq {k:IntKind}{n:Int}(h:k.min<=n/\n<=k.max):Wk k n=n:=by rw[zxZ,znl h]
theorem W_of {n:Int}(h : -9223372036854775808<=n)(h':n<=9223372036854775807):W n=n:=zq (by simp[IntKind.min,IntKind.max,IntKind.signed,IntKind.bits];omega)
end
section
variable {α β γ ρ:Type} {r:ρ}
theorem zce {k:IntKind}{e:Int}{K:Int->Prop}(h:K (Wk k e)):∃ c,c=k.wrap e/\K c:=⟨_,zxZ k e,h⟩
theorem zfS {α:Type}{e:α}{K:α->Prop}(h:K e):∃ c,c=e/\K c:=⟨_,rfl,h⟩
theorem zcx {d:α->D}{l:List α}{K:Nat->Prop}(h:K l.length):∃ n:Nat,n=(l.map d).length/\K n:=⟨_,(List.length_map _).symm,h⟩
theorem bind_some {E:Option α}{A:α->Option ρ}(hF:E.bind A=some r):∃ x,E=some x/\A x=some r:=Option.bind_eq_some_iff.1 hF
theorem idx1 {l:List α}{i:Int}{n:Nat}{A:α->Option ρ}{Q:Prop}(hn:n=l.length)(h:∀ x,l[i.toNat]? = some x->A x=some r->Q)(hF:(ix l i).bind A=some r):(0<=i/\i<(n:Int))/\Q:=by
 grind [bind_some,zAm,ix]
theorem idx2 {d:α->D}{l:List α}{j:Nat}{x:α}{K:D->Prop}(hx:l[j]? = some x)(h:K (d x)):∃ e,(l.map d)[j]? = some e/\K e:=⟨d x,by simp[hx],h⟩
theorem idx3 {d:α->D}{l:List α}{j s:Nat}{x:α}{K:D->Prop}(hx:l[j]? = some x)(h:K (d x)):∃ e,(s=s/\(l.map d)[j]? = some e)/\K e:=⟨d x,⟨rfl,by simp[hx]⟩,h⟩
structure SubF (l:List α)(a b:Int)(A:List α->Option ρ)(r:ρ):Prop where
 rng:0<=a/\a<=b/\b<=l.length
 go:A ((l.take b.toNat).drop a.toNat)=some r
theorem zgx {l:List α}{a b:Int}{A:List α->Option ρ}(hF:(sub l a b).bind A=some r):SubF l a b A r:=by
 obtain⟨x,hx,hF⟩:=bind_some hF;unfold sub at hx
 split at hx
 .cases hx;exact⟨by assumption,hF⟩
 .cases hx
theorem zro {l:List α}{a b:Int}{A:List α->Option ρ}(hF:(subR l a b).bind A=some r):SubF l a b A r:=zgx hF
theorem zhK {d:α->D}{l:List α}{a b:Int}{A:List α->Option ρ}{K:List D->Prop}(hF:SubF l a b A r)(h:∀ q,A q=some r->K (q.map d)) :
  (0<=a/\a<=b/\b<=b/\b<=((l.map d).length:Int))/\∃ q,q=((l.map d).take b.toNat).drop a.toNat/\K q:=by
 obtain⟨hc,hF⟩:=hF
 grind [List.map_take,List.map_drop]
theorem znV {d:α->D}{l:List α}{b:Int}{n:Nat}{A:List α->Option ρ}{K:Nat×List D->Prop}(hF:SubF l 0 b A r)(hn:n=l.length)(h:∀ q,A q=some r->K (q.length,q.map d)) :
  (n<=(l.map d).length/\0<=b/\b<=(n:Int))/\∃ q:Nat×List D,(q.1=b.toNat/\q.2=(l.map d).take b.toNat)/\K q:=by
 obtain⟨hc,hF⟩:=hF;refine⟨by simp;omega,(_,_),⟨?_, ?_⟩,h _ hF⟩
 .simp;omega
 .simp
structure AppF (s:Nat)(l xs:List α)(A:List α->Option ρ)(r:ρ):Prop where
 rng:(l.length+xs.length)*s<=140737488355328/\l.length+xs.length<=maxLen
 go:A (l++xs)=some r
theorem zc6 {s:Nat}{l xs:List α}{A:List α->Option ρ}(hF:(app s l xs).bind A=some r):AppF s l xs A r:=by
 obtain⟨x,hx,hF⟩:=bind_some hF;unfold app at hx
 split at hx
 .cases hx;exact⟨by assumption,hF⟩
 .cases hx
theorem zdK {d:α->D}{s:Nat}{xs:List α}{ns:List D}{A:List α->Option ρ}{K:Nat×List D->Prop}(hF:AppF s [] xs A r)(hns:ns=xs.map d)(h:∀ q,A q=some r->K (q.length,q.map d)) :
  (ns.length*s<=140737488355328/\ns.length<=maxLen)/\∃ q:Nat×List D,(q.1=ns.length/\q.2=ns)/\K q:=by
 obtain⟨hc,hF⟩:=hF
 grind
theorem zek {d:α->D}{s n:Nat}{l xs:List α}{ns:List D}{A:List α->Option ρ}{K:Nat×List D->Prop}(hF:AppF s l xs A r)(hn:n=l.length)(hns:ns=xs.map d)(h:∀ q,A q=some r->K (q.length,q.map d)) :
  (n<=(l.map d).length/\(n+ns.length)*s<=140737488355328/\n+ns.length<=maxLen)/\∃ q:Nat×List D,(q.1=n+ns.length/\q.2=(l.map d).take n++ns)/\K q:=by
 obtain⟨hc,hF⟩:=hF
 grind
theorem zdL {d:α->D}{s n:Nat}{l xs:List α}{old ns:List D}{A:List α->Option ρ}{K:Nat×List D->Prop}(hF:AppF s l xs A r)(hold:old=l.map d)(hn:n=l.length)(hns:ns=xs.map d)(h:∀ q,A q=some r->K (q.length,q.map d)) :
  (n<=old.length/\(n+ns.length)*s<=140737488355328/\n+ns.length<=maxLen)/\∃ q:Nat×List D,(q.1=n+ns.length/\q.2=old.take n++ns)/\K q:=by
 subst hold;exact zek hF hn hns h
structure SetF (l:List α)(i:Int)(x:α)(A:List α->Option ρ)(r:ρ):Prop where
 rng:0<=i/\i<l.length
 go:A (l.set i.toNat x)=some r
theorem zbS {l:List α}{i:Int}{x:α}{A:List α->Option ρ}(hF:(setx l i x).bind A=some r):SetF l i x A r:=by
 obtain⟨q,hx,hF⟩:=bind_some hF;unfold setx at hx
 split at hx
 .cases hx;exact⟨by assumption,hF⟩
 .cases hx
theorem zij {d:α->D}{l:List α}{i:Int}{x:α}{X:D}{A:List α->Option ρ}{K:List D->Prop}(hF:SetF l i x A r)(hs:X=d x)(h:∀ q,l.length=q.length->A q=some r->K (q.map d)) :
  ∃ q,q=(l.map d).set i.toNat X/\K q:=by
 refine⟨_,rfl, ?_⟩;rw[hs,<- List.map_set];exact h _ (by simp) hF.go
theorem zrp {κ ν:Type}[DecidableEq κ]{eK:κ->D}{eV:ν->D}(hi:∀ a b,eK a=eK b->a=b){z:ν}{k:κ}:∀ m:List (κ×ν),zhW (eV z) (eK k) (encM eK eV m)=(eV (za2 z k m).1,(za2 z k m).2)
 | []=>rfl
 | p::r=>by
  simp only[encM,List.map_cons,zhW,za2];by_cases h:p.1=k
  .grind
  .rw [if_neg λ he=>h (hi _ _ he),if_neg h]
   exact zrp hi r
theorem zvo {κ ν:Type}[DecidableEq κ]{eK:κ->D}{eV:ν->D}(hi:∀ a b,eK a=eK b->a=b){v:ν}{k:κ}:∀ m:List (κ×ν),setD (eK k) (eV v) (encM eK eV m)=encM eK eV (setK k v m)
 | []=>rfl
 | p::r=>by
  simp only[encM,List.map_cons,setD,setK];by_cases h:p.1=k
  .grind
  .rw [if_neg λ he=>h (hi _ _ he),if_neg h]
   have:=zvo (eV:=eV) hi (k:=k) (v:=v) r
   grind [encM]
theorem zrq {κ ν:Type}{eK:κ->D}{eV:ν->D}{tk:TI}(hk:∀ a,keyD tk (eK a)=true)(m:List (κ×ν)):∀ p,p∈encM eK eV m->keyD tk p.1=true:=by
 intro p hp;obtain⟨q,_,rfl⟩:=List.mem_map.1 hp;exact hk q.1
theorem zik {κ ν:Type}[DecidableEq κ]{eK:κ->D}{eV:ν->D}(hi:∀ a b,eK a=eK b->a=b){tk:TI}{zd d:D}{es:List (D×D)}{z:ν}{k:κ}{m:List (κ×ν)}{B:D×Bool->Prop}{A:ν×Bool->Option ρ}
  (hk:∀ a,keyD tk (eK a)=true) (hz:zd=eV z) (hd:d=eK k) (he:es=encM eK eV m) (h:∀ x,A x=some r->B (eV x.1,x.2)) (hF:(some (za2 z k m)).bind A=some r) :
  (∀ p,p∈es->keyD tk p.1=true)/\∃ q,q=zhW zd d es/\B q:=by
 subst hz hd he;exact⟨zrq hk m,_,rfl,by grind [zrp]⟩
theorem zoO {κ ν:Type}[DecidableEq κ]{eK:κ->D}{eV:ν->D}(hi:∀ a b,eK a=eK b->a=b){tk:TI}{vd d:D}{es:List (D×D)}{v:ν}{k:κ}{m:List (κ×ν)}{B:List (D×D)->Prop}{A:List (κ×ν)->Option ρ}
  (hk:∀ a,keyD tk (eK a)=true) (hv:vd=eV v) (hd:d=eK k) (he:es=encM eK eV m) (h:∀ x,A x=some r->B (encM eK eV x)) (hF:(some (setK k v m)).bind A=some r) :
  (∀ p,p∈es->keyD tk p.1=true)/\∃ q,q=setD d vd es/\B q:=by
 subst hv hd he;exact⟨zrq hk m,_,rfl,by grind [zvo]⟩
theorem zbQ:∀ a b:ByteArray,strN a=strN b->a=b:=by grind
structure IxN (l:List α)(m:Nat)(A:α->Option ρ)(r:ρ):Prop where
 ex:∃ x,l[m]? = some x/\A x=some r
theorem zoP {l:List α}{m:Nat}{A:α->Option ρ}(hF:(ixN l m).bind A=some r):IxN l m A r:=⟨bind_some hF⟩
theorem zrr {e:α}{A:α->Option ρ}{K:α->Prop}(h:∀ x,A x=some r->K x)(hF:(some e).bind A=some r):∃ c,c=e/\K c:=⟨_,rfl,h _ hF⟩
theorem zmc {s:ByteArray}{i:Int}{A:Int->Option ρ}{K:Int->Prop}(h:∀ x,A x=some r->K x)(hF:(idxS s i).bind A=some r):(0<=i/\i<(s.size:Int))/\∃ c,c=zdc s i.toNat/\K c:=by
 obtain⟨x,hx,hA⟩:=bind_some hF;unfold idxS at hx
 split at hx
 .cases hx;exact⟨by assumption,_,rfl,h _ hA⟩
 .cases hx
theorem zmd {s:ByteArray}{a b:Int}{A:ByteArray->Option ρ}{K:ByteArray->Prop}(h:∀ x,A x=some r->K x)(hF:(subS s a b).bind A=some r):(0<=a/\a<=b/\b<=(s.size:Int))/\∃ c,c=zeC s a.toNat b.toNat/\K c:=by
 obtain⟨x,hx,hA⟩:=bind_some hF;unfold subS at hx
 split at hx
 .cases hx;exact⟨by assumption,_,rfl,h _ hA⟩
 .cases hx
theorem zrs {β γ:Type}{dk:β->D}{dv:γ->D}{l:List (β×γ)}{A:Nat->Option ρ}{K:Nat->Prop}(h:∀ x,A x=some r->K x)(hF:(lenM l).bind A=some r):(encM dk dv l).length<=maxLen/\∃ n:Nat,n=(encM dk dv l).length/\K n:=by
 obtain⟨x,hx,hA⟩:=bind_some hF
 have e:(encM dk dv l).length=l.length:=by simp[encM]
 unfold lenM at hx
 grind
theorem zme {s t:ByteArray}{A:ByteArray->Option ρ}{K:ByteArray->Prop}(h:∀ x,A x=some r->K x)(hF:(addS s t).bind A=some r):s.size+t.size<=maxLen/\∃ c,c=s++t/\K c:=by
 obtain⟨x,hx,hA⟩:=bind_some hF;unfold addS at hx
 split at hx
 .cases hx;exact⟨by assumption,_,rfl,h _ hA⟩
 .cases hx
theorem zfT:∀ l:List Int,zdG (l.map u8N)=some (l.map λ n=>UInt8.ofNat n.toNat)
 | []=>rfl
 | n::l=>by simp[zdG,zfT l]
theorem znW {s:ByteArray}{A:List Int->Option ρ}{K:List D->Prop}(h:∀ x,A x=some r->K (x.map u8N))(hF:(some (zgw s)).bind A=some r):∃ q,q=s.data.toList.map (λ b=>D.v (.int .u8 b.toNat))/\K q:=by
 refine⟨_,rfl, ?_⟩
 grind [Function.comp_def,zgw]
theorem zwF {d:α->D}{b:Nat}{z:α}{Z:D}{n n':Int}{A:List α->Option ρ}{K:Nat×List D->Prop}(hz:Z=d z)(h:∀ x,A x=some r->K (x.length,x.map d))(hF:(mkS b z n n').bind A=some r) :
  (0<=n/\n<=n'/\n'*(b:Int)<=140737488355328)/\∃ q:Nat×List D,(q.1=n.toNat/\q.2=List.replicate n.toNat Z)/\K q:=by
 obtain⟨x,hx,hA⟩:=bind_some hF;unfold mkS at hx
 split at hx
 .cases hx;exact⟨by assumption,_,⟨by simp,by simp[hz]⟩,h _ hA⟩
 .cases hx
theorem zwG {d:α->D}{b:Nat}{z:α}{Z:D}{n:Int}{A:List α->Option ρ}{K:Nat×List D->Prop}(hz:Z=d z)(h:∀ x,A x=some r->K (x.length,x.map d))(hF:(mkA b z n).bind A=some r) :
  (1<=n/\n*(b:Int)<=140737488355328)/\∃ q:Nat×List D,(q.1=n.toNat/\q.2=List.replicate n.toNat Z)/\K q:=by
 obtain⟨x,hx,hA⟩:=bind_some hF;unfold mkA at hx
 split at hx
 .cases hx;exact⟨by assumption,_,⟨by simp,by simp[hz]⟩,h _ hA⟩
 .cases hx
theorem zrt {l q:List α}{A:List α->Option ρ}(hF:(zjg l q).bind A=some r):l.length=q.length/\A q=some r:=by
 grind [bind_some,zjg]
theorem zru {n:Nat}{i:Int}{A:Unit->Option ρ}{Q:Prop}(h:A ()=some r->Q)(hF:(chkI n i).bind A=some r):(0<=i/\i<(n:Int))/\Q:=by
 grind [bind_some,chkI]
theorem zrv {n:Nat}{i:Int}{A:Unit->Option ρ}{Q:Prop}(hF:(chkI n i).bind A=some r)(h:A ()=some r->Q):(0<=i/\i<(n:Int))/\Q:=zru h hF
theorem zvp {ti:TI}{K:List D->Prop}(z:Value)(hz:ti.zero.head? = some z)(h:∃ q,zlu ti q/\K q):∃ q,zlu ti q/\K q:=h
theorem zjC {ti:TI}{K:List D->Prop}(q:List D)(hx:zlu ti q)(h:K q):∃ q,zlu ti q/\K q:=⟨q,hx,h⟩
theorem zrw {d:α->D}{l:List α}{m o:Nat}{A:α->Option ρ}{K:D->Prop}(hF:IxN l m A r)(ho:o=m)(h:∀ x,A x=some r->K (d x)):∃ c,(l.map d)[o]? = some c/\K c:=by
 obtain⟨x,hx,hA⟩:=hF.ex
 grind
theorem zhj {d:α->D}{s:Nat}(hd:∀ x,(d x).cells.length=s):∀ l:List α,(zeL d l).length=l.length*s
 | []=>by simp[zeL]
 | x::l=>by simp[zeL,hd,zhj hd l,Nat.add_mul];omega
theorem zjD {d:α->D}{s:Nat}(hd:∀ x,(d x).cells.length=s):∀ (l:List α) (m:Nat) x,l[m]? = some x->∃ t,(zeL d l).drop (m*s)=(d x).cells++t
 | [],m,x,h=>by simp at h
 | y::l,0,x,h=>by simp_all [zeL]
 | y::l,m+1,x,h=>by
  obtain⟨t,ht⟩:=zjD hd l m x (by simpa using h);refine⟨t, ?_⟩
  have:(m+1)*s=s+m*s:=by grind
  rw[this,<- List.drop_drop]
  grind [List.drop_of_length_le,zeL]
theorem zmf {α:Type}:∀ (a b:List α),zeF a.length (a++b)=some a
 | [],b=>rfl
 | x::a,b=>by simp[zeF,zmf a b]
theorem zrx {d:α->D}{l:List α}{m o s:Nat}{A:α->Option ρ}{K:List D->Prop}(hF:IxN l m A r)(hd:∀ x,(d x).cells.length=s)(ho:o=m*s)(h:∀ x,A x=some r->K (d x).cells):∃ cs,zeF s ((zeL d l).drop o)=some cs/\K cs:=by
 obtain⟨x,hx,hA⟩:=hF.ex;subst ho;obtain⟨t,ht⟩:=zjD hd l m x hx
 grind [zmf]
structure SetN (l:List α)(m:Nat)(x:α)(A:List α->Option ρ)(r:ρ):Prop where
 rng:m<l.length
 go:A (l.set m x)=some r
theorem zmg {l:List α}{m:Nat}{x:α}{A:List α->Option ρ}(hF:(setN l m x).bind A=some r):SetN l m x A r:=by
 obtain⟨q,hx,hF⟩:=bind_some hF;unfold setN at hx
 split at hx
 .cases hx;exact⟨by assumption,hF⟩
 .cases hx
theorem zoQ {d:α->D}{l:List α}{m o:Nat}{x:α}{A:List α->Option ρ}{X:D}{b:Bool}{K:List D->Prop}(hF:SetN l m x A r)(ho:o=m)(hX:X=d x)(hb:b=true)(h:∀ q,A q=some r->K (q.map d)) :
  ([X].length=1/\o+[X].length<=(l.map d).length/\b=true)/\∃ q,q=zaL (l.map d) o [X]/\K q:=by
 obtain⟨h1,h2⟩:=hF;subst ho hX hb;refine⟨⟨rfl,by simp;omega,rfl⟩,_,rfl, ?_⟩
 grind [List.map_set,zaL]
theorem zil {α:Type}:∀ (cs a b t:List α),b.length=cs.length->zaL (a++b++t) a.length cs=a++cs++t
 | [],a,b,t,h=>by simp[zaL,List.length_eq_zero_iff.1 h]
 | c::r,a,b,t,h=>by
  cases b with
  | nil=>simp at h
  | cons x b =>
   simp only[zaL]
   have:(a++x::b++t).set a.length c=(a++[c])++b++t:=by simp
   rw[this];have:=zil r (a++[c]) b t (by simpa using h)
   grind
theorem zkw {d:α->D}{s:Nat}(hd:∀ x,(d x).cells.length=s)(x:α):∀ (l:List α) (m:Nat),m<l.length->zaL (zeL d l) (m*s) (d x).cells=zeL d (l.set m x):=by
 have key:∀ (l:List α) (m:Nat) (p:List D),m<l.length->zaL (p++zeL d l) (p.length+m*s) (d x).cells=p++zeL d (l.set m x):=by
  intro l
  induction l with
  | nil=>grind
  | cons y l ih =>
   intro m p h
   cases m with
   | zero =>
    simp only[zeL,List.set_cons_zero,Nat.zero_mul,Nat.add_zero]
    grind [List.append_assoc,zil]
   | succ m =>
    grind [List.length_append,Nat.add_mul,List.append_assoc,zeL,List.length]
 intro l m h;simpa using key l m [] h
theorem zoR {d:α->D}{l:List α}{m o s:Nat}{x:α}{ds:List D}{A:List α->Option ρ}{b:Bool}{K:List D->Prop}(hF:SetN l m x A r)(hd:∀ x,(d x).cells.length=s)(ho:o=m*s)(hX:ds=(d x).cells)(hb:b=true)(h:∀ q,A q=some r->K (zeL d q)) :
  (ds.length=s/\o+ds.length<=(zeL d l).length/\b=true)/\∃ q,q=zaL (zeL d l) o ds/\K q:=by
 obtain⟨h1,h2⟩:=hF;subst ho hX hb;refine⟨⟨hd x, ?_,rfl⟩,_,rfl, ?_⟩
 .rw [hd,zhj hd]
  have:=Nat.mul_le_mul_right s (show m+1<=l.length from h1)
  grind
 grind [zkw]
theorem zoS {b:Bool}{A:Unit->Option ρ}(hF:(chk b).bind A=some r):b=true/\A ()=some r:=by
 obtain⟨x,hx,hF⟩:=bind_some hF;unfold chk at hx
 grind
theorem zim {d:α->D}{l:List α}{n:Nat}{Q:Prop}(hn:n=l.length)(h:Q):n<=(l.map d).length/\Q:=⟨by simp[hn],h⟩
theorem zfU {es:List D}{n:Nat}{K:List D->Prop}(hn:n=es.length)(h:K es):n<=es.length/\∃ q,q=es.take n/\K q :=
 ⟨by omega,_,rfl,by grind⟩
theorem zbc {b:Bool}{A B:Option ρ}{P Q:Prop}(h1:b=true->A=some r->P)(h2:b=false->B=some r->Q)(hF:(bif b then A else B)=some r):(b=true->P)/\(b=false->Q):=by
 grind
theorem zin {b:Bool}{P Q:Prop}(hb:b=true)(h:P):(b=true->P)/\(b=false->Q):=⟨λ _=>h,λ h' => by grind⟩
theorem zhk {b:Bool}{P Q:Prop}(hb:b=false)(h:Q):(b=true->P)/\(b=false->Q):=⟨λ h' => (by grind),λ _=>h⟩
end
theorem PureOK.ex {P:Program}{f:FuncId}{H:Nat->List D->D->Prop}(h:∀ N,PureOK P f (H N)):PureOK P f (λ ds d=>∃ N,H N ds d) :=
 λ w Z vs ds d h1 h2 h3 h5 ⟨N,h4⟩=>h N w Z vs ds d h1 h2 h3 h5 h4
section
variable {c:Ctx} {p nid:Nat} {st:St} {K:Ex->St->Prop} {ρ:Type} {r:ρ}
theorem zjh {t:Nat}{a b:Code}{x:Bool}{A B:Option ρ}(hb:st.e t = .kb x)(h1:x=true->A=some r->vc c p nid a st K)(h2:x=false->B=some r->vc c p nid b st K)(hF:(bif x then A else B)=some r) :
  vc c p nid (.cond (.tmp t) a b) st K:=zj6 hb (zbc h1 h2 hF).1 (zbc h1 h2 hF).2
theorem zfA {t:Nat}{a b:Code}{x:Bool}(hb:st.e t = .kb x)(hx:x=true)(h:vc c p nid a st K):vc c p nid (.cond (.tmp t) a b) st K:=zj6 hb (λ _=>h) λ h' => by grind
theorem zfB {t:Nat}{a b:Code}{x:Bool}(hb:st.e t = .kb x)(hx:x=false)(h:vc c p nid b st K):vc c p nid (.cond (.tmp t) a b) st K:=zj6 hb (λ h' => by grind) λ _=>h
theorem zcM (cs:List Nat){a b:Code}(hn:memB cs (nid*1000+zcf b)=false)(h:vc c p nid a st (Kseq (λ st' => vc c p nid b st' K) K)):vc c p nid (.seq a b) st K := .inl h
theorem zwH {α:Type}{s:Ann}{V:α->List SV}{B:α->List Blk}{I:α->Prop}{st':St}{x:α}(hI:I x)(h1:st.norm s=some st')(h2:st'.cutOk s.keep s.bs (memB s.bs)=true)(h3:vals s.keep st'.e=V x)(h4:blks s.bs st'.m=B x) :
  st.head s λ v bl=>∃ x,I x/\v=V x/\bl=B x:=zqC h1 h2 h3 h4 ⟨x,hI,rfl,rfl⟩
theorem zry {α:Type}{s:Ann}{V:α->List SV}{B:α->List Blk}{I:α->Prop}{μ:α->Nat}{st':St}{x y:α}(hI:I y)(hμ:μ y<μ x)(h1:st.norm s=some st')(h2:st'.cutOk s.keep s.bs (memB s.bs)=true)(h3:vals s.keep st'.e=V y)(h4:blks s.bs st'.m=B y) :
  zgV s V B I μ x K .normal st:=zxM (zqC h1 h2 h3 h4 ⟨y,hI,rfl,rfl,hμ⟩)
def AtH (s:Ann)(st:St)(v:List SV)(b:List Blk):Prop:=∃ st',st.norm s=some st'/\st'.cutOk s.keep s.bs (memB s.bs)=true/\vals s.keep st'.e=v/\blks s.bs st'.m=b
abbrev zrz {α:Type}(s:Ann)(V:α->List SV)(B:α->List Blk)(I:α->Prop)(K:Ex->St->Prop):Ex->St->Prop:=Kseq (λ st' => st'.head s λ v bl=>∃ x,I x/\v=V x/\bl=B x) K
theorem zvq {α:Type}{s:Ann}{V:α->List SV}{B:α->List Blk}{I:α->Prop}{x:α}(hI:I x)(h:AtH s st (V x) (B x)):st.head s λ v bl=>∃ x,I x/\v=V x/\bl=B x:=by
 obtain⟨st',h1,h2,h3,h4⟩:=h;exact zwH hI h1 h2 h3 h4
theorem zx0 {α:Type}{s:Ann}{V:α->List SV}{B:α->List Blk}{I:α->Prop}{x:α}(hI:I x)(h:AtH s st (V x) (B x)):zrz s V B I K .normal st:=zfI (zvq hI h)
theorem kback {α:Type}{s:Ann}{V:α->List SV}{B:α->List Blk}{I:α->Prop}{μ:α->Nat}{x y:α}(hI:I y)(hμ:μ y<μ x)(h:AtH s st (V y) (B y)):zgV s V B I μ x K .normal st:=by
 obtain⟨st',h1,h2,h3,h4⟩:=h;exact zry hI hμ h1 h2 h3 h4
structure Lp (α τ ρ:Type) where
 S:Ann
 V:α->List SV
 B:α->List Blk
 E:α->Option ρ
 V2:α->τ->List SV
 B2:α->τ->List Blk
 le:α->τ
 h1:∀ x,V x=V2 x (le x)
 h2:∀ x,B x=B2 x (le x)
abbrev lpm {α τ ρ:Type}(S:Ann)(E:α->Option ρ)(V:α->τ->List SV)(B:α->τ->List Blk)(le:α->τ):Lp α τ ρ:=⟨S,λ x=>V x (le x),λ x=>B x (le x),E,V,B,le,λ _=>rfl,λ _=>rfl⟩
abbrev lp0 {α ρ:Type}(S:Ann)(V:α->List SV)(B:α->List Blk)(E:α->Option ρ):Lp α Unit ρ:=⟨S,V,B,E,λ x _=>V x,λ x _=>B x,λ _=>(),λ _=>rfl,λ _=>rfl⟩
section
variable {α β τ γ ρ:Type} {r:ρ} {a b:Code}
theorem pr2 {α β:Type}{a b:α}{c d:β}(h:a=b)(h2:c=d):(a,c)=(b,d):=by rw[h,h2]
def Lp.I (L:Lp α τ ρ)(r:ρ)(x:α):Prop:=L.E x=some r
theorem Lp.loop {L:Lp (Nat×β) τ ρ}{x:Nat×β}{e:Option ρ}(he:L.E x=e)(m:τ)(hz:L.S.ok p=true)(h0:AtH L.S st (L.V2 x m) (L.B2 x m))(em:m=L.le x)(hn:∀ y,L.E (0,y)=none)
  (h:∀ n y,L.E (n+1,y)=some r->vc c p nid a (St.mk' L.S (L.V (n+1,y)) (L.B (n+1,y))) (zgV L.S L.V L.B (L.I r) Prod.fst (n+1,y) K)) (hF:e=some r):vc c p nid (.loop a) st K:=by
 subst em;rw[<- L.h1,<- L.h2] at h0;refine zwh L.S L.V L.B (L.I r) Prod.fst hz (zvq (x:=x) (he.trans hF) h0) ?_;rintro⟨_|n,y⟩ hI
 .have hI:L.E (0,y)=some r:=hI
  grind
 .exact h n y hI
theorem Lp.back {L:Lp (Nat×β) τ ρ}{n:Nat}{w y:β}{e:Option ρ}(he:L.E (n,y)=e)(hF:e=some r)(m:τ)(h0:AtH L.S st (L.V2 (n,y) m) (L.B2 (n,y) m))(em:m=L.le (n,y)):zgV L.S L.V L.B (L.I r) Prod.fst (n+1,w) K .normal st:=by
 subst em;rw[<- L.h1,<- L.h2] at h0;exact kback (y:=(n,y)) (he.trans hF) (Nat.lt_succ_self n) h0
theorem Lp.cut (L:Lp α τ ρ){f:γ}{g:γ->Option ρ}(k:Nat)(hn:Nat.beq (nid*1000+zcf b) k=true)(hz:L.S.ok p=true)(h:g f=some r->vc c p nid a st (zrz L.S L.V L.B (L.I r) K))
  (h2:∀ x,L.E x=some r->vc c p nid b (St.mk' L.S (L.V x) (L.B x)) K) (hF:zap f g=some r):vc c p nid (.seq a b) st K :=
 zxL L.S L.V L.B (L.I r) hz (h hF) λ y hy=>h2 y hy
variable {A1 A2 A3 A4 A5 A6 A7 A8 A9 A10 A11 A12 A13 A14 A15 A16:Type} {g:γ->Option ρ}
class IsLp (nl np:Nat) {ρ:Type} (e:Option ρ) {α τ:outParam Type} (L:outParam (Lp α τ ρ)) (x:outParam α):Prop where
 eq:L.E x=e
class IsCut (np:Nat) {γ:Type} (f:γ) {ρ:outParam Type} {α τ:outParam Type} (L:outParam (Lp α τ ρ)) (k:outParam Nat):Prop where
structure CutF (f:γ)(g:γ->Option ρ)(L:Lp α τ ρ)(k:Nat)(r:ρ):Prop where
 h:zap f g=some r
theorem toLp (nl np:Nat){e:Option ρ}{L:Lp α τ ρ}{x:α}[h:IsLp nl np e L x](hF:e=some r):L.E x=some r:=h.eq.trans hF
theorem zel (np:Nat){f:γ}{g:γ->Option ρ}{L:Lp α τ ρ}{k:Nat}[IsCut np f L k](hF:zap f g=some r):CutF f g L k r:=⟨hF⟩
theorem isB {α:Type}{e:Option α}{A:α->Option ρ}(h:e.bind A=some r):e.bind A=some r:=h
theorem isE {L:Lp α τ ρ}{x:α}(h:L.E x=some r):L.E x=some r:=h
theorem Lp.cutI {L:Lp α τ ρ}{f:γ}{g:γ->Option ρ}{k:Nat}(hF:CutF f g L k r)(hn:Nat.beq (nid*1000+zcf b) k=true)(hz:L.S.ok p=true)(h:g f=some r->vc c p nid a st (zrz L.S L.V L.B (L.I r) K))
  (h2:∀ x,L.E x=some r->vc c p nid b (St.mk' L.S (L.V x) (L.B x)) K):vc c p nid (.seq a b) st K:=Lp.cut L k hn hz h h2 hF.h
theorem Lp.headI {L:Lp α τ ρ}{x:α}(hF:L.E x=some r)(m:τ)(h0:AtH L.S st (L.V2 x m) (L.B2 x m))(em:m=L.le x):zrz L.S L.V L.B (L.I r) K .normal st:=by
 subst em;rw[<- L.h1,<- L.h2] at h0;exact zx0 (I:=L.I r) (x:=x) hF h0
theorem Lp.backI {L:Lp (Nat×β) τ ρ}{n:Nat}{w y:β}(hF:L.E (n,y)=some r)(m:τ)(h0:AtH L.S st (L.V2 (n,y) m) (L.B2 (n,y) m))(em:m=L.le (n,y)):zgV L.S L.V L.B (L.I r) Prod.fst (n+1,w) K .normal st:=Lp.back rfl hF m h0 em
theorem Lp.loopI {L:Lp (Nat×β) τ ρ}{x:Nat×β}(hF:L.E x=some r)(m:τ)(hz:L.S.ok p=true)(h0:AtH L.S st (L.V2 x m) (L.B2 x m))(em:m=L.le x)(hn:∀ y,L.E (0,y)=none)
  (h:∀ n y,L.E (n+1,y)=some r->vc c p nid a (St.mk' L.S (L.V (n+1,y)) (L.B (n+1,y))) (zgV L.S L.V L.B (L.I r) Prod.fst (n+1,y) K)):vc c p nid (.loop a) st K:=Lp.loop rfl m hz h0 em hn h hF
theorem Lp.head {L:Lp α τ ρ}{x:α}{e:Option ρ}(he:L.E x=e)(hF:e=some r)(m:τ)(h0:AtH L.S st (L.V2 x m) (L.B2 x m))(em:m=L.le x):zrz L.S L.V L.B (L.I r) K .normal st:=by
 subst em;rw[<- L.h1,<- L.h2] at h0;exact zx0 (I:=L.I r) (x:=x) (he.trans hF) h0
end
theorem chkE {ρ:Type}{e:Option ρ}{r:ρ}(h:e=some r):e=some r:=h
section
variable {c:Ctx} {p nid:Nat} {a b:Code} {st:St} {K:Ex->St->Prop}
theorem zfV (h:vc c p nid (.loop a) st K):vc c p nid (.loop a) st K:=h
theorem zdh (h:vc c p nid (.seq a b) st K):vc c p nid (.seq a b) st K:=h
theorem zfW {α:Type}{s:Ann}{V:α->List SV}{B:α->List Blk}{I:α->Prop}{μ:α->Nat}{x:α}(h:zgV s V B I μ x K .normal st):zgV s V B I μ x K .normal st:=h
theorem zdi {s:Ann}{H:List SV->List Blk->Prop}(h:Kseq (λ st' => st'.head s H) K .normal st):Kseq (λ st' => st'.head s H) K .normal st:=h
end
theorem zcX {S m:List (Nat×Blk)}{ys:List SV}{Q:Prop}(h1:zp9 S m=true)(h2:ys.all SV.notNo=true)(h:Q):zp9 S m=true/\ys.all SV.notNo=true/\Q:=⟨h1,h2,h⟩
theorem zfC {c:Ctx}{ops r':List Oper}{K':St->Prop}{id:Nat}{st:St}(h:zan c ops K' r' id st):zan c ops K' r' id st:=h
theorem zrA {c:Ctx}{ops r':List Oper}{D':List Tr->St->Prop}{tr:List Tr}{id:Nat}{st:St}(h:zal c ops D' r' id tr st):zal c ops D' r' id tr st:=h
theorem zdM {t:Nat}{a b:Code}(h:vc c p nid (.cond (.tmp t) a b) st K):vc c p nid (.cond (.tmp t) a b) st K:=h
theorem notT {b:Bool}(h:b=false):(!b)=true:=by rw[h];rfl
theorem notF {b:Bool}(h:b=true):(!b)=false:=by rw[h];rfl
variable {ops r':List Oper} {K':St->Prop} {id d:Nat} {op:Op} {ty:TypeId} {pos:String} {af:Array Edge} {g:Option (Nat×Bool)} {env:List (Nat×SV)} {mem:List (Nat×Blk)} {D':List Tr->St->Prop} {tr:List Tr} {x:Bool} {A B:Option ρ}
theorem zfX (hg:zaI (St.e ⟨env,mem⟩) ops g=some x)(hx:x=true)(h:∀ Q:Dl->List Loc->Prop,(∀ v l,zan c ops K' r' (id+1) ⟨(d,v)::env,mem⟩->Q ⟨v,[]⟩ l)->(∀ v l k b,zan c ops K' r' (id+1) ⟨(d,v)::env,(k,b)::mem⟩->Q ⟨v,[(k,b)]⟩ l)->(∀ v l w,zan c ops K' r' (id+1) ⟨(d,v)::env,w++mem⟩->Q ⟨v,w⟩ l)->opPg c ⟨some d,op,ty,pos,af,g⟩ id (St.e ⟨env,mem⟩) (St.m ⟨env,mem⟩) [] Q):zan c ops K' (⟨some d,op,ty,pos,af,g⟩::r') id ⟨env,mem⟩ :=
 zgW hg (λ _=>h) λ h' => by grind
theorem zem (hg:zaI (St.e ⟨env,mem⟩) ops g=some x)(hx:x=false)(h:zan c ops K' r' (id+1) ⟨(d, .tup [])::env,mem⟩):zan c ops K' (⟨some d,op,ty,pos,af,g⟩::r') id ⟨env,mem⟩ :=
 zgW hg (λ h' => by grind) λ _=>h
theorem zfY (hg:zaI (St.e ⟨env,mem⟩) ops g=some x)(h:x=true->A=some r->∀ Q:Dl->List Loc->Prop,(∀ v l,zan c ops K' r' (id+1) ⟨(d,v)::env,mem⟩->Q ⟨v,[]⟩ l)->(∀ v l k b,zan c ops K' r' (id+1) ⟨(d,v)::env,(k,b)::mem⟩->Q ⟨v,[(k,b)]⟩ l)->(∀ v l w,zan c ops K' r' (id+1) ⟨(d,v)::env,w++mem⟩->Q ⟨v,w⟩ l)->opPg c ⟨some d,op,ty,pos,af,g⟩ id (St.e ⟨env,mem⟩) (St.m ⟨env,mem⟩) [] Q)(h2:x=false->B=some r->zan c ops K' r' (id+1) ⟨(d, .tup [])::env,mem⟩)(hF:(bif x then A else B)=some r):zan c ops K' (⟨some d,op,ty,pos,af,g⟩::r') id ⟨env,mem⟩ :=
 zgW hg (zbc h h2 hF).1 (zbc h h2 hF).2
theorem zfZ (hg:zaI (St.e ⟨env,mem⟩) ops g=some (!x))(h2:x=true->A=some r->zan c ops K' r' (id+1) ⟨(d, .tup [])::env,mem⟩)(h:x=false->B=some r->∀ Q:Dl->List Loc->Prop,(∀ v l,zan c ops K' r' (id+1) ⟨(d,v)::env,mem⟩->Q ⟨v,[]⟩ l)->(∀ v l k b,zan c ops K' r' (id+1) ⟨(d,v)::env,(k,b)::mem⟩->Q ⟨v,[(k,b)]⟩ l)->(∀ v l w,zan c ops K' r' (id+1) ⟨(d,v)::env,w++mem⟩->Q ⟨v,w⟩ l)->opPg c ⟨some d,op,ty,pos,af,g⟩ id (St.e ⟨env,mem⟩) (St.m ⟨env,mem⟩) [] Q)(hF:(bif x then A else B)=some r):zan c ops K' (⟨some d,op,ty,pos,af,g⟩::r') id ⟨env,mem⟩ :=
 zgW hg (λ h' => (zbc h2 h hF).2 (by grind)) λ h' => (zbc h2 h hF).1 (by grind)
theorem zen (hg:zaI (St.e ⟨env,mem⟩) ops g=some x)(hx:x=true)(h:∀ Q:Dl->List Loc->Prop,(∀ v l,zan c ops K' r' (id+1) ⟨env,mem⟩->Q ⟨v,[]⟩ l)->(∀ v l k b,zan c ops K' r' (id+1) ⟨env,(k,b)::mem⟩->Q ⟨v,[(k,b)]⟩ l)->(∀ v l w,zan c ops K' r' (id+1) ⟨env,w++mem⟩->Q ⟨v,w⟩ l)->opPg c ⟨none,op,ty,pos,af,g⟩ id (St.e ⟨env,mem⟩) (St.m ⟨env,mem⟩) [] Q):zan c ops K' (⟨none,op,ty,pos,af,g⟩::r') id ⟨env,mem⟩ :=
 zfa hg (λ _=>h) λ h' => by grind
theorem zdj (hg:zaI (St.e ⟨env,mem⟩) ops g=some x)(hx:x=false)(h:zan c ops K' r' (id+1) ⟨env,mem⟩):zan c ops K' (⟨none,op,ty,pos,af,g⟩::r') id ⟨env,mem⟩ :=
 zfa hg (λ h' => by grind) λ _=>h
theorem zeo (hg:zaI (St.e ⟨env,mem⟩) ops g=some x)(h:x=true->A=some r->∀ Q:Dl->List Loc->Prop,(∀ v l,zan c ops K' r' (id+1) ⟨env,mem⟩->Q ⟨v,[]⟩ l)->(∀ v l k b,zan c ops K' r' (id+1) ⟨env,(k,b)::mem⟩->Q ⟨v,[(k,b)]⟩ l)->(∀ v l w,zan c ops K' r' (id+1) ⟨env,w++mem⟩->Q ⟨v,w⟩ l)->opPg c ⟨none,op,ty,pos,af,g⟩ id (St.e ⟨env,mem⟩) (St.m ⟨env,mem⟩) [] Q)(h2:x=false->B=some r->zan c ops K' r' (id+1) ⟨env,mem⟩)(hF:(bif x then A else B)=some r):zan c ops K' (⟨none,op,ty,pos,af,g⟩::r') id ⟨env,mem⟩ :=
 zfa hg (zbc h h2 hF).1 (zbc h h2 hF).2
theorem zep (hg:zaI (St.e ⟨env,mem⟩) ops g=some (!x))(h2:x=true->A=some r->zan c ops K' r' (id+1) ⟨env,mem⟩)(h:x=false->B=some r->∀ Q:Dl->List Loc->Prop,(∀ v l,zan c ops K' r' (id+1) ⟨env,mem⟩->Q ⟨v,[]⟩ l)->(∀ v l k b,zan c ops K' r' (id+1) ⟨env,(k,b)::mem⟩->Q ⟨v,[(k,b)]⟩ l)->(∀ v l w,zan c ops K' r' (id+1) ⟨env,w++mem⟩->Q ⟨v,w⟩ l)->opPg c ⟨none,op,ty,pos,af,g⟩ id (St.e ⟨env,mem⟩) (St.m ⟨env,mem⟩) [] Q)(hF:(bif x then A else B)=some r):zan c ops K' (⟨none,op,ty,pos,af,g⟩::r') id ⟨env,mem⟩ :=
 zfa hg (λ h' => (zbc h2 h hF).2 (by grind)) λ h' => (zbc h2 h hF).1 (by grind)
theorem zoT (hg:zaI (St.e ⟨env,mem⟩) ops g=some x)(hx:x=true)(h:∀ Q:Dl->List Loc->Prop,(∀ v l,zal c ops D' r' (id+1) (⟨zaw ops g++l,[.t d]⟩::tr) ⟨(d,v)::env,mem⟩->Q ⟨v,[]⟩ l)->(∀ v l k b,zal c ops D' r' (id+1) (⟨zaw ops g++l,[.t d, .b k]⟩::tr) ⟨(d,v)::env,(k,b)::mem⟩->Q ⟨v,[(k,b)]⟩ l)->(∀ v l w,zal c ops D' r' (id+1) (⟨zaw ops g++l, .t d::w.map λ x=>.b x.1⟩::tr) ⟨(d,v)::env,w++mem⟩->Q ⟨v,w⟩ l)->opPg c ⟨some d,op,ty,pos,af,g⟩ id (St.e ⟨env,mem⟩) (St.m ⟨env,mem⟩) [] Q):zal c ops D' (⟨some d,op,ty,pos,af,g⟩::r') id tr ⟨env,mem⟩ :=
 zfb hg (λ _=>h) λ h' => by grind
theorem zmh (hg:zaI (St.e ⟨env,mem⟩) ops g=some x)(hx:x=false)(h:zal c ops D' r' (id+1) (⟨zaw ops g,[.t d]⟩::tr) ⟨(d, .tup [])::env,mem⟩):zal c ops D' (⟨some d,op,ty,pos,af,g⟩::r') id tr ⟨env,mem⟩ :=
 zfb hg (λ h' => by grind) λ _=>h
theorem zoU (hg:zaI (St.e ⟨env,mem⟩) ops g=some x)(h:x=true->A=some r->∀ Q:Dl->List Loc->Prop,(∀ v l,zal c ops D' r' (id+1) (⟨zaw ops g++l,[.t d]⟩::tr) ⟨(d,v)::env,mem⟩->Q ⟨v,[]⟩ l)->(∀ v l k b,zal c ops D' r' (id+1) (⟨zaw ops g++l,[.t d, .b k]⟩::tr) ⟨(d,v)::env,(k,b)::mem⟩->Q ⟨v,[(k,b)]⟩ l)->(∀ v l w,zal c ops D' r' (id+1) (⟨zaw ops g++l, .t d::w.map λ x=>.b x.1⟩::tr) ⟨(d,v)::env,w++mem⟩->Q ⟨v,w⟩ l)->opPg c ⟨some d,op,ty,pos,af,g⟩ id (St.e ⟨env,mem⟩) (St.m ⟨env,mem⟩) [] Q)(h2:x=false->B=some r->zal c ops D' r' (id+1) (⟨zaw ops g,[.t d]⟩::tr) ⟨(d, .tup [])::env,mem⟩)(hF:(bif x then A else B)=some r):zal c ops D' (⟨some d,op,ty,pos,af,g⟩::r') id tr ⟨env,mem⟩ :=
 zfb hg (zbc h h2 hF).1 (zbc h h2 hF).2
theorem zoV (hg:zaI (St.e ⟨env,mem⟩) ops g=some (!x))(h2:x=true->A=some r->zal c ops D' r' (id+1) (⟨zaw ops g,[.t d]⟩::tr) ⟨(d, .tup [])::env,mem⟩)(h:x=false->B=some r->∀ Q:Dl->List Loc->Prop,(∀ v l,zal c ops D' r' (id+1) (⟨zaw ops g++l,[.t d]⟩::tr) ⟨(d,v)::env,mem⟩->Q ⟨v,[]⟩ l)->(∀ v l k b,zal c ops D' r' (id+1) (⟨zaw ops g++l,[.t d, .b k]⟩::tr) ⟨(d,v)::env,(k,b)::mem⟩->Q ⟨v,[(k,b)]⟩ l)->(∀ v l w,zal c ops D' r' (id+1) (⟨zaw ops g++l, .t d::w.map λ x=>.b x.1⟩::tr) ⟨(d,v)::env,w++mem⟩->Q ⟨v,w⟩ l)->opPg c ⟨some d,op,ty,pos,af,g⟩ id (St.e ⟨env,mem⟩) (St.m ⟨env,mem⟩) [] Q)(hF:(bif x then A else B)=some r):zal c ops D' (⟨some d,op,ty,pos,af,g⟩::r') id tr ⟨env,mem⟩ :=
 zfb hg (λ h' => (zbc h2 h hF).2 (by grind)) λ h' => (zbc h2 h hF).1 (by grind)
theorem zmi (hg:zaI (St.e ⟨env,mem⟩) ops g=some x)(hx:x=true)(h:∀ Q:Dl->List Loc->Prop,(∀ v l,zal c ops D' r' (id+1) (⟨zaw ops g++l,[]⟩::tr) ⟨env,mem⟩->Q ⟨v,[]⟩ l)->(∀ v l k b,zal c ops D' r' (id+1) (⟨zaw ops g++l,[.b k]⟩::tr) ⟨env,(k,b)::mem⟩->Q ⟨v,[(k,b)]⟩ l)->(∀ v l w,zal c ops D' r' (id+1) (⟨zaw ops g++l,w.map λ x=>.b x.1⟩::tr) ⟨env,w++mem⟩->Q ⟨v,w⟩ l)->opPg c ⟨none,op,ty,pos,af,g⟩ id (St.e ⟨env,mem⟩) (St.m ⟨env,mem⟩) [] Q):zal c ops D' (⟨none,op,ty,pos,af,g⟩::r') id tr ⟨env,mem⟩ :=
 zd3 hg (λ _=>h) λ h' => by grind
theorem zjE (hg:zaI (St.e ⟨env,mem⟩) ops g=some x)(hx:x=false)(h:zal c ops D' r' (id+1) (⟨zaw ops g,[]⟩::tr) ⟨env,mem⟩):zal c ops D' (⟨none,op,ty,pos,af,g⟩::r') id tr ⟨env,mem⟩ :=
 zd3 hg (λ h' => by grind) λ _=>h
theorem zmj (hg:zaI (St.e ⟨env,mem⟩) ops g=some x)(h:x=true->A=some r->∀ Q:Dl->List Loc->Prop,(∀ v l,zal c ops D' r' (id+1) (⟨zaw ops g++l,[]⟩::tr) ⟨env,mem⟩->Q ⟨v,[]⟩ l)->(∀ v l k b,zal c ops D' r' (id+1) (⟨zaw ops g++l,[.b k]⟩::tr) ⟨env,(k,b)::mem⟩->Q ⟨v,[(k,b)]⟩ l)->(∀ v l w,zal c ops D' r' (id+1) (⟨zaw ops g++l,w.map λ x=>.b x.1⟩::tr) ⟨env,w++mem⟩->Q ⟨v,w⟩ l)->opPg c ⟨none,op,ty,pos,af,g⟩ id (St.e ⟨env,mem⟩) (St.m ⟨env,mem⟩) [] Q)(h2:x=false->B=some r->zal c ops D' r' (id+1) (⟨zaw ops g,[]⟩::tr) ⟨env,mem⟩)(hF:(bif x then A else B)=some r):zal c ops D' (⟨none,op,ty,pos,af,g⟩::r') id tr ⟨env,mem⟩ :=
 zd3 hg (zbc h h2 hF).1 (zbc h h2 hF).2
theorem zmk (hg:zaI (St.e ⟨env,mem⟩) ops g=some (!x))(h2:x=true->A=some r->zal c ops D' r' (id+1) (⟨zaw ops g,[]⟩::tr) ⟨env,mem⟩)(h:x=false->B=some r->∀ Q:Dl->List Loc->Prop,(∀ v l,zal c ops D' r' (id+1) (⟨zaw ops g++l,[]⟩::tr) ⟨env,mem⟩->Q ⟨v,[]⟩ l)->(∀ v l k b,zal c ops D' r' (id+1) (⟨zaw ops g++l,[.b k]⟩::tr) ⟨env,(k,b)::mem⟩->Q ⟨v,[(k,b)]⟩ l)->(∀ v l w,zal c ops D' r' (id+1) (⟨zaw ops g++l,w.map λ x=>.b x.1⟩::tr) ⟨env,w++mem⟩->Q ⟨v,w⟩ l)->opPg c ⟨none,op,ty,pos,af,g⟩ id (St.e ⟨env,mem⟩) (St.m ⟨env,mem⟩) [] Q)(hF:(bif x then A else B)=some r):zal c ops D' (⟨none,op,ty,pos,af,g⟩::r') id tr ⟨env,mem⟩ :=
 zd3 hg (λ h' => (zbc h2 h hF).2 (by grind)) λ h' => (zbc h2 h hF).1 (by grind)
end
end Go.Vc
namespace Go.Vc
open Go.RowKit
section
variable {P:Program} {fr:Fr} {nt:Nat} {g:Gh} {e:Nat->SV} {m:Nat->Blk} {a:Act} {w:World} {c:Ctx}
def boxPg (fid:Nat)(G:ByteArray->D->Prop)(args:List SV)(id:Nat):Pg:=match args with
 | [.fn f [] [.ptr k 0]]=>when_ (Nat.beq f fid) (Pg.getB k fun
  | .box [.dat (.v (.string s))]=>Pg.ex (λ d:D=>G s d) λ d=>Pg.ret ⟨SV.ofD d,[]⟩
  | _=>Pg.fail)
 | _=>Pg.fail
theorem Local.boxPg {fid:Nat}{G:ByteArray->D->Prop}(xs:List SV)(id:Nat):Local (boxPg fid G xs id):=by
 unfold Vc.boxPg
 split
 .refine Local.when_ (Local.getB λ x=>?_)
  split
  .exact Local.ex λ _=>Local.ret _
  .exact Local.fail
 .exact Local.fail
theorem CallOK.box {f fid:FuncId}{G:ByteArray->D->Prop}(h:∀ (b:Nat) (s:ByteArray) (d:D) (w:World),G s d->Glb P w->s.size<=maxLen->b<w.heap.size->w.cell? ⟨b,0,none⟩=some (.string s) ->
  Calls P f #[.func (.func fid) #[] #[.pointer (some ⟨b,0,none⟩)]] w λ en w' => ∃ v,en = .returned v/\Ext w w'/\Rd (λ b=>w.heap.size<=b/\b<w'.heap.size) w' v d):CallOK P f (boxPg fid G):=by
 intro fr hfr nt g e m a w xs vs id l K hs hp hl hx hb hpg;unfold boxPg at hpg
 split at hpg
 .rename_i f' k
  obtain⟨hf,h1⟩:=zaj hpg;have hf:=zAo hf;subst hf;simp only[Pg.getB,zaq] at h1
  cases hm:m k with
  | box cs =>
   rw[hm] at h1
   have key:∃ s,cs=[.dat (.v (.string s))]/\∃ d,G s d/\K ⟨SV.ofD d,[]⟩ (.b k::l):=by
    match cs,h1 with
    | [.dat (.v (.string s))],h1=>obtain⟨d,hd,hK⟩:=h1;exact⟨s,rfl,d,hd,hK⟩
   obtain⟨s,rfl,d,hG,hK⟩:=key
   match vs,hl with
   | [v],_ =>
   have hv:=hx 0 v _ rfl rfl
   have hv':v = .func (.func f') #[] #[.pointer (some ⟨g.β k,0,none⟩)]:=by
    rcases hv with hv|hv
    .cases hv
    cases hv with
    | @fn _ fs cs _ _ q1 q2 q3 q4 =>
     match fs,q1,cs,q2 with
     | [],_,[u],_ =>
      have:=q4 0 u _ rfl rfl
      cases this;rfl
   subst hv';have hblk:=hs.mem.blk k;rw[hm] at hblk;obtain⟨us,t,r1,r2,r3,_⟩:=hblk
   match us,r2 with
   | [u],_ =>
   obtain⟨r4,r5⟩:=r3 0 u _ rfl rfl
   have hu:u = .string s/\s.size<=maxLen:=by
    cases r5 with
    | dat h=>cases h with|v hp=>exact⟨rfl,hp⟩
   obtain⟨rfl,hsz⟩:=hu;have hlt:g.β k<w.heap.size:=(Array.getElem?_eq_some_iff.1 r1).1;refine(h (g.β k) s d w hG (hs.glb hfr) hsz hlt (by simp[World.cell?,r1])).mono λ en w' ⟨v,he,hw,hr⟩=>?_;exact⟨v,⟨SV.ofD d,[]⟩,_,_,he,hK,hs.grow hw,zcg (hr.mono (λ b hb=>.inr hb) λ _ _=>rfl),by rw[zch];simp⟩
  | _=>rw[hm] at h1;exact h1.elim
 .exact hpg.elim
def Pg.frzs:List SV->(List SV->List (Nat×Blk)->Pg)->Pg
 | [],k=>k [] []
 | x::l,k=>match x with
  | .rs b n=>Pg.data1 0 (.rs b n) λ d ws=>Pg.frzs l λ xs ws' => k (.dat d::xs) (ws++ws')
  | x=>Pg.frzs l λ xs ws=>k (x::xs) ws
def frzK (ws:List (Nat×Blk))(K:Dl->List Loc->Prop):Dl->List Loc->Prop:=λ δ l' => K ⟨δ.val,δ.wr++ws⟩ l'
def frzPg (pg:List SV->Nat->Pg)(args:List SV)(id:Nat):Pg :=
 Pg.frzs args λ xs ws=>λ e m l K=>pg xs id e (mApp ws m) l (frzK ws K)
theorem zio {r s:List (Nat×Blk)}{m:Nat->Blk}:mApp (r++s) m=mApp r (mApp s m):=by
 induction r with
 | nil=>rfl
 | cons p r ih=>obtain⟨k,b⟩:=p;funext t;simp only[List.cons_append,zaa,ih]
theorem zqa {l0:List Loc}{K:Dl->List Loc->Prop}{xs:List SV}:∀ {g:Gh} {m1:Nat->Blk} {vs:List Value} {k:List SV->List (Nat×Blk)->Pg} {l:List Loc},SR fr nt g e m1 a w->Inv m m1->xs.length=vs.length ->
  (∀ (i:Nat) v x,vs[i]? = some v->xs[i]? = some x->DenO g w v x)->(∀ x,x∈xs->∀ k,k∈x.ids->m k ≠ .unborn)->Pg.frzs xs k e m l K ->
  ∃ ys ws l' g',SR fr nt g' e (mApp ws m1) a w/\WsOK m ws/\Same g g'/\ys.length=vs.length/\(∀ (i:Nat) v y,vs[i]? = some v->ys[i]? = some y->DenO g' w v y)/\(∀ y,y∈ys->∀ k,k∈y.ids->m k ≠ .unborn)/\k ys ws e m l' K:=by
 induction xs with
 | nil =>
  intro g m1 vs k l hs hi hl hx hb h
  cases vs with
  | nil=>exact⟨[],[],l,g,hs,(by intro p hp;cases hp),Same.refl g,rfl,by simp,by simp,h⟩
  | cons=>simp at hl
 | cons x xs ih =>
  intro g m1 vs k l hs hi hl hx hb h
  cases vs with
  | nil=>simp at hl
  | cons v vs =>
   have other:Pg.frzs xs (λ xs ws=>k (x::xs) ws) e m l K->∃ ys ws l' g',SR fr nt g' e (mApp ws m1) a w/\WsOK m ws/\Same g g'/\ys.length=(v::vs).length/\(∀ (i:Nat) v' y,(v::vs)[i]? = some v'->ys[i]? = some y->DenO g' w v' y)/\(∀ y,y∈ys->∀ k,k∈y.ids->m k ≠ .unborn)/\k ys ws e m l' K:=λ h=>by
    obtain⟨ys,ws,l',g',hs',hw,hsame,hl',hd,hb',h'⟩:=ih (vs:=vs) hs hi (by simpa using hl) (λ i v x hv hx' => hx (i+1) v x (by simpa using hv) (by simpa using hx')) (λ x hx=>hb x (by simp[hx])) h;refine⟨x::ys,ws,l',g',hs',hw,hsame,by simp[hl'],λ i v' y hv hy=>?_,λ y hy=>?_,h'⟩
    .cases i with
     | zero=>simp at hv hy;subst hv hy;exact hsame.den (hx 0 v x rfl rfl)
     | succ i=>grind
    grind
   cases x with
   | rs b n =>
    simp only[Pg.frzs] at h;obtain⟨d,w1,l1,g1,hs1,hw1,hsame,hr,h1⟩:=zfN hs hi (hx 0 v _ rfl rfl) h
    have hi1:Inv m (mApp w1 m1):=by
     intro q;by_cases hq:∃ p,p∈w1/\p.1=q
     .grind [zcw]
     .rw [(zcw hw1 q).2 hq];exact hi q
    obtain⟨ys,w2,l2,g2,hs2,hw2,hsame2,hl2,hd,hb',h2⟩:=ih (vs:=vs) hs1 hi1 (by simpa using hl) (λ i v x hv hx' => hsame.den (hx (i+1) v x (by simpa using hv) (by simpa using hx'))) (λ x hx=>hb x (by simp[hx])) h1;refine⟨.dat d::ys,w1++w2,l2,g2,by grind [zdJ],λ p hp=>(List.mem_append.1 hp).elim (hw1 p) (hw2 p),hsame.trans hsame2,by simp[hl2],λ i v' y hv hy=>?_,λ y hy=>?_,h2⟩
    .cases i with
     | zero=>simp at hv hy;subst hv hy;exact .inr (.dat (hr.mono hsame2.1 λ _ _=>rfl))
     | succ i=>grind
    grind [SV.ids]
   | _=>exact other h
theorem CallOK.frz {f:FuncId}{pg:List SV->Nat->Pg}(h:CallOK P f pg):CallOK P f (frzPg pg):=by
 intro fr hfr nt g e m a w xs vs id l K hs hp hl hx hb hpg;obtain⟨ys,ws,l',g',hs',hw,hsame,hl',hd,hb',h'⟩:=zqa (l0:=l) hs (λ k=>.inl rfl) hl hx hb hpg
 have hbn:∀ k,m k ≠ .unborn->mApp ws m k ≠ .unborn:=by
  intro k hk;by_cases hq:∃ p,p∈ws/\p.1=k
  .rw [(zcw hw k).1 hq]
   obtain⟨p,hp,rfl⟩:=hq
   rcases(hw p hp).2 with ⟨t,s,es,hm⟩|⟨t,t',s,ls,hm⟩ <;> rw[hm] <;> simp[fzOf]
  .grind [zcw]
 refine(h fr hfr nt g' e (mApp ws m) a w ys vs id l' _ hs' hp hl' hd (λ y hy k hk=>hbn k (hb' y hy k hk)) h').mono λ en w' hh=>?_;obtain⟨v,δ,l2,g2,he,hK,hs2,hd2,hb2⟩:=hh;exact⟨v,⟨δ.val,δ.wr++ws⟩,l2,g2,he,hK,by rw[zio];exact hs2,hd2,λ k hk=>by rw[zio];exact hb2 k hk⟩
theorem zml {F:Nat->Prop}{v:Value}{s:ByteArray}(h:Rd F w v (strN s)):v = .string s/\s.size<=maxLen:=by
 cases h with|v hp=>exact⟨rfl,hp⟩
theorem zx1 {F:Nat->Prop}{vs:List Value}{x:D}(hl:vs.length=[x].length)(h:∀ (i:Nat) v d,vs[i]? = some v->[x][i]? = some d->Rd F w v d):∃ v,vs=[v]/\Rd F w v x:=by
 match vs,hl with
 | [v],_=>exact⟨v,rfl,h 0 v x rfl rfl⟩
theorem zrB {F:Nat->Prop}{vs:List Value}{x y:D}(hl:vs.length=[x,y].length)(h:∀ (i:Nat) v d,vs[i]? = some v->[x,y][i]? = some d->Rd F w v d):∃ v u,vs=[v,u]/\Rd F w v x/\Rd F w u y:=by
 match vs,hl with
 | [v,u],_=>exact⟨v,u,rfl,h 0 v x rfl rfl,h 1 u y rfl rfl⟩
theorem zmm {f:FuncId}{G:List D->D->Prop}(R:ByteArray->ByteArray->Value)(H:ByteArray->ByteArray->Prop)(hG:∀ ds d,G ds d->∃ a b,ds=[strN a,strN b]/\d = .v (R a b)/\H a b)
  (h:∀ a b w,Glb P w->a.size<=maxLen->b.size<=maxLen->H a b->pl (R a b)/\Calls P f #[.string a, .string b] w λ e w' => e = .returned (R a b)/\w'=w):PureOK P f G:=by
 intro w Z vs ds d hZ hl hr hg hGd;obtain⟨a,b,rfl,rfl,hH⟩:=hG ds d hGd;obtain⟨v,u,rfl,h1,h2⟩:=zrB hl hr;obtain⟨rfl,l1⟩:=zml h1;obtain⟨rfl,l2⟩:=zml h2;obtain⟨hp,hc⟩:=h a b w hg l1 l2 hH;refine hc.mono ?_;rintro e w' ⟨rfl,rfl⟩;exact⟨_,rfl,Ext.refl w', .v hp⟩
theorem zwI (hg:Glb P w){b:Nat}(hs:∀ w:World,w.ShapedOpen P->∃ n,w.cell? ⟨b,0,none⟩=some (.int .i64 n)):∃ n,w.cell? ⟨b,0,none⟩=some (.int .i64 n):=by
 obtain⟨o,ho,n,hn⟩:=hg b (λ o=>∃ n,∀ w:World,w.heap[b]? = some o->w.cell? ⟨b,0,none⟩=some (.int .i64 n)) (λ w' hw' _=>by
  obtain⟨n,hn⟩:=hs w' hw'
  cases ho:w'.heap[b]? with
  | none=>simp[World.cell?,ho] at hn
  | some o=>exact⟨o,rfl,n,λ w hw=>by grind [Go.World.cell?.eq_1]⟩)
 grind
theorem zx2 {t:TypeId}{v:Value}{n:Nat}{xs:List Value}{b0:Nat}(h:w.ownsRow b0 t 1 v n xs)(hp:∀ x,x∈xs->pl x/\x.oneCell'=true):Rd (λ b=>b0<=b/\b<w.heap.size) w v (.sl 1 (xs.map D.v)):=by
 obtain⟨hl,h|⟨gg,cap,cur,rfl,h1,h2,h3,h4,h5,h6⟩⟩:=h
 .obtain ⟨rfl,rfl⟩:=h
  have:xs=[]:=List.eq_nil_of_length_eq_zero (by simpa using hl);subst this;exact .nil (by simp[maxLen])
 .have hlt:gg<w.heap.size:=(Array.getElem?_eq_some_iff.1 h2).1
  have at_:∀ (i:Nat) (x:Value),xs[i]? = some x->cur[i]? = some x:=by grind
  refine .sl (λ i _=>(xs[i]?).getD undef) (by grind) h3 h4 ⟨h1,hlt⟩ ?_ ?_ ?_ ?_
  .intro e he
   obtain⟨x,hx,rfl⟩:=List.mem_map.1 he;rfl
  all_goals
   intro i j e d he hd;rw[List.getElem?_map] at he
   cases hx:xs[i]? with
   | none=>grind
   | some x =>
    rw[hx] at he;cases he
    have hj:j=0/\d = .v x:=by
     have hd:[D.v x][j]? = some d:=hd
     cases j with
     | zero=>grind
     | succ j=>simp at hd
    obtain⟨rfl,rfl⟩:=hj;have hm:=hp x (zAp hx)
    first
    | exact .v hm.1
    | exact hm.2
    | (have:=at_ i x hx;simp[World.cell?,h2,this])
end
end Go.Vc
namespace Go.Vc
open Go.RowKit
inductive Ty where
 | int (k:IntKind)
 | bool
 | str
 | slice (e:Ty) (agg:Bool) (n:Nat)
 | comp (l:List Ty)
mutual
def Ty.okB (P:Program):Ty->TypeId->Bool
 | .int k,t=>match P.underlying t with
  | some (.int k')=>Nat.beq (kidx k') (kidx k)
  | _=>false
 | .bool,t=>match P.underlying t with
  | some .bool=>true
  | _=>false
 | .str,t=>match P.underlying t with
  | some .string=>true
  | _=>false
 | .slice e agg n,t=>match P.underlying t with
  | some (.slice e')=>Nat.beq (P.cellsOf e') n&&Nat.ble 1 n&&(bif agg then true else Nat.beq n 1)&&e.okB P e'
  | _=>false
 | .comp l,t=>match P.underlying t with
  | some (.struct fs)=>Ty.okF P l fs.toList 0 (P.cellsOf t)
  | some (.array n e)=>Nat.beq l.length n&&Nat.beq (P.cellsOf t) (n*P.cellsOf e)&&Ty.okA P l e
  | _=>false
def Ty.okF (P:Program):List Ty->List Field->Nat->Nat->Bool
 | [],fs,n,tot=>match fs with
  | []=>Nat.beq n tot
  | _=>false
 | τ::l,fs,n,tot=>match fs with
  | f::fs=>Nat.beq f.offset n&&τ.okB P f.type&&Nat.ble (n+P.cellsOf f.type) tot&&Ty.okF P l fs (n+P.cellsOf f.type) tot
  | []=>false
def Ty.okA (P:Program):List Ty->TypeId->Bool
 | [],_=>true
 | τ::l,e=>τ.okB P e&&Ty.okA P l e
end
mutual
def Ty.has:Ty->List D->Prop
 | .int k,ds=>∃ n,ds=[.v (.int k n)]/\k.min<=n/\n<=k.max
 | .bool,ds=>∃ b,ds=[.v (.bool b)]
 | .str,ds=>∃ s,ds=[.v (.string s)]/\s.size<=maxLen
 | .slice e agg n,ds=>∃ es:List (List D),ds=[.sl n (es.map λ cs=>bif agg then .agg cs else cs.headD (.tup []))]/\es.length<=maxLen/\∀ cs,cs∈es->e.has cs
 | .comp l,ds=>Ty.hasL l ds
def Ty.hasL:List Ty->List D->Prop
 | [],ds=>ds=[]
 | t::l,ds=>∃ a b,ds=a++b/\t.has a/\Ty.hasL l b
end
def Ty.hasD:Ty->D->Prop
 | .comp l,x=>∃ cs,x = .agg cs/\Ty.hasL l cs
 | τ,x=>τ.has [x]
def Ty.hasAll:List Ty->List D->Prop
 | [],xs=>xs=[]
 | τ::l,xs=>∃ x r,xs=x::r/\τ.hasD x/\Ty.hasAll l r
section
variable {H:Type} {enc:TypeId×Value->H} {P:Program} {w:World} {base:Nat} {sp:Nat->Bool} {hd:Bool}
abbrev Zof (w:World):Nat->Prop:=λ b=>b<w.heap.size
def Cells (w:World)(cs:List Value)(ds:List D):Prop :=
 cs.length=ds.length/\∀ (i:Nat) v x,cs[i]? = some v->ds[i]? = some x->v.oneCell'=true/\Rd (Zof w) w v x
theorem Cells.one {v:Value}{x:D}(h1:v.oneCell'=true)(h2:Rd (Zof w) w v x):Cells w [v] [x]:=⟨rfl,λ i u y hu hy=>by
 grind⟩
theorem Cells.append {a b:List Value}{x y:List D}(h1:Cells w a x)(h2:Cells w b y):Cells w (a++b) (x++y):=by
 refine⟨by simp[h1.1,h2.1],λ i u z hu hz=>?_⟩;by_cases h:i<a.length
 .rw [List.getElem?_append_left h] at hu
  rw[List.getElem?_append_left (by rw[<- h1.1];exact h)] at hz;exact h1.2 i u z hu hz
 .rw [List.getElem?_append_right (by omega)] at hu
  rw[List.getElem?_append_right (by rw[<- h1.1];omega),<- h1.1] at hz;exact h2.2 _ u z hu hz
theorem zuc {α β:Type}{f:α->Option β}:∀ {l:List α} {r:List β},l.mapM f=some r->r.length=l.length/\∀ (i:Nat) a,l[i]? = some a->∃ b,r[i]? = some b/\f a=some b:=by
 intro l
 induction l with
 | nil=>grind
 | cons a l ih =>
  intro r h;rw[List.mapM_cons] at h
  cases ha:f a with
  | none=>grind
  | some b =>
   rw[ha] at h
   cases hl:l.mapM f with
   | none=>grind
   | some r' =>
    grind
theorem zgy {a:Addr}{n:Nat}{vs:List Value}(h:w.cells? base a n=some vs):vs.length=n/\∀ i,i<n->∃ v,vs[i]? = some v/\w.cell? (a.add i)=some v:=by
 unfold World.cells? at h
 split at h
 .obtain ⟨h1,h2⟩:=zuc h
  refine⟨by simpa using h1,λ i hi=>?_⟩;obtain⟨b,hb1,hb2⟩:=h2 i i (by simp[hi])
  grind
 .cases h
theorem zrC {a:Addr}{v:Value}(h:w.cell? a=some v):a.spot=none/\a.block<w.heap.size:=by
 unfold World.cell? at h
 split at h
 .rename_i c t f hh
  split at h
  .cases h
  .rename_i hs
   refine⟨by simp_all, ?_⟩
   grind
 .cases h
theorem zwJ {b o i j:Nat}:((⟨b,o,none⟩:Addr).add i).add j=⟨b,o+i+j,none⟩:=by
 rw[zbq,zbq]
mutual
theorem zkx (τ:Ty):∀ (t:TypeId) (fuel:Nat) (cs:List Value) (d:DataW H) (ps:List MemPlace),τ.okB P t=true->DataW.trod enc P w base sp hd fuel t cs=some (d,ps)->∃ ds,τ.has ds/\Cells w cs ds:=by
 intro t fuel cs d ps hok h
 cases fuel with
 | zero=>cases h
 | succ fuel =>
 cases τ with
 | int k =>
  simp only[Ty.okB] at hok
  split at hok
  .rename_i k' hu
   have:=zcO hok;subst this;obtain⟨n,rfl,_,h2⟩:=DataW.trod_int hu h;simp only[Lit.wf,zAr,decide_eq_true_eq] at h2;exact⟨[.v (.int _ n)],by simp only[Ty.has];exact⟨n,rfl,h2⟩,Cells.one rfl (.v h2)⟩
  .cases hok
 | bool =>
  simp only[Ty.okB] at hok
  split at hok
  .rename_i hu
   obtain⟨b,rfl,_⟩:=DataW.trod_bool hu h;exact⟨[.v (.bool b)],by simp only[Ty.has];exact⟨b,rfl⟩,Cells.one rfl (.v trivial)⟩
  .cases hok
 | str =>
  simp only[Ty.okB] at hok
  split at hok
  .rename_i hu
   obtain⟨s,rfl,_,h2⟩:=DataW.trod_string hu h;exact⟨[.v (.string s)],by simp only[Ty.has];exact⟨s,rfl,h2⟩,Cells.one rfl (.v h2)⟩
  .cases hok
 | slice e agg n =>
  simp only[Ty.okB] at hok
  split at hok
  .rename_i e' hu
   simp only[zAr] at hok;obtain⟨⟨⟨hn,hn1⟩,hag⟩,hok⟩:=hok;have hn:=zAo hn;have hn1:=zAq hn1
   rcases DataW.trod_slice hu h with ⟨rfl,_⟩|⟨a,len,cap,elems,rest,m,hf,rfl,_,hb1,hb2,hb3,g1,g2,_⟩
   .exact ⟨[.sl n []],by simp only[Ty.has];exact⟨[],rfl,by simp,by simp⟩,Cells.one rfl (.nil (by simp[maxLen]))⟩
   .have hf:fuel=m:=Nat.succ.inj hf
    subst hf;rw[hn] at g2
    -- each element
    have each:∀ i,i<len->∃ vs ds,w.cells? base (a.add (i*n)) n=some vs/\e.has ds/\Cells w vs ds:=by
     intro i hi;have hb:=g2 i hi;rw[zAn (by omega)] at hb
     cases hc:w.cells? base (a.add (i*n)) n with
     | none=>grind
     | some vs =>
      rw[hc] at hb;obtain⟨ds,hds⟩:=zkx e e' fuel vs elems[i].1 elems[i].2 hok hb
      grind
    by_cases hlen:len=0
    .subst hlen
     exact⟨[.sl n []],by simp only[Ty.has];exact⟨[],rfl,by simp,by simp⟩,Cells.one rfl (.nil hb3)⟩
    .obtain ⟨vs0,ds0,hvs0,_⟩:=each 0 (by omega)
     obtain⟨v0,_,hv0⟩:=(zgy hvs0).2 0 (by omega);have hsp0:=zrC hv0
     have hadd0:((a.add (0*n)).add 0)=a:=by simp[Addr.add]
     rw[hadd0] at hsp0;obtain⟨bl,off,spot⟩:=a;obtain⟨hs1,hs2⟩:=hsp0;simp only at hs1 hs2;subst hs1
     let E:Nat->List D:=λ i=>if h:i<len then (each i h).choose_spec.choose else []
     have hE:∀ i,i<len->∃ vs,w.cells? base ((⟨bl,off,none⟩:Addr).add (i*n)) n=some vs/\e.has (E i)/\Cells w vs (E i):=by grind
     have hEl:∀ i,i<len->(E i).length=n:=by
      intro i hi;obtain⟨vs,h1,_,h3⟩:=hE i hi;rw[<- h3.1,(zgy h1).1]
     let mk:List D->D:=λ cs=>bif agg then .agg cs else cs.headD (.tup [])
     have hmk:∀ i,i<len->(mk (E i)).cells=E i:=by
      intro i hi
      cases agg with
      | true=>rfl
      | false =>
       simp only[cond_false] at hag;have h1:n=1:=zAo hag;have:=hEl i hi;rw[h1] at this;obtain⟨vs,k1,_,k3⟩:=hE i hi
       obtain⟨x,hx⟩:∃ x,E i=[x]:=by
        match hh:E i with
        | [x]=>grind
        | []=>grind
        | _::_::_=>grind
       rw[hx] at k3 ⊢;show (D.cells x)=[x];obtain⟨v,hv1,hv2⟩:=(zgy k1).2 0 (by omega);have:=k3.2 0 v x hv1 rfl;have h1c:=this.1;have hr:=this.2
       cases hr with
       | agg=>cases h1c
       | tup=>cases h1c
       | _=>rfl
     have hcell:∀ (i j:Nat) el d,((List.range len).map λ i=>mk (E i))[i]? = some el->el.cells[j]? = some d->i<len/\j<n/\E i=el.cells/\∃ v,w.cell? ⟨bl,off+i*n+j,none⟩=some v/\v.oneCell'=true/\Rd (Zof w) w v d:=by
      intro i j el d he hd
      have hi:i<len:=by grind
      rw[List.getElem?_map,List.getElem?_range hi] at he;simp only[Option.map_some,Option.some.injEq] at he;subst he;rw[hmk i hi] at hd
      have hj:j<n:=by grind
      obtain⟨vs,k1,_,k3⟩:=hE i hi;obtain⟨v,hv1,hv2⟩:=(zgy k1).2 j hj;rw[zwJ] at hv2;exact⟨hi,hj,(hmk i hi).symm,v,hv2,(k3.2 j v d hv1 hd).1,(k3.2 j v d hv1 hd).2⟩
     refine⟨[.sl n ((List.range len).map λ i=>mk (E i))], ?_,Cells.one rfl ?_⟩
     .simp only[Ty.has]
      refine⟨(List.range len).map E,by simp[mk],by simp;omega, ?_⟩
      grind
     .refine .sl (λ i j=>(w.cell? ⟨bl,off+i*n+j,none⟩).getD (.bool false)) (by simp) hb2 hb3 hs2 ?_ ?_ ?_ ?_
      .grind
      .intro i j el d he hd
       obtain⟨_,_,_,v,hv,_⟩:=hcell i j el d he hd;rw[hv];rfl
      .intro i j el d he hd
       obtain⟨_,_,_,v,hv,h1,_⟩:=hcell i j el d he hd
       grind
      .intro i j el d he hd
       obtain⟨_,_,_,v,hv,_,h2⟩:=hcell i j el d he hd
       grind
  .cases hok
 | comp l =>
  simp only[Ty.okB] at hok
  split at hok
  .rename_i fs hu
   unfold DataW.trod at h;rw[hu] at h;simp only at h
   split at h
   .rename_i hlen
    cases hm:fs.toList.mapM λ f=>DataW.trod enc P w base sp hd fuel f.type ((cs.drop f.offset).take (P.cellsOf f.type)) with
    | none=>grind
    | some xs =>
     obtain⟨ds,h1,h2⟩:=zoW l fs.toList 0 (P.cellsOf t) fuel cs xs hok hlen (Nat.zero_le _) hm
     grind [Ty.has]
   .cases h
  .rename_i n e hu
   simp only[zAr] at hok;obtain⟨⟨hl,hsz⟩,hok⟩:=hok;have hl:=zAo hl;have hsz:=zAo hsz;unfold DataW.trod at h;rw[hu] at h;simp only at h
   split at h
   .rename_i hlen
    cases hm:(List.range n).mapM λ i=>DataW.trod enc P w base sp hd fuel e ((cs.drop (i*P.cellsOf e)).take (P.cellsOf e)) with
    | none=>grind
    | some xs =>
     obtain⟨ds,h1,h2⟩:=zoX l e 0 fuel cs xs hok (by grind) (by grind [List.range_eq_range'])
     grind [Ty.has]
   .cases h
  .cases hok
theorem zoW (l:List Ty):∀ (fs:List Field) (n tot fuel:Nat) (cs:List Value) (xs:List (DataW H×List MemPlace)),Ty.okF P l fs n tot=true->cs.length=tot->n<=tot ->
  fs.mapM (λ f=>DataW.trod enc P w base sp hd fuel f.type ((cs.drop f.offset).take (P.cellsOf f.type)))=some xs->∃ ds,Ty.hasL l ds/\Cells w (cs.drop n) ds:=by
 intro fs n tot fuel cs xs hok hlen hn hm
 cases l with
 | nil =>
  simp only[Ty.okF] at hok
  cases fs with
  | nil =>
   have:=zAo hok;exact⟨[],by simp only[Ty.hasL],by rw[List.drop_of_length_le (by omega)];exact⟨rfl,by simp⟩⟩
  | cons=>cases hok
 | cons τ l =>
  simp only[Ty.okF] at hok
  cases fs with
  | nil=>cases hok
  | cons f fs =>
   simp only[zAr] at hok;obtain⟨⟨⟨h1,h2⟩,h3⟩,h4⟩:=hok;have h1:=zAo h1;have h3:=zAq h3;rw[List.mapM_cons] at hm
   cases ha:DataW.trod enc P w base sp hd fuel f.type ((cs.drop f.offset).take (P.cellsOf f.type)) with
   | none=>grind
   | some b =>
    rw[ha] at hm
    cases hm2:fs.mapM λ f=>DataW.trod enc P w base sp hd fuel f.type ((cs.drop f.offset).take (P.cellsOf f.type)) with
    | none=>grind
    | some r =>
     obtain⟨ds1,a1,a2⟩:=zkx τ f.type fuel _ b.1 b.2 h2 ha;obtain⟨ds2,b1,b2⟩:=zoW l fs _ tot fuel cs r h4 hlen h3 hm2;refine⟨ds1++ds2,by simp only[Ty.hasL];grind, ?_⟩;have:=a2.append b2
     grind [List.drop_drop,List.take_append_drop]
theorem zoX (l:List Ty):∀ (e:TypeId) (i fuel:Nat) (cs:List Value) (xs:List (DataW H×List MemPlace)),Ty.okA P l e=true->cs.length=(i+l.length)*P.cellsOf e ->
  (List.range' i l.length).mapM (λ i=>DataW.trod enc P w base sp hd fuel e ((cs.drop (i*P.cellsOf e)).take (P.cellsOf e)))=some xs->∃ ds,Ty.hasL l ds/\Cells w (cs.drop (i*P.cellsOf e)) ds:=by
 intro e i fuel cs xs hok hlen hm
 cases l with
 | nil =>
  refine⟨[],by simp only[Ty.hasL], ?_⟩;rw[List.drop_of_length_le (by grind)];exact⟨rfl,by simp⟩
 | cons τ l =>
  simp only[Ty.okA,zAr] at hok;obtain⟨h2,h4⟩:=hok;simp only[List.length_cons,List.range'_succ] at hm hlen;rw[List.mapM_cons] at hm
  cases ha:DataW.trod enc P w base sp hd fuel e ((cs.drop (i*P.cellsOf e)).take (P.cellsOf e)) with
  | none=>grind
  | some b =>
   rw[ha] at hm
   cases hm2:(List.range' (i+1) l.length).mapM λ i=>DataW.trod enc P w base sp hd fuel e ((cs.drop (i*P.cellsOf e)).take (P.cellsOf e)) with
   | none=>grind
   | some r =>
    obtain⟨ds1,a1,a2⟩:=zkx τ e fuel _ b.1 b.2 h2 ha;obtain⟨ds2,b1,b2⟩:=zoX l e (i+1) fuel cs r h4 (by grind) hm2;refine⟨ds1++ds2,by simp only[Ty.hasL];grind, ?_⟩;have:=a2.append b2;rw[Nat.add_mul,Nat.one_mul,<- List.drop_drop,List.take_append_drop] at this;exact this
end
end
end Go.Vc
namespace Go.Vc
open Go.ChangeShapes Go.WideShapes Go.ChangeAt Go.RowKit
section
variable {H:Type} {enc:TypeId×Value->H} {P:Program} {w:World} {base b2:Nat} {sp:Nat->Bool} {hd:Bool}
theorem zud {τ:Ty}{t:TypeId}{v:Value}{d:DataW H}{p:List MemPlace}(hok:τ.okB P t=true)(hv:Value.okWide P w .any b2 t v)(h:DataW.Trod enc P w base sp hd t v d p):∃ x,τ.hasD x/\Rd (Zof w) w v x:=by
 obtain⟨fuel,h⟩:=h;obtain⟨ds,h1,h2⟩:=zkx τ t fuel _ d p hok h
 have scal:v.cells.toList=[v]->τ.hasD=(λ x=>τ.has [x])->(∃ x,ds=[x])->∃ x,τ.hasD x/\Rd (Zof w) w v x:=by
  rintro hc ht ⟨x,rfl⟩;rw[hc] at h2;exact⟨x,by grind,(h2.2 0 v x rfl rfl).2⟩
 cases τ with
 | int k =>
  simp only[Ty.okB] at hok
  split at hok
  .rename_i k' hu
   obtain⟨n,rfl⟩:=okWide_int hu hv;exact scal rfl (by funext x;rfl) (by simp only[Ty.has] at h1;grind)
  .cases hok
 | bool =>
  simp only[Ty.okB] at hok
  split at hok
  .rename_i hu
   have:∃ b,v = .bool b:=by
    simp only[Value.okWide,hu,Cell.okWide] at hv
    cases v <;> simp_all [Cell.ok]
   obtain⟨b,rfl⟩:=this;exact scal rfl (by funext x;rfl) (by simp only[Ty.has] at h1;grind)
  .cases hok
 | str =>
  simp only[Ty.okB] at hok
  split at hok
  .rename_i hu
   obtain⟨s,rfl⟩:=okWide_string hu hv;exact scal rfl (by funext x;rfl) (by simp only[Ty.has] at h1;grind)
  .cases hok
 | slice e agg n =>
  simp only[Ty.okB] at hok
  split at hok
  .rename_i e' hu
   obtain⟨a,len,cap,rfl⟩:=okWide_slice hu hv;exact scal rfl (by funext x;rfl) (by simp only[Ty.has] at h1;grind)
  .cases hok
 | comp l =>
  have hv':∃ cs,v = .agg cs:=by grind [Ty.okB,Go.Value.okWide]
  obtain⟨cs,rfl⟩:=hv';refine⟨.agg ds,⟨ds,rfl,by grind [Ty.has]⟩, ?_⟩;have hc:(Value.cells (.agg cs)).toList=cs.toList:=rfl;rw[hc] at h2;have:=Rd.agg h2.1 (λ i u d hu hd=>(h2.2 i u d hu hd).1) λ i u d hu hd=>(h2.2 i u d hu hd).2;omega
def zqb (P:Program):List Ty->List TypeId->Bool
 | [],[]=>true
 | τ::l,t::ts=>τ.okB P t&&(P.readableRec t&&Nat.ble (t+1) P.types.size)&&zqb P l ts
 | _,_=>false
theorem zrD:∀ {τs:List Ty} {ts:List TypeId} {vs:List Value} {ds:List (DataW H)} {p:List MemPlace},zqb P τs ts=true->(∀ (j:Nat) t v,ts[j]? = some t->vs[j]? = some v->Value.okWide P w .any b2 t v) ->
  DataW.TrodAll enc P w base sp hd ts vs ds p->∃ xs,Ty.hasAll τs xs/\vs.length=xs.length/\∀ (i:Nat) v x,vs[i]? = some v->xs[i]? = some x->Rd (Zof w) w v x:=by
 intro τs
 induction τs with
 | nil =>
  intro ts vs ds p hok hv h
  cases ts with
  | nil=>cases vs with
   | nil=>exact⟨[],rfl,rfl,by simp⟩
   | cons=>cases ds <;> exact h.elim
  | cons=>cases hok
 | cons τ l ih =>
  intro ts vs ds p hok hv h
  cases ts with
  | nil=>cases hok
  | cons t ts =>
   cases vs with
   | nil=>cases ds <;> exact h.elim
   | cons v vs =>
    cases ds with
    | nil=>exact h.elim
    | cons d ds =>
     obtain⟨p1,q1,h1,h2,_⟩:=h;simp only[zqb,zAr] at hok;obtain⟨x,x1,x2⟩:=zud hok.1.1 (hv 0 t v rfl rfl) h1;obtain⟨xs,y1,y2,y3⟩:=ih hok.2 (λ j t' v' ht hv' => hv (j+1) t' v' (by simpa using ht) (by simpa using hv')) h2;refine⟨x::xs,⟨x,xs,rfl,x1,y1⟩,by simp[y2],λ i u z hu hz=>?_⟩
     grind
theorem zqc (hl:laidOutB P=true){W':World}(hb:Below w.heap.size w W'):∀ {τs:List Ty} {ts:List TypeId} {vs:List Value} {ds:List (DataW H)} {p:List MemPlace},zqb P τs ts=true ->
  DataW.TrodAll enc P w 0 (λ _=>true) true ts vs ds p->(∀ x∈p,x.block<w.heap.size)->DataW.TrodAll enc P W' 0 (λ b=>decide (b<w.heap.size)) true ts vs ds p:=by
 intro τs
 induction τs with
 | nil =>
  intro ts vs ds p hok h hp
  cases ts with
  | nil=>cases vs <;> cases ds <;> first|exact h|exact h.elim
  | cons=>cases hok
 | cons τ l ih =>
  intro ts vs ds p hok h hp
  cases ts with
  | nil=>cases hok
  | cons t ts =>
   cases vs with
   | nil=>cases ds <;> exact h.elim
   | cons v vs =>
    cases ds with
    | nil=>exact h.elim
    | cons d ds =>
     obtain⟨p1,q1,h1,h2,rfl⟩:=h;simp only[zqb,zAr] at hok;exact⟨p1,q1,Below.trod hl hok.1.2.1 (zAq hok.1.2.2) h1 hb λ x hx=>hp x (by simp[hx]),ih hok.2 h2 λ x hx=>hp x (by simp[hx]),rfl⟩
theorem zji:∀ {ts:List TypeId} {vs:List Value} {ds:List (DataW H)} {p:List MemPlace},DataW.TrodAll enc P w base sp hd ts vs ds p->ds.length=ts.length:=by
 intro ts
 induction ts with
 | nil=>intro vs ds p h;cases vs <;> cases ds <;> first|rfl|exact h.elim
 | cons t ts ih =>
  intro vs ds p h
  cases vs with
  | nil=>cases ds <;> exact h.elim
  | cons v vs=>cases ds with
   | nil=>exact h.elim
   | cons d ds=>obtain⟨_,_,_,h2,_⟩:=h;simp[ih h2]
end
end Go.Vc
namespace Go.Vc
open Go.ChangeShapes Go.WideShapes Go.ChangeAt Go.RowKit
section
variable {H:Type} {enc:TypeId×Value->H}
theorem zue {C:Checked}{os:Os}{f:FuncId}{fn:Func}{s:ChangeSpec}{conds:List PathCond}{tb:TypeId}{lst:List (String×DataW Unit)}
  (own:ownKnob C.prog.godebug=none) (started:os.Started) (noInit:C.prog.inits.idxOf? f=none) (hfn:C.prog.funcs[f]? = some fn)
  (witness:∃ (w:World) (tape:Tape) (i:Input),w.os=os/\(w.forCall tape i).Shaped C.prog/\i.vars=[]/\Input.okWide C.prog (w.forCall tape i) .any w.heap.size f i /\
   ((s.pre enc C.prog fn conds false (w.forCall tape i).memory i.args/\laidMetH C.prog lst (w.forCall tape i).memory)/\sizedMet enc C.prog fn (OpenSpec.ofChange s) false (w.forCall tape i).memory i.args)/\Assume.holds {} C.prog (lone (Frame.enter C.prog f i.args .normal) [] (w.forCall tape i)))
  (τs:List Ty) {G:List D->D->Prop} (hP:PureOK C.prog f G) (hl:laidOutB C.prog=true) (hty:zqb C.prog τs fn.params.toList=true) (hvars:s.vars=[]) (hres:fn.resultTypes = #[tb]) (hb:C.prog.underlying tb=some .bool)
  (hfun:∀ ds:List (DataW H),ds.length=fn.params.toList.length->s.fn H ds={ results:=[.lit (.bool true)],args:=ds })
  (hG:∀ xs,Ty.hasAll τs xs->G xs (.v (.bool true))) (hLX:∀ w:World,laidMetH C.prog lst w.memory->LX C.prog w) :
  ReturnsInHanded {} C os f .any (λ w args=>(s.pre enc C.prog fn conds false w args/\laidMetH C.prog lst w)/\sizedMet enc C.prog fn (OpenSpec.ofChange s) false w args) (s.post enc C.prog fn false true false false):=by
 refine returnsInHanded_of_calls own started noInit witness ?_;intro w tape i _ hsh _ hok hpre hholds;obtain⟨_,_,_,fn',hfn',_,_,_,_,hval⟩:=hok;have e:fn'=fn:=Option.some.inj (hfn'.symm.trans hfn);subst e;obtain⟨⟨⟨ds,gs,before,hw,hc⟩,hlm⟩,hz⟩:=hpre;have hlx:=hLX _ hlm;have hW:=DataW.Whole.of_heap (w':=w.forCall tape i) (by rfl) hw
 have key:Calls C.prog f i.args (w.forCall tape i) λ e W' => ∃ v,e = .returned v/\s.post enc C.prog fn' false true false false (w.forCall tape i) i.args v W':=by
  generalize w.forCall tape i=W at *;have hW':=hW;obtain⟨p,q,hA,hV,rfl,hfz,hnd⟩:=hW
  have hgq:gs=[]/\q=[]:=by
   rw[hvars] at hV
   cases gs with
   | nil=>exact⟨rfl,hV⟩
   | cons=>exact hV.elim
  obtain⟨rfl,rfl⟩:=hgq;obtain⟨xs,x1,x2,x3⟩:=zrD (w:=W) hty (λ j t v ht hv=>hval j t v (by simpa using ht) (by simpa using hv)) hA;have hc:=hP W (Zof W) i.args.toList xs (.v (.bool true)) (λ b h=>h) x2 x3 (Glb.of_shaped hsh hlx) (hG xs x1);rw[Array.toArray_toList] at hc;refine hc.mono λ e W' ⟨v,he,hext,hr⟩=>?_
  have hv:v = .bool true:=by cases hr with|v _=>rfl
  subst hv;have hbel:Below W.heap.size W W':=⟨hext.os,hext.tape,hext.output,hext.size,hext.old⟩;have hlt:=hW'.lt
  have hfn2:s.fn H (ds++[])={ results:=[.lit (.bool true)],args:=ds }:=by grind [zji]
  refine⟨_,he,ds,[],p++[],[],p,[],hW', ?_, ?_, ?_,Below.frame hbel _,λ h=>by cases h⟩
  .rw [hfn2,hres]
   exact trodAll_mk1 (shut_bool hb true)
  .grind [zqc]
  .rw [hvars,hfn2];rfl
 refine key.mono λ e W' ⟨v,he,hp⟩=>?_;subst he;exact ChangeSpec.post_blind hp
end
end Go.Vc
namespace Go.Vc
open Go.RowKit
section
variable {κ σ ρ α β:Type}
def zas [DecidableEq κ](k:κ):List (κ×σ)->Option Nat
 | []=>none
 | p::r=>if p.1=k then some 0 else (zas k r).map (· + 1)
def getF (l:List (κ×σ))(i:Nat):Option σ:=(l[i]?).map (·.2)
def setF (l:List (κ×σ))(i:Nat)(x:σ):List (κ×σ):=l.modify i λ p=>(p.1,x)
def insF [DecidableEq κ](k:κ)(x:σ)(l:List (κ×σ)):Option (List (κ×σ)):=match zas k l with
 | none=>some (l++[(k,x)])
 | some _=>none
def encF (eK:κ->D)(eM:σ->List MC)(l:List (κ×σ)):List (D×List MC):=l.map λ p=>(eK p.1,eM p.2)
def onO (o:Option α)(a:Option β)(b:α->Option β):Option β:=match o with
 | none=>a
 | some x=>b x
variable {eK:κ->D} {eM:σ->List MC} {l:List (κ×σ)} {r:ρ} {i o:Nat} {x:σ} {es:List (D×List MC)}
theorem zfn [DecidableEq κ]{k:κ}:zas k l=none ↔ ∀ p,p∈l->p.1≠k:=by
 induction l with
 | nil=>simp[zas]
 | cons p r ih =>
  simp only[zas,List.mem_cons,forall_eq_or_imp];by_cases h:p.1=k
  .simp [h]
  simp_all
theorem zbP [DecidableEq κ]{k:κ}{i:Nat}:zas k l=some i ↔ (∃ x,l[i]? = some (k,x))/\∀ j q,j<i->l[j]? = some q->q.1≠k:=by
 induction l generalizing i with
 | nil=>simp[zas]
 | cons p r ih =>
  simp only[zas];by_cases h:p.1=k
  .subst h
   simp only[if_true,Option.some.injEq];constructor
   .grind
   .rintro ⟨_,h2⟩
    cases i with
    | zero=>rfl
    | succ i=>exact absurd rfl (h2 0 p (Nat.succ_pos _) rfl)
  .simp only[h,if_false,Option.map_eq_some_iff]
   constructor
   .grind
   .rintro ⟨⟨x,hx⟩,h2⟩
    cases i with
    | zero=>grind
    | succ i=>grind
theorem zb1:(encF eK eM l)[i]? = (l[i]?).map λ p=>(eK p.1,eM p.2):=by simp[encF]
theorem za4:getF l i=some x ↔ ∃ k,l[i]? = some (k,x):=by
 grind [getF,GetElem?.getElem?]
theorem zeM {y:σ}(h:getF l i=some x):getF (setF l i y) i=some y:=by
 grind [za4,setF]
theorem zky {tk:TI}(hk:∀ a,keyD tk (eK a)=true):∀ p,p∈encF eK eM l->keyD tk p.1=true:=by
 intro p hp;obtain⟨q,_,rfl⟩:=List.mem_map.1 hp;exact hk _
theorem zrE [DecidableEq κ](hi:∀ a b,eK a=eK b->a=b){k:κ}(h:zas k l=none):∀ p,p∈encF eK eM l->p.1≠eK k:=by
 intro p hp;obtain⟨q,hq,rfl⟩:=List.mem_map.1 hp
 grind [zfn]
theorem zhl [DecidableEq κ](hi:∀ a b,eK a=eK b->a=b){k:κ}{i:Nat}{y:List MC}(h1:(encF eK eM l)[i]? = some (eK k,y))(h2:∀ j q,j<i->(encF eK eM l)[j]? = some q->q.1≠eK k):zas k l=some i:=by
 rw[zb1] at h1
 cases hl:l[i]? with
 | none=>grind
 | some p =>
  rw[hl] at h1;obtain⟨k',x⟩:=p;have h1:(eK k',eM x)=(eK k,y):=Option.some.inj h1;refine zbP.2 ⟨⟨x,by grind⟩,λ j q hj hq e=>h2 j (eK q.1,eM q.2) hj (by rw[zb1,hq];rfl) (by rw[e])⟩
section
variable {P:Program}
def preTake (o:Nat)(pg:List SV->Nat->Pg)(xs:List SV)(id:Nat):Pg:=λ e m lg K=>∃ k i off rest ks es outs e' s' l,xs = .po k i off::rest/\m k = .fam ks es outs/\mcAt es i o=some (.r e' s' l)/\m id = .unborn/\¬ zdr outs i o /\
 pg xs (id+BIG) e (mApp [(id, .row e' s' l),(k, .fam ks es ((i,o,id)::outs))] m) (.b id :: .b k::lg) λ δ l' => K ⟨δ.val,δ.wr++[(id, .row e' s' l),(k, .fam ks es ((i,o,id)::outs))]⟩ l'
theorem zoY (w v:List (Nat×Blk))(m:Nat->Blk):mApp (w++v) m=mApp w (mApp v m):=by
 induction w with
 | nil=>rfl
 | cons x w ih=>obtain⟨k,b⟩:=x;funext q;rw[List.cons_append,zaa,zaa,ih]
theorem Local.preTake {o:Nat}{pg:List SV->Nat->Pg}(h:∀ xs id,Local (pg xs id))(xs:List SV)(id:Nat):Local (preTake o pg xs id):=by
 rintro e m l K ⟨k,i,off,rest,ks,es,outs,e',s',l1,rfl,hm,hx,hid,hno,hh⟩;obtain⟨δ,l',h1,h2,h3⟩:=h _ _ _ _ _ _ hh;refine⟨_,_,h1,λ x hx=>h2 x (by simp[hx]),λ e2 m2 K2 ha hk=>⟨k,i,off,rest,ks,es,outs,e',s',l1,rfl,by rw[ha.2 k (h2 _ (by simp)),hm],hx,by rw[ha.2 id (h2 _ (by simp)),hid],hno, ?_⟩⟩
 exact h3 e2 (mApp [(id, .row e' s' l1),(k, .fam ks es ((i,o,id)::outs))] m2) (λ δ l' => K2 ⟨δ.val,δ.wr++[(id, .row e' s' l1),(k, .fam ks es ((i,o,id)::outs))]⟩ l') ⟨ha.1,λ b hb=>by
  rw[zaa,zaa,zaa,zaa]
  split
  .rfl
  .split
   .rfl
   .exact ha.2 b hb⟩ hk
theorem CallOK.preTake {o:Nat}{f:FuncId}{pg:List SV->Nat->Pg}(h:CallOK P f pg):CallOK P f (preTake o pg):=by
 rintro fr hfr nt g e m a w xs vs id l K hs hid hlx hx hbx ⟨k,i,off,rest,ks,es,outs,e',s',l1,rfl,hm,hxx,hmid,hno,hpg⟩;obtain⟨g',b0,v,_,_,hs',_,hFF,hag⟩:=hs.takeR hm hxx hno ⟨hid,hmid⟩
 have born:∀ q,m q ≠ .unborn->mApp [(id, .row e' s' l1),(k, .fam ks es ((i,o,id)::outs))] m q ≠ .unborn:=by
  intro q hq;rw[zaa,zaa]
  split
  .simp
  .split
   .simp
   .exact hq
 refine(h fr hfr nt g' e _ a w _ vs (id+BIG) _ _ hs' (by omega) hlx (λ j v x hv hxj=>?_) (λ x hxm q hq=>born q (hbx x hxm q hq)) hpg).mono λ en w' hh=>?_
 .rcases hx j v x hv hxj with h1|h1
  .exact .inl h1
  .exact .inr (h1.mono (λ b hb=>by grind) (λ _ _=>rfl) λ q hq=>hag q (hbx x (zAp hxj) q hq))
 .obtain ⟨v',δ,l',g2,h1,h2,h3,h4,h5⟩:=hh
  refine⟨v',_,l',g2,h1,h2, ?_,h4, ?_⟩
  .rw [zoY];exact h3
  .intro q hq;rw[zoY];exact h5 q hq
theorem zoZ {T:Tree (Option TI)}{l:List Ent}{f o:Nat}{pg:List SV->Nat->Pg}(hc:zcP P f)(hp:CallOK P f pg)(hl:∀ xs id,Local (pg xs id))(h:CtxOK P (zam T l)):CtxOK P (zam T ((f,true,preTake o pg)::l)):=zg4 hc (CallOK.preTake hp) (λ _ xs id=>Local.preTake hl xs id) h
end
theorem isO {o:Option Nat}{A:Option ρ}{B:Nat->Option ρ}(h:onO o A B=some r):onO o A B=some r:=h
theorem zmn {A:List (κ×σ)->Option ρ}(h:(some (setF l i x)).bind A=some r):(some (setF l i x)).bind A=some r:=h
theorem zx3 {L:List α}{A:Nat->Option ρ}(h:(lenM L).bind A=some r):(lenM L).bind A=some r:=h
theorem isSm {τ:Type}{e:τ}{A:τ->Option ρ}(h:(some e).bind A=some r):(some e).bind A=some r:=h
theorem isTk {A B:Prop}(h:¬ A/\B):¬ A/\B:=h
theorem isMc {es:List (D×List MC)}{i o:Nat}{K:MC->Prop}(h:∃ y,mcAt es i o=some y/\K y):∃ y,mcAt es i o=some y/\K y:=h
theorem orL {A C:Pg}{e:Nat->SV}{m:Nat->Blk}{l:List Loc}{K:Dl->List Loc->Prop}(h:A e m l K):Pg.or A C e m l K := .inl h
theorem isLF {es:List (D×List MC)}{tk:TI}{Q:Prop}(h:(∀ p,p∈es->keyD tk p.1=true)/\Q):(∀ p,p∈es->keyD tk p.1=true)/\Q:=h
theorem isOP {t:Option Nat}{X:Prop}{Y:Nat->Prop}(h:(t=none->X)/\∀ j,t=some j->Y j):(t=none->X)/\∀ j,t=some j->Y j:=h
theorem isSF {es:List (D×List MC)}{i o:Nat}{y:MC}{K:List (D×List MC)->Prop}(h:∃ q,q=za8 es i o y/\K q):∃ q,q=za8 es i o y/\K q:=h
theorem isPF {n m:Nat}{B:Prop}(h:n=m/\B):n=m/\B:=h
theorem isLd {es:List (D×List MC)}{i:Nat}{K:D×List MC->Prop}(h:∃ p,es[i]? = some p/\K p):∃ p,es[i]? = some p/\K p:=h
theorem exg3 {p:Nat->Nat->Nat->Prop}(h:∃ k i o,p k i o):∃ k i o,p k i o:=h
theorem zaJ {c:Ctx}{ops:List Oper}{K':St->Prop}{id:Nat}{st:St}(h:zan c ops K' [] id st):zan c ops K' [] id st:=h
theorem zfD {c:Ctx}{p nid:Nat}{b:Code}{st:St}{K K':Ex->St->Prop}(h:vc c p nid b st K'):Kseq (λ st' => vc c p nid b st' K') K .normal st:=zfI h
theorem zc9 [DecidableEq κ](hi:∀ a b,eK a=eK b->a=b){tk:TI}{d:D}{key:κ}{X:Prop}{Y:Nat->Prop}{A:Option ρ}{B:Nat->Option ρ}(hk:∀ a,keyD tk (eK a)=true)(hd:d=eK key)(he:es=encF eK eM l)
  (h1:zas key l=none->A=some r->X) (h2:∀ i,zas key l=some i->B i=some r->Y i) (hF:onO (zas key l) A B=some r) :
  (∀ p,p∈es->keyD tk p.1=true)/\(((∀ p,p∈es->p.1≠d)->X)/\∀ i x,es[i]? = some (d,x)->(∀ j q,j<i->es[j]? = some q->q.1≠d)->Y i):=by
 subst hd he;refine⟨zky hk,⟨λ h=>?_,λ i x hx hj=>?_⟩⟩
 .cases hl:zas key l with
  | none=>rw[hl] at hF;exact h1 hl hF
  | some i =>
   obtain⟨⟨x,hx⟩,_⟩:=zbP.1 hl;exact absurd rfl (h (eK key,eM x) (zAp (i:=i) (by rw[zb1,hx];rfl)))
 .have hl:=zhl hi hx hj
  rw[hl] at hF;exact h2 i hl hF
theorem zrF [DecidableEq κ](hi:∀ a b,eK a=eK b->a=b){tk:TI}{d:D}{key:κ}{X:Prop}{Y:Nat->Prop}(hk:∀ a,keyD tk (eK a)=true)(hd:d=eK key)(he:es=encF eK eM l)(h0:zas key l=some i)(h:Y i) :
  (∀ p,p∈es->keyD tk p.1=true)/\(((∀ p,p∈es->p.1≠d)->X)/\∀ i x,es[i]? = some (d,x)->(∀ j q,j<i->es[j]? = some q->q.1≠d)->Y i):=by
 subst hd he;refine⟨zky hk,⟨λ h' => ?_,λ i' x hx hj=>?_⟩⟩
 .obtain ⟨⟨x,hx⟩,_⟩:=zbP.1 h0
  exact absurd rfl (h' (eK key,eM x) (zAp (i:=i) (by rw[zb1,hx];rfl)))
 .have hl:=zhl hi hx hj
  grind
structure GetF (l:List (κ×σ))(i:Nat)(A:σ->Option ρ)(r:ρ):Prop where
 ex:∃ x,getF l i=some x/\A x=some r
theorem ziq {A:σ->Option ρ}(hF:(getF l i).bind A=some r):GetF l i A r:=⟨bind_some hF⟩
theorem zf0 {y:MC}{K:MC->Prop}(he:es=encF eK eM l)(hx:getF l i=some x)(hf:(eM x)[o]? = some y)(h:K y):∃ y,mcAt es i o=some y/\K y:=by
 grind [za4,zb1,mcAt]
theorem zir {t:Option Nat}{X:Prop}{Y:Nat->Prop}{A:Option ρ}{B:Nat->Option ρ}(h1:t=none->A=some r->X)(h2:∀ j,t=some j->B j=some r->Y j)(hF:onO t A B=some r):(t=none->X)/\∀ j,t=some j->Y j:=by
 refine⟨λ h=>h1 h (by rw[h] at hF;exact hF),λ j h=>h2 j h (by rw[h] at hF;exact hF)⟩
theorem zkz {t:Option Nat}{j:Nat}{X:Prop}{Y:Nat->Prop}(h0:t=some j)(h:Y j):(t=none->X)/\∀ j,t=some j->Y j:=by
 grind
theorem zrG {t:Option Nat}{X:Prop}{Y:Nat->Prop}(h0:t=none)(h:X):(t=none->X)/\∀ j,t=some j->Y j:=by
 grind
theorem zfo {y:MC}{x':σ}(hx:getF l i=some x)(hm:eM x'=(eM x).set o y):za8 (encF eK eM l) i o y=encF eK eM (setF l i x'):=by
 obtain⟨k,hk⟩:=za4.1 hx;apply List.ext_getElem?;intro j;simp only[za8,setF,encF,List.getElem?_map,List.getElem?_modify]
 grind
theorem zuf {ys:List MC}{x':σ}{p:D×List MC}(hp:(encF eK eM l)[i]? = some p)(hm:eM x'=ys):(encF eK eM l).set i (p.1,ys)=encF eK eM (setF l i x'):=by
 rw[zb1] at hp
 cases hk:l[i]? with
 | none=>grind
 | some q =>
  rw[hk] at hp
  cases hp
  apply List.ext_getElem?;intro j;simp only[setF,encF,List.getElem?_map,List.getElem?_modify,List.getElem?_set]
  grind
theorem zrH {y:MC}{x':σ}{K:List (D×List MC)->Prop}{A:List (κ×σ)->Option ρ}(hF:(some (setF l i x')).bind A=some r)(hx:getF l i=some x)(he:es=encF eK eM l)(hm:eM x'=(eM x).set o y)
  (h:∀ q,getF q i=some x'->A q=some r->K (encF eK eM q)):∃ q,q=za8 es i o y/\K q:=by
 grind [zfo,zeM]
theorem znX {K:D×List MC->Prop}(he:es=encF eK eM l)(hx:getF l i=some x)(h:∀ d,(encF eK eM l)[i]? = some (d,eM x)->K (d,eM x)):∃ p,es[i]? = some p/\K p:=by
 subst he;obtain⟨k,hk⟩:=za4.1 hx
 have hp:(encF eK eM l)[i]? = some (eK k,eM x):=by rw[zb1,hk];rfl
 grind
theorem zrI {d:D}{ys:List MC}{x':σ}{K:List (D×List MC)->Prop}{A:List (κ×σ)->Option ρ}(hF:(some (setF l i x')).bind A=some r)(hp:(encF eK eM l)[i]? = some (d,eM x))(hx:getF l i=some x)(he:es=encF eK eM l)(hm:eM x'=ys)
  (h:∀ q,getF q i=some x'->A q=some r->K (encF eK eM q)):∃ q,q=es.set i (d,ys)/\K q:=by
 grind [zuf,zeM]
theorem zjF {K:D×List MC->Prop}(he:es=encF eK eM l)(hx:getF l i=some x)(h:∀ k,K (k,eM x)):∃ p,es[i]? = some p/\K p:=by
 subst he;obtain⟨k,hk⟩:=za4.1 hx;exact⟨_,by rw[zb1,hk];rfl,h _⟩
theorem zrJ {A:Nat->Option ρ}{K:Nat->Prop}(he:es=encF eK eM l)(h:∀ x,A x=some r->K x)(hF:(lenM l).bind A=some r):es.length<=maxLen/\∃ n:Nat,n=es.length/\K n:=by
 subst he;obtain⟨x,hx,hA⟩:=bind_some hF
 have e:(encF eK eM l).length=l.length:=by simp[encF]
 unfold lenM at hx
 grind
structure InsF [DecidableEq κ](k:κ)(x:σ)(l:List (κ×σ))(A:List (κ×σ)->Option ρ)(r:ρ):Prop where
 no:zas k l=none
 go:A (l++[(k,x)])=some r
theorem zmo [DecidableEq κ]{k:κ}{A:List (κ×σ)->Option ρ}(hF:(insF k x l).bind A=some r):InsF k x l A r:=by
 obtain⟨q,hq,hA⟩:=bind_some hF;unfold insF at hq
 split at hq
 .cases hq;exact⟨by assumption,hA⟩
 .cases hq
theorem zmp [DecidableEq κ]{k:κ}{tk:TI}{d:D}{n:Nat}{A:List (κ×σ)->Option ρ}{K:List MC->Prop}(hF:InsF k x l A r)(hi:∀ a b,eK a=eK b->a=b)(hk:∀ a,keyD tk (eK a)=true)(hd:d=eK k)(he:es=encF eK eM l)(sh:List MC)(hs:sh.length=n)(h:K sh) :
  ((∀ p,p∈es->keyD tk p.1=true)/\∀ p,p∈es->p.1≠d)/\∃ y:List MC,y.length=n/\K y:=by
 subst hd he;exact⟨⟨zky hk,zrE hi hF.no⟩,sh,hs,h⟩
theorem zrK [DecidableEq κ]{k:κ}{d:D}{cs:List MC}{A:List (κ×σ)->Option ρ}{K:List (D×List MC)->Prop}(hF:InsF k x l A r)(hd:d=eK k)(he:es=encF eK eM l)(hc:cs=eM x)(h:∀ q,getF q l.length=some x->A q=some r->K (encF eK eM q)):∃ q,q=es++[(d,cs)]/\K q:=by
 subst hd he hc;refine⟨_,rfl, ?_⟩
 have:encF eK eM l++[(eK k,eM x)]=encF eK eM (l++[(k,x)]):=by simp[encF]
 grind [za4,InsF.go]
theorem zdk {A:Unit->Option ρ}(hF:(some ()).bind A=some r):A ()=some r:=hF
theorem zqd {z:Nat}{t:List (Nat×Nat×Nat)}:zaV ((i,o,z)::t) i o=some z:=by simp[zaV]
theorem zax:¬ zdr [] i o:=by rintro⟨z,h⟩;cases h
theorem zbj {i' o' z:Nat}{t:List (Nat×Nat×Nat)}(h:o'≠o)(ht:¬ zdr t i o):¬ zdr ((i',o',z)::t) i o:=by
 rintro⟨z',h'⟩
 rcases List.mem_cons.1 h' with h'|h'
 .grind
 .exact ht ⟨z',h'⟩
theorem zrL {δ:α->D}{L L':List α}{K:Nat->Prop}(hl:L'.length=L.length)(h:K L'.length):(L'.map δ).length=(L.map δ).length/\∃ n:Nat,n=(L.map δ).length/\K n:=⟨by simpa using hl,L'.length,by simpa using hl,h⟩
theorem zkA {δ:α->D}{L:List α}{outs:List (Nat×Nat×Nat)}{K:Nat->Prop}(ho:¬ zdr outs i o)(h:K L.length):¬ zdr outs i o/\∃ n:Nat,n=(L.map δ).length/\K n:=⟨ho,L.length,by simp,h⟩
theorem zrM {z:Nat}{t:List (Nat×Nat×Nat)}:(((i,o,z)::t).filter λ x=>!(Nat.beq x.1 i&&Nat.beq x.2.1 o))=t.filter λ x=>!(Nat.beq x.1 i&&Nat.beq x.2.1 o):=by simp
theorem zo0:(([]:List (Nat×Nat×Nat)).filter λ x=>!(Nat.beq x.1 i&&Nat.beq x.2.1 o))=[]:=rfl
theorem zrN {δ:α->D}{L:List α}{n:Nat}{y:MC}{x':σ}{outs t:List (Nat×Nat×Nat)}{K:List (D×List MC)->List (Nat×Nat×Nat)->Prop}{A:List (κ×σ)->Option ρ}(hF:(some (setF l i x')).bind A=some r)(hx:getF l i=some x)(he:es=encF eK eM l)
  (hn:n=L.length) (hm:eM x'=(eM x).set o y) (ht:(outs.filter λ x=>!(Nat.beq x.1 i&&Nat.beq x.2.1 o))=t) (h:∀ q,getF q i=some x'->A q=some r->K (encF eK eM q) t) :
  n=(L.map δ).length/\∃ q,q=za8 es i o y/\∃ t,t=(outs.filter λ x=>!(Nat.beq x.1 i&&Nat.beq x.2.1 o))/\K q t:=by
 subst he;exact⟨by simpa using hn,_,rfl,t,ht.symm,by grind [zfo,zeM]⟩
variable {m:Nat->Blk} {k z:Nat} {ks:List Nat} {t:List (Nat×Nat×Nat)}
theorem zug {δ:α->D}{L:List α}{e:TypeId}{s:Nat}(hm:m k = .fam ks (encF eK eM l) ((i,o,z)::t))(hz:m z = .row e s (L.map δ))(hzk:Nat.beq z k=false)(hno:¬ zdr t i o)(hx:getF l i=some x)(hf:(eM x)[o]? = some (.r e s (L.map δ))):zea k z m ks (encF eK eM l) t:=by
 obtain⟨key,hk⟩:=za4.1 hx
 have hat:mcAt (encF eK eM l) i o=some (.r e s (L.map δ)):=by grind [zb1,mcAt]
 refine⟨_,_,i,o,hm,rfl,hno,(λ e=>by grind), .inl ⟨e,s,_,_,hz,hat,rfl, ?_⟩⟩;rw[zfo hx (x':=x)]
 .apply List.ext_getElem?
  intro j;simp only[encF,setF,List.getElem?_map,List.getElem?_modify]
  grind
 .apply List.ext_getElem?
  grind
theorem settleR {δ:α->D}{L L':List α}{x':σ}{e:TypeId}{s:Nat}(hm:m k = .fam ks (encF eK eM l) ((i,o,z)::t))(hz:m z = .row e s (L'.map δ))(hzk:Nat.beq z k=false)(hno:¬ zdr t i o)(hx:getF l i=some x)(hf:(eM x)[o]? = some (.r e s (L.map δ)))(hl:L'.length=L.length)(hm':eM x'=(eM x).set o (.r e s (L'.map δ))) :
  zea k z m ks (encF eK eM (setF l i x')) t:=by
 obtain⟨key,hk⟩:=za4.1 hx
 have hat:mcAt (encF eK eM l) i o=some (.r e s (L.map δ)):=by grind [zb1,mcAt]
 exact⟨_,_,i,o,hm,rfl,hno,(λ e=>by grind), .inl ⟨e,s,_,_,hz,hat,by simpa using hl,by rw[zfo hx hm']⟩⟩
theorem zuh {es:List (D×D)}(hm:m k = .fam ks (encF eK eM l) ((i,o,z)::t))(hz:m z = .mp es)(hzk:Nat.beq z k=false)(hno:¬ zdr t i o)(hx:getF l i=some x)(hf:(eM x)[o]? = some (.m es)):zea k z m ks (encF eK eM l) t:=by
 obtain⟨key,hk⟩:=za4.1 hx
 have hat:mcAt (encF eK eM l) i o=some (.m es):=by grind [zb1,mcAt]
 refine⟨_,_,i,o,hm,rfl,hno,(λ e=>by grind), .inr ⟨es,es,hz,hat, ?_⟩⟩;rw[zfo hx (x':=x)]
 .apply List.ext_getElem?
  intro j;simp only[encF,setF,List.getElem?_map,List.getElem?_modify]
  grind
 .apply List.ext_getElem?
  grind
theorem settleM {es es':List (D×D)}{x':σ}(hm:m k = .fam ks (encF eK eM l) ((i,o,z)::t))(hz:m z = .mp es')(hzk:Nat.beq z k=false)(hno:¬ zdr t i o)(hx:getF l i=some x)(hf:(eM x)[o]? = some (.m es))(hm':eM x'=(eM x).set o (.m es')) :
  zea k z m ks (encF eK eM (setF l i x')) t:=by
 obtain⟨key,hk⟩:=za4.1 hx
 have hat:mcAt (encF eK eM l) i o=some (.m es):=by grind [zb1,mcAt]
 exact⟨_,_,i,o,hm,rfl,hno,(λ e=>by grind), .inr ⟨_,_,hz,hat,by rw[zfo hx hm']⟩⟩
theorem zvr {c:Ctx}{p nid:Nat}{st:St}{K:Ex->St->Prop}{i:Nat}{ops:List Oper}(z:Nat)(hn:Nat.beq (nid+100*i+99) z=true)(h:vc c p nid (.region i ops.toArray true) st K):vc c p nid (.region i ops.toArray true) st K:=h
theorem gZ {c:Ctx}{ops:List Oper}{K':St->Prop}{id:Nat}{st:St}(k z:Nat)(hm:st.m k = .fam ks es ((i,o,z)::t))(h:zan c ops K' [] id st):zan c ops K' [] id st:=h
theorem zhL {δ:α->D}{L L':List α}{x':σ}{e:TypeId}{s:Nat}{c:Ctx}{ops:List Oper}{K':St->Prop}{id:Nat}{st:St}{A:List (κ×σ)->Option ρ}(k z:Nat)(hF:(some (setF l i x')).bind A=some r)(hm:st.m k = .fam ks (encF eK eM l) ((i,o,z)::t))(hz:st.m z = .row e s (L'.map δ))(hzk:Nat.beq z k=false)(hno:¬ zdr t i o)
  (hx:getF l i=some x) (hf:(eM x)[o]? = some (.r e s (L.map δ))) (hl:L'.length=L.length) (hm':eM x'=(eM x).set o (.r e s (L'.map δ))) (h:∀ q,getF q i=some x'->A q=some r->K' (st.settledF k z ks (encF eK eM q) t)):zan c ops K' [] id st :=
 zhD k z (settleR hm hz hzk hno hx hf hl hm') (h _ (zeM hx) hF)
theorem zeN {δ:α->D}{L:List α}{e:TypeId}{s:Nat}{c:Ctx}{ops:List Oper}{K':St->Prop}{id:Nat}{st:St}(k z:Nat)(hm:st.m k = .fam ks (encF eK eM l) ((i,o,z)::t))(hz:st.m z = .row e s (L.map δ))(hzk:Nat.beq z k=false)(hno:¬ zdr t i o)
  (hx:getF l i=some x) (hf:(eM x)[o]? = some (.r e s (L.map δ))) (h:K' (st.settledF k z ks (encF eK eM l) t)):zan c ops K' [] id st :=
 zhD k z (zug hm hz hzk hno hx hf) h
theorem zo1 {es es':List (D×D)}{x':σ}{c:Ctx}{ops:List Oper}{K':St->Prop}{id:Nat}{st:St}{A:List (κ×σ)->Option ρ}(k z:Nat)(hF:(some (setF l i x')).bind A=some r)(hm:st.m k = .fam ks (encF eK eM l) ((i,o,z)::t))(hz:st.m z = .mp es')(hzk:Nat.beq z k=false)(hno:¬ zdr t i o)
  (hx:getF l i=some x) (hf:(eM x)[o]? = some (.m es)) (hm':eM x'=(eM x).set o (.m es')) (h:∀ q,getF q i=some x'->A q=some r->K' (st.settledF k z ks (encF eK eM q) t)):zan c ops K' [] id st :=
 zhD k z (settleM hm hz hzk hno hx hf hm') (h _ (zeM hx) hF)
theorem zmq {es:List (D×D)}{c:Ctx}{ops:List Oper}{K':St->Prop}{id:Nat}{st:St}(k z:Nat)(hm:st.m k = .fam ks (encF eK eM l) ((i,o,z)::t))(hz:st.m z = .mp es)(hzk:Nat.beq z k=false)(hno:¬ zdr t i o)
  (hx:getF l i=some x) (hf:(eM x)[o]? = some (.m es)) (h:K' (st.settledF k z ks (encF eK eM l) t)):zan c ops K' [] id st :=
 zhD k z (zuh hm hz hzk hno hx hf) h
end
def neN {α:Type}(l:List α):Option Unit:=if l.length=0 then none else some ()
def strB (l:List Int):ByteArray:=⟨(l.map λ n=>UInt8.ofNat n.toNat).toArray⟩
section
variable {ρ α:Type} {r:ρ}
theorem zui {l:List α}{n:Nat}{A:Unit->Option ρ}{Q:Prop}(hn:n=l.length)(h:A ()=some r->Q)(hF:(neN l).bind A=some r):n≠0/\Q:=by
 grind [bind_some,neN]
theorem zuj {l:List Int}{n:Int}{A:Unit->Option ρ}{Q:Prop}(hn:n=(l.length:Int))(h:A ()=some r->Q)(hF:(neN l).bind A=some r):(n=((l.map u8N).length:Int)/\l.map u8N≠[])/\Q:=by
 obtain⟨x,hx,hA⟩:=bind_some hF
 simp_all [congrArg,neN,List.length]
theorem zrO {l:List Int}{A:ByteArray->Option ρ}{K:List UInt8->Prop}{K':ByteArray->Prop}(hK:∀ q,K' ⟨q.toArray⟩->K q)(h:∀ x,A x=some r->K' x)(hF:(some (strB l)).bind A=some r):∃ q,zdG (l.map u8N)=some q/\K q :=
 ⟨_,zfT l,hK _ (h _ hF)⟩
theorem zqe {l:List Int}{A:ByteArray->Option ρ}{K:List UInt8->Prop}(h:∀ x:ByteArray,A x=some r->K x.data.toList)(hF:(some (strB l)).bind A=some r):∃ q,zdG (l.map u8N)=some q/\K q :=
 ⟨_,zfT l,h _ hF⟩
theorem zrP [DecidableEq ρ]{l:List α}{n:Nat}{a b:Option ρ}{P Q:Prop}(hn:n=l.length)(h1:l=[]->a=some r->P)(h2:b=some r->Q)(hF:demB l a b=some r):(n=0->P)/\Q:=by
 grind [List.eq_nil_of_length_eq_zero,demB,absurd]
theorem zrQ {a b:ByteArray}{A:ByteArray->Option ρ}(hF:(addS a b).bind A=some r):True:=trivial
theorem zrR {a:ByteArray}{A:List Int->Option ρ}(hF:(some (zgw a)).bind A=some r):True:=trivial
theorem zwK {a:List Int}{A:ByteArray->Option ρ}(hF:(some (strB a)).bind A=some r):True:=trivial
theorem zvs {a:List α}{A:Unit->Option ρ}(hF:(neN a).bind A=some r):True:=trivial
theorem zrS {a:ByteArray}{i:Int}{A:Int->Option ρ}(hF:(idxS a i).bind A=some r):True:=trivial
theorem zrT {a:ByteArray}{i j:Int}{A:ByteArray->Option ρ}(hF:(subS a i j).bind A=some r):True:=trivial
def arS (n:Nat)(b:Int):Option Unit:=if 0<=b/\b<=n then some () else none
theorem zx4 {n:Nat}{i:Int}{A:Unit->Option ρ}(hF:(arS n i).bind A=some r):True:=trivial
theorem zuk {n:Nat}{b:Int}{A:Unit->Option ρ}{Q:Prop}(hm:n<=maxLen)(h:A ()=some r->Q)(hF:(arS n b).bind A=some r):(0<=b/\b<=n/\n<=maxLen)/\Q:=by
 grind [bind_some,arS]
end
def memK (i:Nat):List (Nat×Blk)->Bool
 | []=>false
 | x::r=>bif Nat.beq x.1 i then true else memK i r
def nubK:List (Nat×Blk)->List (Nat×Blk)->(List (Nat×Blk)->Prop)->Prop
 | [],acc,k=>k acc
 | x::r,acc,k=>bif memK x.1 acc then nubK r acc k else nubK r (x::acc) k
theorem zo2 {j:Nat}:∀ {l:List (Nat×Blk)},memK j l=false->get Blk.unborn l j = .unborn
 | [],_=>rfl
 | (i,b)::r,h=>by
  simp only[memK] at h;simp only[get]
  cases hb:Nat.beq i j with
  | true=>grind
  | false=>rw[hb] at h;exact zo2 h
theorem znY:∀ (r acc:List (Nat×Blk)) (k:List (Nat×Blk)->Prop),nubK r acc k->∃ S,k S/\∀ j,get Blk.unborn S j=bif memK j acc then get Blk.unborn acc j else get Blk.unborn r j
 | [],acc,k,h=>⟨acc,h,λ j=>by
  grind [zo2,memK]⟩
 | (i,b)::r,acc,k,h=>by
  simp only[nubK] at h
  cases hm:memK i acc with
  | true =>
   rw[hm,cond_true] at h;obtain⟨S,h1,h2⟩:=znY r acc k h;refine⟨S,h1,λ j=>?_⟩;rw[h2]
   cases hj:memK j acc with
   | true=>rfl
   | false =>
    simp only[cond_false,get]
    grind [zAo]
  | false =>
   rw[hm,cond_false] at h;obtain⟨S,h1,h2⟩:=znY r ((i,b)::acc) k h
   grind [zAo,memK,get,Nat.beq]
theorem zay {c:Ctx}{fn:Func}{xs:List SV}{id:Nat}{env:List (Nat×SV)}{mem:List (Nat×Blk)}{l:List Loc}{K:Dl->List Loc->Prop}{code:Code}(id0 nid:Nat)(hi:id=id0)(hb:Nat.ble id0 nid=true)(h3:xs.length<=fn.ntmps)
  (hc:fn.body=some code) (h:∀ R:List (Nat×Blk)->Prop,(∀ S,(S.all λ x=>Nat.blt x.1 nid)=true->vc c nid nid code ⟨(List.range xs.length).zip xs,S⟩ (Kinl c fn.results.toList S K l)->R S)->nubK mem [] R) :
  ∃ (S:List (Nat×Blk)) (q nid:Nat),(∀ k,get .unborn S k=St.m ⟨env,mem⟩ k)/\(S.all λ x=>Nat.blt x.1 q)=true/\id<=q/\q<=nid/\xs.length<=fn.ntmps /\
   match fn.body with
   | some code=>vc c q nid code ⟨(List.range xs.length).zip xs,S⟩ (Kinl c fn.results.toList S K l)
   | none=>False:=by
 obtain⟨S,⟨h1,h2⟩,h4⟩:=znY mem [] (λ S=>(S.all λ x=>Nat.blt x.1 nid)=true/\vc c nid nid code ⟨(List.range xs.length).zip xs,S⟩ (Kinl c fn.results.toList S K l)) (h _ λ S a b=>⟨a,b⟩);subst hi;exact⟨S,nid,nid,h4,h1,zAq hb,Nat.le_refl _,h3,by grind⟩
end Go.Vc
namespace Go.Vc
section
variable {α β ρ:Type} {μ:α->List MC} {δ:β->D} {L:List α} {r:ρ}
theorem isSn {es:List (List MC)}{i o:Nat}{K:MC->Prop}(h:∃ y,snAt es i o=some y/\K y):∃ y,snAt es i o=some y/\K y:=h
theorem isSnS {es:List (List MC)}{i o:Nat}{y:MC}{K:List (List MC)->Prop}(h:∃ q,q=zbG es i o y/\K q):∃ q,q=zbG es i o y/\K q:=h
theorem zx5 {n m:Nat}{B Q:Prop}(h:(n=m/\B)/\Q):(n=m/\B)/\Q:=h
theorem zx6 {a b c d:Nat}{Q:Prop}(h:(a=b/\c=d)/\Q):(a=b/\c=d)/\Q:=h
theorem isEx {n:Nat}{P:List MC->Prop}(h:∃ a:List MC,a.length=n/\P a):∃ a:List MC,a.length=n/\P a:=h
theorem zrU {i o:Nat}{x:α}{y:MC}{K:MC->Prop}(hx:L[i]? = some x)(hy:(μ x)[o]? = some y)(h:K y):∃ y,snAt (L.map μ) i o=some y/\K y:=by
 grind [snAt]
theorem zo3 {i o:Nat}{x x':α}{y:MC}(hx:L[i]? = some x)(hm:μ x'=(μ x).set o y):zbG (L.map μ) i o y=(L.set i x').map μ:=by
 obtain⟨hi,rfl⟩:=zAm.1 hx;unfold zbG;apply List.ext_getElem?
 grind
theorem zjG {i:Int}{o:Nat}{x x':α}{y:MC}{A:List α->Option ρ}{K:List (List MC)->Prop}(hF:SetF L i x' A r)(hx:L[i.toNat]? = some x)(hm:μ x'=(μ x).set o y)(h:∀ q,L.length=q.length->A q=some r->K (q.map μ)) :
  ∃ q,q=zbG (L.map μ) i.toNat o y/\K q:=by
 refine⟨_,rfl, ?_⟩;rw[zo3 hx hm];exact h _ (by simp) hF.go
theorem zjH {i:Int}{o n s:Nat}{e:TypeId}{x x':α}{l:List β}{O:Prop}{A:List α->Option ρ}{K:List (List MC)->Prop}(hF:SetF L i x' A r)(hx:L[i.toNat]? = some x)(hn:n=l.length)(ho:O)(hm:μ x'=(μ x).set o (.r e s (l.map δ)))
  (h:∀ q,L.length=q.length->A q=some r->K (q.map μ)):(n=(l.map δ).length/\O)/\∃ q,q=zbG (L.map μ) i.toNat o (.r e s (l.map δ))/\K q :=
 ⟨⟨by simp[hn],ho⟩,zjG hF hx hm h⟩
theorem zeO {c:Ctx}{ops:List Oper}{K':St->Prop}{id:Nat}{st:St}{i:Int}{o s s':Nat}{e e':TypeId}{ea:Bool}{x x':α}{l l0:List β}{A:List α->Option ρ}(k z:Nat)(hF:SetF L i x' A r)
  (hm:st.m k = .sn e s ea (some (i.toNat,o,z)) (L.map μ)) (hz:st.m z = .row e' s' (l.map δ)) (hx:L[i.toNat]? = some x) (hy:(μ x)[o]? = some (.r e' s' (l0.map δ))) (hl:l.length=l0.length) (hm':μ x'=(μ x).set o (.r e' s' (l.map δ)))
  (h:∀ q,L.length=q.length->A q=some r->K' { env:=st.env,mem:=(z, .dead)::(k, .sn e s ea none (q.map μ))::st.mem }):zan c ops K' [] id st:=by
 refine zty k z hm hz (l0:=l0.map δ) (by simp[snAt,hx,hy]) (by simp[hl]) λ q hq=>?_;subst hq;rw[zo3 hx hm'];exact h _ (by simp) hF.go
theorem zqf {s n:Nat}{l xs:List α}{old ns:List (List MC)}{A:List α->Option ρ}{K:Nat×List (List MC)->Prop}(hF:AppF s l xs A r)(hold:old=l.map μ)(hn:n=l.length)(hns:ns=xs.map μ)(h:∀ q,A q=some r->K (q.length,q.map μ)) :
  (n=old.length/\(n+ns.length)*s<=140737488355328/\n+ns.length<=maxLen)/\∃ q:Nat×List (List MC),(q.1=n+ns.length/\q.2=old++ns)/\K q:=by
 subst hold hn hns;obtain⟨hc,hF⟩:=hF
 grind
theorem znZ {s:Nat}{xs:List α}{ns:List (List MC)}{A:List α->Option ρ}{K:Nat×List (List MC)->Prop}(hF:AppF s [] xs A r)(hns:ns=xs.map μ)(h:∀ q,A q=some r->K (q.length,q.map μ)) :
  (ns.length*s<=140737488355328/\ns.length<=maxLen)/\∃ q:Nat×List (List MC),(q.1=ns.length/\q.2=ns)/\K q:=by
 obtain⟨hc,hF⟩:=hF
 grind
theorem zx7 {b:Nat}{z:α}{Z:List MC}{n n':Int}{A:List α->Option ρ}{K:Nat×List (List MC)->Prop}(hz:Z=μ z)(h:∀ x,A x=some r->K (x.length,x.map μ))(hF:(mkS b z n n').bind A=some r) :
  (0<=n/\n<=n'/\n'*(b:Int)<=140737488355328)/\∃ q:Nat×List (List MC),(q.1=n.toNat/\q.2=List.replicate n.toNat Z)/\K q:=by
 obtain⟨x,hx,hA⟩:=bind_some hF;unfold mkS at hx
 split at hx
 .cases hx;exact⟨by assumption,_,⟨by simp,by simp[hz]⟩,h _ hA⟩
 .cases hx
theorem zul {n:Nat}{ns:List (List MC)}{Q:Prop}(hn:n=ns.length)(h:Q):n=ns.length/\Q:=⟨hn,h⟩
theorem zvt {δ:α->D}{s n:Nat}{ea:Bool}{K:List D->Prop}(hd:∀ x,snD ea (μ x)=δ x)(hok:snOK s ea (L.map μ))(hn:n=L.length)(h:K (L.map δ)):(n=(L.map μ).length/\snOK s ea (L.map μ))/\∃ q,q=(L.map μ).map (snD ea)/\K q:=by
 refine⟨⟨by simp[hn],hok⟩,_,rfl, ?_⟩
 have:(L.map μ).map (snD ea)=L.map δ:=by simp[Function.comp_def,hd]
 rw[this];exact h
theorem zx8 {c:Ctx}{p nid:Nat}{st:St}{K:Ex->St->Prop}{id:Nat}{ops:List Oper}{i:Nat}{x:α}{e e':TypeId}{s s':Nat}{ea:Bool}{l:List β}(k z o:Nat)(ht:zlz ops=false)(hm:st.m k = .sn e s ea none (L.map μ))(hx:L[i]? = some x)(hy:(μ x)[o]? = some (.r e' s' (l.map δ)))
  (hp:Nat.ble p z=true) (hz:st.m z = .unborn)
  (h:∀ (K':List Tr->St->Prop) (L':St->Prop),(∀ st',K .normal st'->L' st')->(∀ tr st',zeE ops tr=true->zan c ops L' [] nid st'->K' tr st')->zal c.loc ops K' ops (nid+100*id) [] (st.takenS k z i o e' s' (l.map δ) e s ea (L.map μ))):vc c p nid (.region id ops.toArray true) st K :=
 ztx k z ht ⟨hm,by simp[snAt,hx,hy],hp,hz⟩ h
theorem zrV {i:Int}{A:α->Option ρ}(hF:(ix L i).bind A=some r):∃ x,L[i.toNat]? = some x/\A x=some r:=by
 grind [bind_some,ix]
end
end Go.Vc
namespace Go.Vc
section
variable {α β γ ρ σ:Type}
theorem zaU {l:List α}{i:Nat}:ix l (i:Int)=l[i]? := by simp[ix]
theorem zhm {l:List α}{i:Nat}(h:i<l.length):ix l (i:Int)=some l[i]:=by simp[zaU,h]
theorem zbE {i:Nat}(h:i<9223372036854775807):W ((i:Int)+(1:Int))=((i+1:Nat):Int):=by
 rw[W_of (by omega) (by omega)];rfl
theorem zeP {l:List α}{a b:Nat}(h:a<=b)(h':b<=l.length):sub l (a:Int) (b:Int)=some ((l.take b).drop a):=by
 unfold sub;rw[if_pos ⟨by omega,by omega,by omega⟩];simp
theorem zcp {s:Nat}{l xs:List α}(h:(l.length+xs.length)*s<=140737488355328)(h':l.length+xs.length<=1000000):app s l xs=some (l++xs):=by
 unfold app;rw[if_pos ⟨h,by simp[maxLen];omega⟩]
theorem zrW [DecidableEq γ]{l:List α}{a b:Option γ}(h:l=[]->a=b):demB l a b=b:=by
 unfold demB
 split
 .rename_i hl
  rw[if_pos (h (by simpa using hl))]
 .rfl
theorem zaC {b:Bool}{x y:α}:(bif b then x else y)=if b=true then x else y:=by cases b <;> rfl
theorem loopI {F:Nat->σ->Int->Option ρ}(len:Nat)(Inv:Nat->σ->Prop)(Post:ρ->Prop)
  (step:∀ n s (i:Nat),Inv i s->i<len->(∃ r,F (n+1) s (i:Int)=some r/\Post r) ∨ ∃ s',Inv (i+1) s'/\F (n+1) s (i:Int)=F n s' ((i+1:Nat):Int))
  (fin:∀ n s,Inv len s->∃ r,F (n+1) s (len:Int)=some r/\Post r):∀ (n:Nat) (s:σ) (i:Nat),Inv i s->i<=len->len-i<n->∃ r,F n s (i:Int)=some r/\Post r:=by
 intro n
 induction n with
 | zero=>intro s i _ _ h;omega
 | succ n ih =>
  intro s i hi hl hn;by_cases he:i=len
  .subst he;exact fin n s hi
  .rcases step n s i hi (by omega) with h|⟨s',h1,h2⟩
   .exact h
   .rw [h2];exact ih s' (i+1) h1 (by omega) (by omega)
end
end Go.Vc
namespace Go.Vc
end Go.Vc
