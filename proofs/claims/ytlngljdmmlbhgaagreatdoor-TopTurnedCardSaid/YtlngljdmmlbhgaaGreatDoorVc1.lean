/-
  A library for proofs about Go functions by symbolic evaluation,and plain Lean functions that the walked Go functions compute (written by a program of this claim).
-/
import Derived.WalkKit
import Derived.Maps.AppendAt
import Derived.Maps.Keyed
import Derived.Still
set_option linter.unusedVariables false
set_option linter.unnecessarySimpa false
set_option linter.unusedSimpArgs false
namespace Go.Vc
theorem zre {α β:Type _}{a:α}{f:α → Option β}:(some a).bind f=f a:=rfl
theorem zrf {α:Type _}{l:List α}{i:Nat}{a:α}:l[i]? = some a ↔ ∃ h:i<l.length,l[i]=a:=List.getElem?_eq_some_iff
theorem zrg {α:Type _}{l:List α}{i:Nat}(h:i<l.length):l[i]? = some l[i]:=List.getElem?_eq_getElem h
theorem zrh {n m:Nat}(h:Nat.beq n m=true):n=m:=Nat.eq_of_beq_eq_true h
theorem zri {α:Type _}{l:List α}{i:Nat}{a:α}(h:l[i]? = some a):a∈l:=List.mem_of_getElem? h
theorem zrj {n m:Nat}(h:Nat.ble n m=true):n ≤ m:=Nat.le_of_ble_eq_true h
theorem zrk (a b:Bool):((a&&b)=true)=(a=true∧b=true):=Bool.and_eq_true a b
inductive D where
 | v (x:Value)
 | agg (cs:List D)
 | sl (s:Nat) (es:List D)
 | tup (ds:List D)
 | ifc (t:TypeId) (d:D)
 /-- a pointer to cells that are read only -/
 | pt (cs:List D)
 /-- a map that is read only -/
 | mp (es:List (D×D))
 deriving Inhabited
def D.cells:D->List D
 | .agg cs=>cs
 | d=>[d]
inductive SV where
 | no
 | dat (x:D)
 | kb (b:Bool)
 | ptr (k off:Nat)
 | ep (cs:List D)
 | rp (k s i j:Nat)
 | rs (k n:Nat)
 | csl (s:Nat) (es:List D)
 | nil
 | agg (l:List SV)
 | tup (l:List SV)
 | fn (f:FuncId) (first l:List SV)
 | ifc (t:TypeId) (x:SV)
 | mp (k:Nat)
 /-- into member i of the family of block k -/
 | po (k i off:Nat)
 /-- a method's function of a value of this type in an interface -/
 | fm (n:String) (t:TypeId)
 /-- the first n elements of an array -/
 | as (k n:Nat)
 /-- nil, or the address of block k, which is of type t -/
 | slf (k:Nat) (t:TypeId)
 /-- a slice of which the length alone is known -/
 | ln (n:Nat)
 /-- into a member of the family of block k, or nil -/
 | pn (k:Nat) (t:Option Nat)
 deriving Inhabited
inductive MC where
 | d (x:D)
 | p (c:Nat) (t:Option Nat)
 | r (e:TypeId) (s:Nat) (es:List D)
 | m (es:List (D×D))
 deriving Inhabited
inductive Blk where
 | unborn
 | dead
 | box (l:List SV)
 | arr (l:List D)
 | row (e:TypeId) (s:Nat) (es:List D)
 | fz (e:TypeId) (s:Nat) (es:List D)
 | mp (es:List (D×D))
 | sit (s:ByteArray) (pos:Nat)
 /-- an own row of structs whose cells may be own rows (a slice of slices too: one cell each, ea = false); what is out: of element i the row in cell o, under a number -/
 | sn (e:TypeId) (s:Nat) (ea:Bool) (out:Option (Nat×Nat×Nat)) (es:List (List MC))
 /-- a map whose values point to boxes of its own, whose cells may point into the families kids; what is out: of member i the row or map in cell c, under a number -/
 | fam (kids:List Nat) (es:List (D×List MC)) (outs:List (Nat×Nat×Nat))
 /-- an iterator over a map that is read only: its entries, and the places that were handed out -/
 | mit (es:List (D×D)) (seen:List Nat)
 deriving Inhabited
structure Dl where
 val:SV
 wr:List (Nat×Blk)
inductive Loc where
 | t (n:Nat)
 | b (n:Nat)
 /-- all blocks -/
 | all
 deriving DecidableEq
def get {α:Type}(z:α):List (Nat×α)->Nat->α
 | [],_=>z
 | (k,v)::r,t=>bif Nat.beq k t then v else get z r t
structure St where
 env:List (Nat×SV)
 mem:List (Nat×Blk)
def St.e (st:St):Nat->SV:=get .no st.env
def St.m (st:St):Nat->Blk:=get .unborn st.mem
def force {α:Sort _}(x:SV)(k:SV->α):α :=
 match x with
 | .no=>k .no
 | .dat d=>match d with
  | .v y=>match y with
   | .int j n=>k (.dat (.v (.int j n)))
   | y=>k (.dat (.v y))
  | .agg cs=>k (.dat (.agg cs))
  | .sl z es=>k (.dat (.sl z es))
  | .tup ds=>k (.dat (.tup ds))
  | .ifc t d=>k (.dat (.ifc t d))
  | .pt cs=>k (.dat (.pt cs))
  | .mp es=>k (.dat (.mp es))
 | .kb b=>k (.kb b)
 | .ptr b o=>k (.ptr b o)
 | .ep cs=>k (.ep cs)
 | .rp b z i j=>k (.rp b z i j)
 | .rs b n=>k (.rs b n)
 | .csl z es=>k (.csl z es)
 | .nil=>k .nil
 | .agg l=>k (.agg l)
 | .tup l=>k (.tup l)
 | .fn f a l=>k (.fn f a l)
 | .ifc t x=>k (.ifc t x)
 | .mp b=>k (.mp b)
 | .po b i o=>k (.po b i o)
 | .fm n t=>k (.fm n t)
 | .as b n=>k (.as b n)
 | .slf b t=>k (.slf b t)
 | .ln n=>k (.ln n)
 | .pn b t=>k (.pn b t)
theorem force_eq {α:Sort _}(x:SV)(k:SV->α):force x k=k x:=by
 unfold force
 split <;> first|rfl|(split <;> first|rfl|(split <;> rfl))
def zjX {α:Sort _}(x:Blk)(k:Blk->α):α :=
 match x with
 | .unborn=>k .unborn
 | .dead=>k .dead
 | .box l=>k (.box l)
 | .arr l=>k (.arr l)
 | .row e z es=>k (.row e z es)
 | .fz e z es=>k (.fz e z es)
 | .mp es=>k (.mp es)
 | .sit s p=>k (.sit s p)
 | .sn e s ea o es=>k (.sn e s ea o es)
 | .fam ks es o=>k (.fam ks es o)
 | .mit es z=>k (.mit es z)
theorem zam {α:Sort _}(x:Blk)(k:Blk->α):zjX x k=k x:=by
 unfold zjX
 split <;> rfl
abbrev Pg:=(Nat->SV)->(Nat->Blk)->List Loc->(Dl->List Loc->Prop)->Prop
def Pg.ret (δ:Dl):Pg:=λ _ _ l K=>K δ l
def Pg.getT (t:Nat)(k:SV->Pg):Pg:=λ e m l K=>force (e t) λ x=>k x e m (.t t::l) K
def Pg.getB (b:Nat)(k:Blk->Pg):Pg:=λ e m l K=>zjX (m b) λ x=>k x e m (.b b::l) K
def Pg.ex {α:Type}(p:α->Prop)(k:α->Pg):Pg:=λ e m l K=>∃ a,p a/\k a e m l K
def Pg.fail:Pg:=λ _ _ _ _=>False
def Pg.or (p q:Pg):Pg:=λ e m l K=>p e m l K∨q e m l K
inductive TK where
 | bool|int (k:IntKind)|str
 | slice (e:TypeId) (es:Nat) (eagg:Bool)
 | arr (n:Nat) (es:Nat) (eagg:Bool)
 | struct (fs:List (Nat×Nat×Bool))
 | ptr|fn|map|iface|other
 | mp (k e:TypeId)
 deriving DecidableEq
structure TI where
 k:TK
 size:Nat
 bytes:Nat
 agg:Bool
 csz:List Nat
 zero:List Value
 /-- methods by value: their functions -/
 meth:List (String×FuncId):=[]
 /-- its first cell holds nil, or its own address -/
 slf:Bool:=false
 /-- a pointer's base type, if it is told -/
 pe:Nat:=0
inductive Tree (α:Type) where
 | leaf
 | node (l:Tree α) (x:α) (r:Tree α)
def Tree.get {α:Type}:Tree α->List Bool->Option α
 | .leaf,_=>none
 | .node _ x _,[]=>some x
 | .node l _ r,b::bs=>bif b then r.get bs else l.get bs
def bits:Nat->Nat->List Bool->List Bool
 | 0,_,acc=>acc
 | f+1,n,acc=>bif Nat.ble n 1 then acc else bits f (n / 2) (Nat.beq (n % 2) 1::acc)
def Tree.at (t:Tree (Option TI))(n:Nat):Option TI:=bif Nat.ble 4095 n then none else match t.get (bits 12 (n+1) []) with|some x=>x|none=>none
structure Ctx where
 ty:Tree (Option TI)
 fn:Nat->Option (List SV->Nat->Pg)
 pr:Nat->Bool
 dem:Bool
def Ctx.loc (c:Ctx):Ctx:=⟨c.ty,λ f=>bif c.pr f then c.fn f else none,c.pr,false⟩
def ziV:IntKind->Int->Bool
 | k, .ofNat n=>Nat.ble n (match k with
  | .i8=>127 | .i16=>32767 | .i32=>2147483647 | .i64=>9223372036854775807
  | .u8=>255 | .u16=>65535 | .u32=>4294967295 | .u64=>18446744073709551615)
 | k, .negSucc n=>match k with
  | .i8=>Nat.ble n 127 | .i16=>Nat.ble n 32767 | .i32=>Nat.ble n 2147483647 | .i64=>Nat.ble n 9223372036854775807
  | _=>false
def SV.ofV1:Value->SV
 | .bool b=>.kb b
 | .slice none 0 0=>.nil
 | .int k n=>bif ziV k n then .dat (.v (.int k n)) else .no
 | .string s=>bif Nat.ble s.size 9223372036854775807 then .dat (.v (.string s)) else .no
 | .pointer none=>.dat (.v (.pointer none))
 | .map none=>.dat (.v (.map none))
 | .nilFunc=>.dat (.v .nilFunc)
 | .nilIface=>.dat (.v .nilIface)
 | _=>.no
def SV.ofD:D->SV
 | .v (.bool b)=>.kb b
 | .pt cs=>.ep cs
 | x=>.dat x
def SV.toD1 (s:Nat):SV->Option D
 | .dat x=>some x
 | .kb b=>some (.v (.bool b))
 | .nil=>some (.sl s [])
 | .csl s' es=>some (.sl s' es)
 | .ep cs=>some (.pt cs)
 | _=>none
def SV.one:SV->Bool
 | .no | .agg _ | .tup _ | .slf _ _=>false
 | .dat (.agg _) | .dat (.tup _)=>false
 | _=>true
def SV.ofV:Value->SV
 | .agg cs=>bif (cs.toList.map SV.ofV1).all SV.one then .agg (cs.toList.map SV.ofV1) else .no
 | v=>SV.ofV1 v
def zaM:List Nat->List SV->Option (List D)
 | _,[]=>some []
 | z,x::l=>match x.toD1 (z.headD 0),zaM z.tail l with
  | some d,some r=>some (d::r)
  | _,_=>none
def SV.plainC:SV->Bool
 | .dat _ | .kb _=>true
 | _=>false
def SV.mkAgg (csz:List Nat)(l:List SV):SV :=
 match (bif l.all SV.plainC then zaM csz l else none) with
 | some ds=>.dat (.agg ds)
 | none=>.agg l
def SV.cells:SV->Option (List SV)
 | .dat (.agg cs)=>some (cs.map SV.ofD)
 | .agg l=>some l
 | .no | .tup _ | .dat (.tup _)=>none
 | x=>some [x]
def cond (p:Prop)(k:Pg):Pg:=λ e m l K=>p/\k e m l K
def when_ (b:Bool)(k:Pg):Pg:=bif b then k else Pg.fail
def kidx:IntKind->Nat
 | .i8=>0 | .i16=>1 | .i32=>2 | .i64=>3 | .u8=>4 | .u16=>5 | .u32=>6 | .u64=>7
def Pg.elems (s:Nat)(x:SV)(k:List D->Pg):Pg :=
 match x with
 | .rs b n=>Pg.getB b fun
  | .row _ s' es | .fz _ s' es=>when_ (Nat.beq s' s) (cond (n<=es.length) (Pg.ex (λ q:List D=>q=es.take n) k))
  | _=>Pg.fail
 | .nil=>k []
 | .dat (.sl s' es) | .csl s' es=>when_ (Nat.beq s' s) (k es)
 | _=>Pg.fail
def MC.toD:MC->D
 | .d x=>x
 | .r _ s l=>.sl s l
 | _=>.v (.bool false)
def snD (ea:Bool)(l:List MC):D:=bif ea then .agg (l.map MC.toD) else (l.map MC.toD).headD (.v (.bool false))
def isR1:List MC->Bool
 | [.r _ _ _]=>true
 | _=>false
def snOK (s:Nat)(ea:Bool)(es:List (List MC)):Prop:=ea=true∨(s=1/\∀ l,l∈es->isR1 l=true)
def snAt (es:List (List MC))(i o:Nat):Option MC:=match es[i]? with
 | some l=>l[o]?
 | none=>none
def zbb (es:List (List MC))(i o:Nat)(x:MC):List (List MC):=es.modify i λ l=>l.set o x
def Pg.data1 (z:Nat)(x:SV)(k:D->List (Nat×Blk)->Pg):Pg :=
 match x with
 | .rs b n=>Pg.getB b fun
  | .row e s es=>cond (n<=es.length) (Pg.ex (λ q:List D=>q=es.take n) λ q=>k (.sl s q) [(b, .fz e s es)])
  | .fz e s es=>cond (n<=es.length) (Pg.ex (λ q:List D=>q=es.take n) λ q=>k (.sl s q) [])
  | .sn e s ea none es=>cond (n=es.length/\snOK s ea es) (Pg.ex (λ q:List D=>q=es.map (snD ea)) λ q=>k (.sl s q) [(b, .fz e s q)])
  | _=>Pg.fail
 | x=>match x.toD1 z with
  | some d=>k d []
  | none=>Pg.fail
def Pg.datas1:List Nat->List SV->(List D->List (Nat×Blk)->Pg)->Pg
 | _,[],k=>k [] []
 | zs,x::l,k=>Pg.data1 (zs.headD 0) x λ d w=>Pg.datas1 zs.tail l λ ds ws=>k (d::ds) (w++ws)
def Pg.data (csz:List Nat)(x:SV)(k:D->List (Nat×Blk)->Pg):Pg :=
 match x with
 | .agg l=>Pg.datas1 csz l λ ds ws=>k (.agg ds) ws
 | x=>Pg.data1 (csz.headD 0) x k
def Pg.opd (o:Operand)(k:SV->Pg):Pg :=
 match o with
 | .tmp t=>Pg.getT t k
 | .const v=>k (SV.ofV v)
 | .func f=>k (.dat (.v (.func (.func f) #[] #[])))
 | .global _=>Pg.fail
def Pg.opds:List Operand->(List SV->Pg)->Pg
 | [],k=>k []
 | o::r,k=>Pg.opd o λ x=>Pg.opds r λ l=>k (x::l)
def zjY {α:Sort _}:List SV->(List SV->α)->α
 | [],k=>k []
 | x::r,k=>force x λ x=>zjY r λ r=>k (x::r)
theorem zeS {α:Sort _}(l:List SV)(k:List SV->α):zjY l k=k l:=by
 induction l generalizing k with
 | nil=>rfl
 | cons x r ih=>simp only[zjY,force_eq,ih]
def one (x:SV):Pg:=λ _ _ l K=>force x λ x=>K ⟨x,[]⟩ l
def boxed (v:SV)(k:Nat)(cs:List SV):Pg:=λ _ _ l K=>zjY cs λ cs=>K ⟨v,[(k, .box cs)]⟩ l
def bool? (p:Prop)[Decidable p](k:Bool->Pg):Pg:=k (decide p)
def Pg.both (b:Bool)(p q:Pg):Pg:=λ e m l K=>(b=true->p e m l K)/\(b=false->q e m l K)
def int? (n:Int)(k:Int->Pg):Pg:=Pg.ex (λ c:Int=>c=n) k
def zlP (op:BinOp)(k:IntKind)(x y:Int):Int :=
 match op with
 | .and=>k.wrap ((BitVec.ofInt k.bits x) &&& (BitVec.ofInt k.bits y)).toNat
 | .or=>k.wrap ((BitVec.ofInt k.bits x) ||| (BitVec.ofInt k.bits y)).toNat
 | .xor=>k.wrap ((BitVec.ofInt k.bits x) ^^^ (BitVec.ofInt k.bits y)).toNat
 | .andNot=>k.wrap ((BitVec.ofInt k.bits x) &&& ~~~(BitVec.ofInt k.bits y)).toNat
 | _=>0
def zlQ (op:BinOp)(k:IntKind)(a b:Int):Pg :=
 match op with
 | .add=>int? (k.wrap (a+b)) λ c=>one (.dat (.v (.int k c)))
 | .sub=>int? (k.wrap (a-b)) λ c=>one (.dat (.v (.int k c)))
 | .mul=>int? (k.wrap (a*b)) λ c=>one (.dat (.v (.int k c)))
 | .eql=>bool? (a=b) λ c=>one (.kb c)
 | .neq=>bool? (¬ a=b) λ c=>one (.kb c)
 | .lss=>bool? (a<b) λ c=>one (.kb c)
 | .leq=>bool? (a<=b) λ c=>one (.kb c)
 | .gtr=>bool? (b<a) λ c=>one (.kb c)
 | .geq=>bool? (b<=a) λ c=>one (.kb c)
 | .quo=>cond (b≠0) (int? (k.wrap (a.tdiv b)) λ c=>one (.dat (.v (.int k c))))
 | .rem=>cond (b≠0) (int? (a.tmod b) λ c=>one (.dat (.v (.int k c))))
 | .and | .or | .xor | .andNot=>int? (zlP op k a b) λ c=>one (.dat (.v (.int k c)))
 | _=>Pg.fail
def zgx (op:BinOp)(k:IntKind)(a b:Int):Pg :=
 match op with
 | .shl=>cond (0<=b) (int? (k.wrap (a*2 ^ (min b.toNat k.bits))) λ c=>one (.dat (.v (.int k c))))
 | .shr=>cond (0<=b) (int? (a.fdiv (2 ^ (min b.toNat k.bits))) λ c=>one (.dat (.v (.int k c))))
 | _=>Pg.fail
def zlR:BinOp->Bool
 | .shl | .shr=>true
 | _=>false
def zbN {α:Type}:Nat->List α->Option (List α)
 | 0,_=>some []
 | _+1,[]=>none
 | n+1,x::l=>match zbN n l with
  | some r=>some (x::r)
  | none=>none
def mcAt (es:List (D×List MC))(i o:Nat):Option MC:=match es[i]? with
 | some q=>q.2[o]?
 | none=>none
def zaJ (es:List (D×List MC))(i o:Nat)(x:MC):List (D×List MC):=es.modify i λ q=>(q.1,q.2.set o x)
def nilP:SV := .dat (.v (.pointer none))
def hasK (ks:List Nat)(c k:Nat):Bool:=match ks[c]? with
 | some k' => Nat.beq k' k
 | none=>false
def MC.put (ks:List Nat):MC->SV->Option MC
 | .d _,x=>(x.toD1 0).map .d
 | .p c _, .dat (.v (.pointer none))=>some (.p c none)
 | .p c _, .po k' j 0=>bif hasK ks c k' then some (.p c (some j)) else none
 | _,_=>none
def zhI (ks:List Nat):List MC->List SV->Option (List MC)
 | [],[]=>some []
 | y::ys,x::xs=>match y.put ks x,zhI ks ys xs with
  | some y',some r=>some (y'::r)
  | _,_=>none
 | _,_=>none
def zeH (outs:List (Nat×Nat×Nat))(i o:Nat):Prop:=∃ z,(i,o,z)∈outs
def zaD (outs:List (Nat×Nat×Nat))(i o:Nat):Option Nat:=(outs.find? λ x=>x.1 == i&&x.2.1 == o).map λ x=>x.2.2
def zcg (ti : TI)(a : SV) : Pg :=
  match a with
  | .po k i o => Pg.getB k fun
    | .fam ks es _ => bif ti.agg then Pg.fail else Pg.ex (fun x : MC => mcAt es i o = some x) fun
      | .d x => one (SV.ofD x)
      | .p c t => match ks[c]? with
        | some k' => fun e m l K => (t = none → one nilP e m l K) ∧ ∀ j, t = some j → one (.po k' j 0) e m l K
        | none => Pg.fail
      | _ => Pg.fail
    | _ => Pg.fail
  | .ptr k o => Pg.getB k fun
    | .box l => bif ti.agg then (match zbN ti.size (l.drop o) with
        | some cs => one (SV.mkAgg ti.csz cs)
        | none => Pg.fail)
      else (match l[o]? with
        | some c => one c
        | none => Pg.fail)
    | .arr l => bif ti.agg then Pg.ex (fun cs : List D => zbN ti.size (l.drop o) = some cs) fun cs => one (.dat (.agg cs))
      else Pg.ex (fun c : D => l[o]? = some c) fun c => one (SV.ofD c)
    | _ => Pg.fail
  | .ep cs => bif ti.agg then (match zbN ti.size cs with
        | some c => one (.dat (.agg c))
        | none => Pg.fail)
      else (match cs[0]? with
        | some c => one (SV.ofD c)
        | none => Pg.fail)
  | .rp k s i j => Pg.getB k fun
    | .row _ s' es => Pg.ex (fun e : D => s = s' ∧ es[i]? = some e) fun e =>
      bif ti.agg then (match zbN ti.size (e.cells.drop j) with
        | some c => one (.dat (.agg c))
        | none => Pg.fail)
      else (match e.cells[j]? with
        | some c => one (SV.ofD c)
        | none => Pg.fail)
    | _ => Pg.fail
  | _ => Pg.fail
def zf5 (ti:TI)(a:SV)(id:Nat):Pg :=
 match a with
 | .po k i o=>Pg.getB k fun
  | .fam ks es outs=>Pg.ex (λ x:MC=>mcAt es i o=some x) fun
   | .r e' s' l=>when_ (Nat.beq ti.size 1 && !ti.agg) (Pg.or (Pg.or (Pg.ex (λ z:Nat=>zaD outs i o=some z) λ z=>Pg.getB z fun
    | .row e2 s2 l' => when_ (Nat.beq e2 e'&&Nat.beq s2 s') (cond (l'.length=l.length) (Pg.ex (λ n:Nat=>n=l.length) λ n=>one (.rs z n)))
    | _=>Pg.fail) (cond (¬ zeH outs i o) (Pg.ex (λ n:Nat=>n=l.length) λ n=>one (.ln n)))) (Pg.getB id fun
    | .unborn=>cond (¬ zeH outs i o) (Pg.ex (λ n:Nat=>n=l.length) λ n=>Pg.ret ⟨.rs id n,[(id, .row e' s' l),(k, .fam ks es ((i,o,id)::outs))]⟩)
    | _=>Pg.fail))
   | .m l=>when_ (Nat.beq ti.size 1 && !ti.agg) (Pg.getB id fun
    | .unborn=>cond (¬ zeH outs i o) (Pg.ret ⟨.mp id,[(id, .mp l),(k, .fam ks es ((i,o,id)::outs))]⟩)
    | _=>Pg.fail)
   | _=>zcg ti a
  | _=>Pg.fail
 | .rp k s i j=>Pg.getB k fun
  | .sn e s' ea out es=>when_ (Nat.beq s s'&&Nat.beq ti.size 1 && !ti.agg) (Pg.ex (λ x:MC=>snAt es i j=some x) fun
   | .d x=>one (SV.ofD x)
   | .r e' s' l=>match out with
    | none=>Pg.getB id fun
     | .unborn=>Pg.ex (λ n:Nat=>n=l.length) λ n=>Pg.ret ⟨.rs id n,[(id, .row e' s' l),(k, .sn e s ea (some (i,j,id)) es)]⟩
     | _=>Pg.fail
    | some (i',j',z)=>cond (i=i'/\j=j') (Pg.getB z fun
     | .row e2 s2 l' => when_ (Nat.beq e2 e'&&Nat.beq s2 s') (cond (l'.length=l.length) (Pg.ex (λ n:Nat=>n=l.length) λ n=>one (.rs z n)))
     | _=>Pg.fail)
   | _=>Pg.fail)
  | _=>zcg ti a
 | _=>zcg ti a
def zaF {α:Type}(l:List α)(o:Nat):List α->List α
 | []=>l
 | c::r=>zaF (l.set o c) (o+1) r
def D.withCells:D->List D->D
 | .agg _,cs=>.agg cs
 | _,[c]=>c
 | d,_=>d
def zb9 (ti:TI)(a x:SV):Pg :=
 match a with
 | .po k i o=>Pg.getB k fun
  | .fam ks es outs=>match x.cells with
   | some [v]=>bif ti.agg || !Nat.beq ti.size 1 || !v.one then Pg.fail else Pg.ex (λ y:MC=>mcAt es i o=some y) λ y=>match y.put ks v with
    | some y' => Pg.ex (λ q:List (D×List MC)=>q=zaJ es i o y') λ q=>Pg.ret ⟨.no,[(k, .fam ks q outs)]⟩
    | none=>Pg.fail
   | some (v::v'::r)=>bif Nat.beq o 0&&Nat.beq (r.length+2) ti.size&&(v::v'::r).all SV.one then Pg.ex (λ p:D×List MC=>es[i]? = some p) λ p=>match zhI ks p.2 (v::v'::r) with
     | some y=>Pg.ex (λ q:List (D×List MC)=>q=es.set i (p.1,y)) λ q=>Pg.ret ⟨.no,[(k, .fam ks q outs)]⟩
     | none=>Pg.fail
    else Pg.fail
   | _=>Pg.fail
  | _=>Pg.fail
 | .ptr k o=>Pg.getB k fun
  | .box l=>match x.cells with
   | some cs=>bif Nat.beq cs.length ti.size&&Nat.ble (o+cs.length) l.length&&cs.all SV.one then boxed .no k (zaF l o cs) else Pg.fail
   | none=>Pg.fail
  | .arr l=>match x.cells with
   | some cs=>match zaM ti.csz cs with
    | some ds=>cond (ds.length=ti.size/\o+ds.length<=l.length/\cs.all SV.one=true) (Pg.ex (λ q:List D=>q=zaF l o ds) λ q=>Pg.ret ⟨.no,[(k, .arr q)]⟩)
    | none=>Pg.fail
   | none=>Pg.fail
  | _=>Pg.fail
 | .rp k s i j=>Pg.getB k fun
  | .row e s' es=>match x.cells with
   | some cs=>match zaM ti.csz cs with
    | some ds=>Pg.ex (λ el:D=>s=s'/\es[i]? = some el) λ el =>
     cond (ds.length=ti.size/\j+ds.length<=s/\cs.all SV.one=true) (Pg.ex (λ q:List D=>q=es.set i (el.withCells (zaF el.cells j ds))) λ q=>Pg.ret ⟨.no,[(k, .row e s' q)]⟩)
    | none=>Pg.fail
   | none=>Pg.fail
  | _=>Pg.fail
 | _=>Pg.fail
def zc7 (ti:TI)(a x:SV):Pg :=
 match a with
 | .po k i o=>Pg.getB k fun
  | .fam ks es outs=>Pg.ex (λ x:MC=>mcAt es i o=some x) fun
   | .r e' s' _=>when_ (Nat.beq ti.size 1 && !ti.agg) (match x with
    | .rs q n=>when_ (!Nat.beq q k) (Pg.getB q fun
     | .row e'' s'' l=>when_ (Nat.beq e'' e'&&Nat.beq s'' s') (cond (n=l.length) (Pg.ex (λ r:List (D×List MC)=>r=zaJ es i o (.r e' s' l)) λ r =>
       Pg.ex (λ t:List (Nat×Nat×Nat)=>t=outs.filter λ x=>!(Nat.beq x.1 i&&Nat.beq x.2.1 o)) λ t=>Pg.ret ⟨.no,[(q, .dead),(k, .fam ks r t)]⟩))
     | _=>Pg.fail)
    | _=>Pg.fail)
   | _=>zb9 ti a x
  | _=>Pg.fail
 | .rp k s i j=>Pg.getB k fun
  | .sn e s' ea out es=>when_ (Nat.beq s s'&&Nat.beq ti.size 1 && !ti.agg) (Pg.ex (λ y:MC=>snAt es i j=some y) fun
   | .d _=>match x.cells with
    | some [v]=>match v.toD1 0 with
     | some d=>bif v.one then Pg.ex (λ r:List (List MC)=>r=zbb es i j (.d d)) λ r=>Pg.ret ⟨.no,[(k, .sn e s ea out r)]⟩ else Pg.fail
     | none=>Pg.fail
    | _=>Pg.fail
   | .r e' s' _=>match x with
    | .rs q n=>when_ (!Nat.beq q k) (Pg.getB q fun
     | .row e'' s'' l=>when_ (Nat.beq e'' e'&&Nat.beq s'' s') (cond (n=l.length/\(∀ p,out=some p->p.1=i/\p.2.1=j)) (Pg.ex (λ r:List (List MC)=>r=zbb es i j (.r e' s' l)) λ r=>Pg.ret ⟨.no,[(q, .dead),(k, .sn e s ea none r)]⟩))
     | _=>Pg.fail)
    | _=>Pg.fail
   | _=>Pg.fail)
  | _=>zb9 ti a x
 | _=>zb9 ti a x
def zjZ (k z:Nat)(m:Nat->Blk)(q:List (List MC))(e:TypeId)(s:Nat)(ea:Bool):Prop :=
 ∃ i o es e' s' l l0,m k = .sn e s ea (some (i,o,z)) es/\m z = .row e' s' l/\snAt es i o=some (.r e' s' l0)/\l.length=l0.length/\q=zbb es i o (.r e' s' l)
def zbU (n:Nat)(x:SV)(k:Nat->Pg):Pg :=
 match x with
 | .dat (.v (.int _ i))=>cond (0<=i/\i<n) (k i.toNat)
 | _=>Pg.fail
def TK.comp:TK->Bool
 | .struct _ | .arr .. => true
 | _=>false
def TK.place:TK->Nat->Option (Nat×Nat)
 | .struct fs,i=>(fs[i]?).map λ x=>(x.1,x.2.1)
 | .arr _ es _,i=>some (i*es,es)
 | _,_=>none
def zdk (place:Nat->Option (Nat×Nat))(cells:List SV):List (Nat×SV)->Option (List SV)
 | []=>some cells
 | (i,x)::r=>match place i,x.cells with
  | some (off,size),some cs=>bif Nat.beq cs.length size&&Nat.ble (off+cs.length) cells.length&&cs.all SV.one then zdk place (zaF cells off cs) r else none
  | _,_=>none
def Pg.parts:List (Nat×Operand)->(List (Nat×SV)->Pg)->Pg
 | [],k=>k []
 | (i,o)::r,k=>Pg.opd o λ x=>Pg.parts r λ l=>k ((i,x)::l)
def zbE (csz:List Nat)(agg:Bool)(size:Nat):Nat->List (Nat×SV)->Option (List D)
 | _,[]=>some []
 | n,(i,x)::r=>match x.cells with
  | some cs=>bif Nat.beq i n&&Nat.beq cs.length size&&cs.all SV.one then
    (match zaM csz cs,zbE csz agg size (n+1) r with
    | some ds,some l=>(bif agg then some (.agg ds::l) else (match ds with|[d]=>some (d::l)|_=>none))
    | _,_=>none)
   else none
  | none=>none
def lowI (o:Option Operand)(k:Int->Pg):Pg:=match o with
 | none=>k 0
 | some o=>Pg.opd o fun
  | .dat (.v (.int _ i))=>k i
  | _=>Pg.fail
def zeT (o:Option Operand)(n:Nat)(k:Int->Pg):Pg:=match o with
 | none=>Pg.ex (λ q:Nat=>q=n) λ q=>k q
 | some o=>Pg.opd o fun
  | .dat (.v (.int _ i))=>k i
  | _=>Pg.fail
def maxI (hi o:Option Operand)(b:Int)(k:Int->Pg):Pg:=match o with
 | none=>k b
 | some o=>match hi with
  | some _=>Pg.opd o fun
   | .dat (.v (.int _ i))=>k i
   | _=>Pg.fail
  | none=>Pg.fail
def zfO (l:List D)(lo hi mx:Option Operand)(k:List D->Pg):Pg :=
 lowI lo λ a=>zeT hi l.length λ b=>maxI hi mx b λ m=>cond (0<=a/\a<=b/\b<=m/\m<=l.length) (Pg.ex (λ q:List D=>q=(l.take b.toNat).drop a.toNat) k)
def zj0 (l:List D)(lo hi mx:Option Operand)(k:List D->Pg):Pg :=
 lowI lo λ a=>zeT hi l.length λ b=>maxI hi mx b λ m=>cond (0<=a/\a<=b/\b=m/\m<=l.length) (Pg.ex (λ q:List D=>q=(l.take b.toNat).drop a.toNat) k)
def fresh (id:Nat)(k:Pg):Pg:=Pg.getB id fun
 | .unborn=>k
 | _=>Pg.fail
def sdPg (s:Nat)(l:List D)(lo hi mx:Option Operand):Pg:=match mx with
 | none=>zfO l lo hi none λ q=>one (.dat (.sl s q))
 | some m=>zj0 l lo hi (some m) λ q=>one (.csl s q)
def zev (es k n:Nat)(lo hi mx:Option Operand):Pg:=Pg.getB k fun
 | .row e s l=>when_ (Nat.beq s es) (cond (n<=l.length) (Pg.ex (λ q:List D=>q=l.take n) λ l' => zfO l' lo hi mx λ q=>Pg.ret ⟨.dat (.sl s q),[(k, .fz e s l)]⟩))
 | .fz e s l=>when_ (Nat.beq s es) (cond (n<=l.length) (Pg.ex (λ q:List D=>q=l.take n) λ l' => zfO l' lo hi mx λ q=>one (.dat (.sl s q))))
 | _=>Pg.fail
def zgy (es k n:Nat)(lo hi:Option Operand)(id:Nat):Pg:=Pg.getB k fun
 | .row e s l=>when_ (Nat.beq s es) (lowI lo λ a=>zeT hi n λ b=>fresh id (cond (n<=l.length/\0<=a/\a<=b/\b<=n) (Pg.ex (λ q:Nat×List D=>q.1=b.toNat-a.toNat/\q.2=(l.take b.toNat).drop a.toNat) λ q=>Pg.ret ⟨.rs id q.1,[(k, .dead),(id, .row e s q.2)]⟩)))
 | _=>Pg.fail
def zgz (es:Nat)(hi:Option Operand)(mx:Operand):Pg:=zeT hi 1 λ b=>maxI hi (some mx) b λ c=>cond (b=0/\c=0) (one (.csl es []))
def zeU (es:Nat)(sv:SV)(lo hi mx:Option Operand)(id:Nat):Pg :=
 match sv with
 | .dat (.sl s l) | .csl s l=>when_ (Nat.beq s es) (sdPg s l lo hi mx)
 | .rs k n=>match lo,mx with
  | none,none=>Pg.or (Pg.or (zeT hi n λ b=>Pg.getB k fun
   | .row e s l=>cond (n<=l.length/\0<=b/\b<=n) (Pg.ex (λ q:Nat×List D=>q.1=b.toNat/\q.2=l.take b.toNat) λ q=>Pg.ret ⟨.rs k q.1,[(k, .row e s q.2)]⟩)
   | _=>Pg.fail) (zeT hi n λ b=>cond (0<=b/\b<=n) (Pg.ex (λ q:Nat=>q=b.toNat) λ q=>one (.rs k q)))) (zev es k n none hi none)
  | some lo,none=>Pg.or (zgy es k n (some lo) hi id) (zev es k n (some lo) hi none)
  | none,some mx=>Pg.or (zgz es hi mx) (zev es k n none hi (some mx))
  | some lo,some mx=>zev es k n (some lo) hi (some mx)
 | .nil=>zfO [] lo hi mx λ _=>one .nil
 | _=>Pg.fail
def zpe (c:Ctx)(x:Operand)(t:TypeId):Pg:=Pg.opd x λ sx=>match c.ty.at t with
  | some { k := .slice .., .. } => match sx with
   | .dat (.sl _ l) | .csl _ l=>Pg.ex (λ n:Nat=>n=l.length) λ n=>one (.dat (.v (.int .i64 n)))
   | .rs _ n=>one (.dat (.v (.int .i64 n)))
   | .as _ n=>one (.dat (.v (.int .i64 n)))
   | .ln n=>one (.dat (.v (.int .i64 n)))
   | .nil=>one (.dat (.v (.int .i64 0)))
   | _=>Pg.fail
  | some { k := .str, .. } => match sx with
   | .dat (.v (.string s))=>Pg.ex (λ n:Nat=>n=s.size) λ n=>one (.dat (.v (.int .i64 n)))
   | _=>Pg.fail
  | some { k := .mp _ _, .. } => match sx with
   | .mp b=>Pg.getB b fun
    | .mp es=>cond (es.length<=maxLen) (Pg.ex (λ n:Nat=>n=es.length) λ n=>one (.dat (.v (.int .i64 n))))
    | .fam _ es _=>cond (es.length<=maxLen) (Pg.ex (λ n:Nat=>n=es.length) λ n=>one (.dat (.v (.int .i64 n))))
    | _=>Pg.fail
   | _=>Pg.fail
  | _=>Pg.fail
def zgA (c:Ctx)(s x:Operand)(t t':TypeId)(id:Nat):Pg:=Pg.opd s λ ss=>Pg.opd x λ sx=>match c.ty.at t with
  | some { k := .slice e es _, .. } => match c.ty.at e with
   | some te=>when_ (Nat.beq t t'&&Nat.ble 1 es) (match ss with
    | .nil=>Pg.elems es sx λ ns=>cond (ns.length*te.bytes<=140737488355328/\ns.length<=maxLen) (Pg.ex (λ q:Nat×List D=>q.1=ns.length/\q.2=ns) λ q=>Pg.ret ⟨.rs id q.1,[(id, .row e es q.2)]⟩)
    | .csl s' old=>when_ (Nat.beq s' es) (Pg.elems es sx λ ns=>Pg.or (cond (ns≠[]/\(old.length+ns.length)*te.bytes<=140737488355328/\old.length+ns.length<=maxLen)
      (Pg.ex (λ q:Nat×List D=>q.1=old.length+ns.length/\q.2=old++ns) λ q=>Pg.ret ⟨.rs id q.1,[(id, .row e es q.2)]⟩))
      (cond ((old.length+ns.length)*te.bytes<=140737488355328/\old.length+ns.length<=maxLen) (Pg.ex (λ q:List D=>q=old++ns) λ q=>one (.dat (.sl es q)))))
    | .rs k n=>Pg.getB k fun
     | .row e' s' old=>when_ (Nat.beq e' e&&Nat.beq s' es) (Pg.elems es sx λ ns=>cond (n<=old.length/\(n+ns.length)*te.bytes<=140737488355328/\n+ns.length<=maxLen)
      (Pg.ex (λ q:Nat×List D=>q.1=n+ns.length/\q.2=old.take n++ns) λ q=>Pg.ret ⟨.rs id q.1,[(k, .dead),(id, .row e es q.2)]⟩))
     | _=>Pg.fail
    | _=>Pg.fail)
   | none=>Pg.fail
  | _=>Pg.fail
def ziW (c:Ctx)(f:Operand)(args:List Operand)(id:Nat):Pg:=Pg.opd f λ sf=>Pg.opds args λ l=>match sf with
  | .dat (.v (.func (.func fid) _ _))=>match c.fn fid with
   | some g=>g l id
   | none=>Pg.fail
  | .fn fid first caps=>match c.fn fid with
   | some g=>g (first++l++caps) id
   | none=>Pg.fail
  | _=>Pg.fail
def notPg (x:Operand):Pg:=Pg.opd x fun
  | .kb b=>one (.kb (!b))
  | _=>Pg.fail
def negPg (x:Operand):Pg:=Pg.opd x fun
  | .dat (.v (.int k a))=>int? (k.wrap (0-a)) λ c=>one (.dat (.v (.int k c)))
  | _=>Pg.fail
def zew (s:ByteArray)(a b:Nat):ByteArray:=s.extract a b
def zhJ (s:ByteArray)(lo hi:Option Operand):Pg :=
 lowI lo λ a=>zeT hi s.size λ b=>cond (0<=a/\a<=b/\b<=s.size) (Pg.ex (λ q:ByteArray=>q=zew s a.toNat b.toNat) λ q=>one (.dat (.v (.string q))))
def zdG (c:Ctx)(t:TypeId)(x:Operand)(lo hi mx:Option Operand)(id:Nat):Pg:=Pg.opd x λ sv=>match c.ty.at t with
  | some { k := .slice _ es _, .. } => zeU es sv lo hi mx id
  | some { k := .arr n _ _, .. } => match sv,lo,mx with
   | .ptr k 0,none,none=>zeT hi n λ b=>cond (0<=b/\b<=n/\n<=maxLen) (one (.as k b.toNat))
   | _,_,_=>Pg.fail
  | some { k := .str, .. } => match mx,sv with
   | none, .dat (.v (.string s))=>zhJ s lo hi
   | _,_=>Pg.fail
  | _=>Pg.fail
def zcP (s:ByteArray)(i:Nat):Int:=(s.data.toList.getD i 0).toNat
def zeV (c:Ctx)(t:TypeId)(sx si:SV):Pg:=match c.ty.at t with
 | some { k := .str, .. } => match sx with
  | .dat (.v (.string s))=>zbU s.size si λ i=>Pg.ex (λ b:Int=>b=zcP s i) λ b=>one (.dat (.v (.int .u8 b)))
  | _=>Pg.fail
 | some { k := .arr n es ag, .. } => bif Nat.beq es 1 && !ag then (match sx with
  | .dat (.agg cs)=>zbU n si λ i=>match cs[i]? with
   | some d=>one (SV.ofD d)
   | none=>Pg.fail
  | _=>Pg.fail) else Pg.fail
 | _=>Pg.fail
def zch:Value->Value->Bool
 | .int k _, .int k' _=>Nat.beq (kidx k) (kidx k')
 | .bool _, .bool _=>true
 | .string _, .string _=>true
 | _,_=>false
def zcQ:List Value->List D->Bool
 | [],[]=>true
 | z::l, .v x::r=>zch z x&&zcQ l r
 | _,_=>false
def zoO:List (Nat×Nat×Bool)->Nat->Bool
 | [],_=>true
 | (o,s,g)::r,n=>Nat.beq o n&&Nat.beq s 1 && !g&&zoO r (n+1)
def zqs:Value->Bool
 | .int _ _ | .bool _ | .string _=>true
 | _=>false
def zlS (ti:TI):Bool:=match ti.k with
 | .struct fs=>zoO fs 0&&ti.zero.all zqs&&Nat.ble 1 fs.length
 | .arr n es _=>Nat.beq es 1&&ti.zero.all zqs&&Nat.ble 1 n
 | _=>false
def eqDs:List D->List D->Bool
 | .v (.int _ a)::r, .v (.int _ b)::r' => decide (a=b)&&eqDs r r'
 | .v (.bool a)::r, .v (.bool b)::r' => (a == b)&&eqDs r r'
 | .v (.string a)::r, .v (.string b)::r' => decide (a=b)&&eqDs r r'
 | [],[]=>true
 | _,_=>false
def eqDk {R:Sort _}:List D->List D->(Bool->R)->R
 | .v (.int _ a)::r, .v (.int _ b)::r',k=>eqDk r r' λ c=>k (decide (a=b)&&c)
 | .v (.bool a)::r, .v (.bool b)::r',k=>eqDk r r' λ c=>k ((a == b)&&c)
 | .v (.string a)::r, .v (.string b)::r',k=>eqDk r r' λ c=>k (decide (a=b)&&c)
 | [],[],k=>k true
 | _,_,k=>k false
theorem ziX {R:Sort _}:∀ (l r:List D) (k:Bool->R),eqDk l r k=k (eqDs l r):=by
 intro l r
 fun_induction eqDs l r with
 | case1=>intro k;simp only[eqDk, *]
 | case2=>intro k;simp only[eqDk, *]
 | case3=>intro k;simp only[eqDk, *]
 | case4=>intro k;rfl
 | case5 l r h1 h2 h3 h4=>intro k;unfold eqDk;split <;> first|rfl|(exfalso;first|exact h1 _ _ _ _ _ _ rfl rfl|exact h2 _ _ _ _ rfl rfl|exact h3 _ _ _ _ rfl rfl|exact h4 rfl rfl)
def eqPg (op:BinOp)(l r:List D):Pg :=
 match op with
 | .eql=>λ e m lg K=>eqDk l r λ b=>one (.kb b) e m lg K
 | .neq=>λ e m lg K=>eqDk l r λ b=>one (.kb (!b)) e m lg K
 | _=>Pg.fail
def zlT (c:Ctx)(l:List D)(b:Bool):Pg :=
 bif c.dem then λ e m lg K=>(l=[]->one (.kb b) e m lg K)/\one (.kb (!b)) e m lg K else cond (l≠[]) (one (.kb (!b)))
def nilN (c:Ctx)(n:Nat)(b:Bool):Pg :=
 bif c.dem then λ e m lg K=>(n=0->one (.kb b) e m lg K)/\one (.kb (!b)) e m lg K else cond (n≠0) (one (.kb (!b)))
def zbQ (c:Ctx)(b:Bool)(x:SV):Pg :=
 match x with
 | .nil=>one (.kb b)
 | .dat (.sl _ l)=>zlT c l b
 | .rs _ n=>nilN c n b
 | _=>Pg.fail
def zj1 (op:BinOp)(a b:Bool):Pg :=
 match op with
 | .eql=>one (.kb (a == b))
 | .neq=>one (.kb (!(a == b)))
 | _=>Pg.fail
def zhK (a b:ByteArray):Bool:=Op.bytesLess a.data.toList b.data.toList
def zlU (op:BinOp)(a b:ByteArray):Pg :=
 match op with
 | .eql=>bool? (a=b) λ c=>one (.kb c)
 | .neq=>bool? (¬ a=b) λ c=>one (.kb c)
 | .lss=>one (.kb (zhK a b))
 | .gtr=>one (.kb (zhK b a))
 | .leq=>one (.kb (!zhK b a))
 | .geq=>one (.kb (!zhK a b))
 | .add=>cond (a.size+b.size<=maxLen) (Pg.ex (λ q:ByteArray=>q=a++b) λ q=>one (.dat (.v (.string q))))
 | _=>Pg.fail
def pnEq (t:Option Nat)(b:Bool):Pg:=λ e m l K=>(t=none->one (.kb b) e m l K)/\∀ j,t=some j->one (.kb (!b)) e m l K
def zlV (c:Ctx)(op:BinOp)(t:TypeId)(sx sy:SV):Pg :=
 match sx,sy with
 | .dat (.v (.string a)), .dat (.v (.string b))=>match c.ty.at t with
  | some { k := .str, .. } => zlU op a b
  | _=>Pg.fail
 | .dat (.v (.int k a)), .dat (.v (.int k' b))=>bif zlR op then zgx op k a b else when_ (Nat.beq (kidx k) (kidx k')) (zlQ op k a b)
 | .dat (.agg cs), .dat (.agg cs')=>match c.ty.at t with
  | some ti=>when_ (zlS ti&&zcQ ti.zero cs&&zcQ ti.zero cs') (eqPg op cs cs')
  | none=>Pg.fail
 | .kb a, .kb b=>match c.ty.at t with
  | some { k := .bool, .. } => zj1 op a b
  | _=>Pg.fail
 | .po _ _ _, .dat (.v (.pointer none)) | .ptr _ _, .dat (.v (.pointer none)) | .ep _, .dat (.v (.pointer none))=>match c.ty.at t with
  | some { k := .ptr, .. } => match op with
   | .eql=>one (.kb false)
   | .neq=>one (.kb true)
   | _=>Pg.fail
  | _=>Pg.fail
 | .pn _ q, .dat (.v (.pointer none))=>match c.ty.at t with
  | some { k := .ptr, .. } => match op with
   | .eql=>pnEq q true
   | .neq=>pnEq q false
   | _=>Pg.fail
  | _=>Pg.fail
 | .dat (.v (.pointer none)), .dat (.v (.pointer none))=>match c.ty.at t with
  | some { k := .ptr, .. } => match op with
   | .eql=>one (.kb true)
   | .neq=>one (.kb false)
   | _=>Pg.fail
  | _=>Pg.fail
 | x, .nil=>match c.ty.at t with
  | some { k := .slice _ _ _, .. } => match op with
   | .eql=>zbQ c true x
   | .neq=>zbQ c false x
   | _=>Pg.fail
  | _=>Pg.fail
 | _,_=>Pg.fail
def minS (a b:ByteArray):ByteArray:=if zhK b a=true then b else a
def mmPg (mx:Bool)(x y:Operand):Pg:=Pg.opd x λ sx=>Pg.opd y λ sy=>match sx,sy with
 | .dat (.v (.int k a)), .dat (.v (.int k' b))=>when_ (Nat.beq (kidx k) (kidx k')) (int? (bif mx then max a b else min a b) λ c=>one (.dat (.v (.int k c))))
 | .dat (.v (.string a)), .dat (.v (.string b))=>when_ (!mx) (Pg.ex (λ q:ByteArray=>q=minS a b) λ q=>one (.dat (.v (.string q))))
 | _,_=>Pg.fail
def znG (c:Ctx)(x:Operand)(t:TypeId):Pg:=Pg.opd x λ sx=>match c.ty.at t with
 | some { k := .slice .., .. } => match sx with
  | .nil=>one (.dat (.v (.int .i64 0)))
  | _=>Pg.fail
 | _=>Pg.fail
def zb0 (ti:TI):Option D:=bif ti.agg then (match SV.mkAgg ti.csz (ti.zero.map SV.ofV1) with
  | .dat d=>bif (ti.zero.map SV.ofV1).all SV.one then some d else none
  | _=>none)
 else match ti.zero with
  | [z]=>(SV.ofV1 z).toD1 (ti.csz.headD 0)
  | _=>none
def D.noTup:D->Bool
 | .tup _=>false
 | _=>true
def zj2 (c:Ctx)(t:TypeId):Bool:=match c.ty.at t with
 | some { k := .int _, .. } => true
 | _=>false
def zdH (c:Ctx)(s x:Operand)(t:TypeId)(id:Nat):Pg:=Pg.opd s λ ss=>Pg.opd x λ sx=>match ss,sx with
 | .nil, .dat (.v (.int _ n))=>match c.ty.at t with
  | some { k := .slice e es _, .. } => match c.ty.at e with
   | some te=>match zb0 te with
    | some z=>when_ (Nat.ble 1 es&&Nat.ble 1 te.bytes&&Nat.beq z.cells.length es&&D.noTup z) (cond (1<=n/\n*te.bytes<=140737488355328) (Pg.ex (λ q:Nat×List D=>q.1=n.toNat/\q.2=List.replicate n.toNat z) λ q=>Pg.ret ⟨.rs id q.1,[(id, .row e es q.2)]⟩))
    | none=>Pg.fail
   | none=>Pg.fail
  | _=>Pg.fail
 | _,_=>Pg.fail
def zj3 (c:Ctx)(t:TypeId):Bool:=match c.ty.at t with
 | some { k := .str, .. } => true
 | _=>false
def isU8 (te:TI):Bool:=match te.k with
 | .int .u8=>Nat.beq te.size 1&&Nat.beq te.bytes 1
 | _=>false
def ziY:SV->Option ByteArray
 | .dat (.v (.string s))=>some s
 | _=>none
def zdI (e es by' id:Nat)(ss:SV)(ns:List D):Pg:=match ss with
 | .nil=>cond (ns.length*by'<=140737488355328/\ns.length<=maxLen) (Pg.ex (λ q:Nat×List D=>q.1=ns.length/\q.2=ns) λ q=>Pg.ret ⟨.rs id q.1,[(id, .row e es q.2)]⟩)
 | .rs k n=>Pg.getB k fun
  | .row e' s' old=>when_ (Nat.beq e' e&&Nat.beq s' es) (cond (n<=old.length/\(n+ns.length)*by'<=140737488355328/\n+ns.length<=maxLen)
   (Pg.ex (λ q:Nat×List D=>q.1=n+ns.length/\q.2=old.take n++ns) λ q=>Pg.ret ⟨.rs id q.1,[(k, .dead),(id, .row e es q.2)]⟩))
  | _=>Pg.fail
 | _=>Pg.fail
def zdJ (c:Ctx)(s x:Operand)(t:TypeId)(id:Nat):Pg:=Pg.opd s λ ss=>Pg.opd x λ sx=>match c.ty.at t with
 | some { k := .slice e es _, .. } => match c.ty.at e with
  | some te=>when_ (isU8 te&&Nat.beq es 1) (match ziY sx with
   | some str=>Pg.ex (λ ns:List D=>ns=str.data.toList.map λ b=>.v (.int .u8 b.toNat)) λ ns=>zdI e es te.bytes id ss ns
   | none=>Pg.fail)
  | none=>Pg.fail
 | _=>Pg.fail
def zeW (x:Operand):Pg:=Pg.opd x fun
 | .rs k n=>Pg.getB k fun
  | .row _ s _=>cond (n≠0) (one (.rp k s 0 0))
  | _=>Pg.fail
 | _=>Pg.fail
def zdr:List D->Option (List UInt8)
 | []=>some []
 | .v (.int .u8 n)::r=>match zdr r with
  | some l=>some (UInt8.ofNat n.toNat::l)
  | none=>none
 | _::_=>none
def zlW:SV->Option (Nat×Nat×Nat×Nat)
 | .rp k s i j=>some (k,s,i,j)
 | _=>none
def ziZ:SV->Option Int
 | .dat (.v (.int .i64 n))=>some n
 | _=>none
def zhL (c:Ctx)(x y:Operand)(pt:TypeId):Pg:=Pg.opd x λ sx=>Pg.opd y λ sy=>match c.ty.at pt with
 | some tp=>match zlW sx with
  | some (k,s,i,j)=>match ziZ sy with
   | some n=>when_ (Nat.beq i 0&&Nat.beq j 0) (Pg.getB k fun
    | .row e s' es=>when_ (Nat.beq s' 1&&Nat.beq s s'&&Nat.beq tp.pe e && !Nat.beq e 0) (match c.ty.at e with
     | some te=>when_ (isU8 te) (cond (n=es.length/\es≠[]) (Pg.ex (λ q:List UInt8=>zdr es=some q) λ q=>Pg.ret ⟨.dat (.v (.string ⟨q.toArray⟩)),[(k, .dead)]⟩))
     | none=>Pg.fail)
    | _=>Pg.fail)
   | none=>Pg.fail
  | none=>Pg.fail
 | none=>Pg.fail
def znH (_:TI):Bool:=false
def zqt (c:Ctx)(t:TypeId):Bool:=match c.ty.at t with
 | some { k := .slice e _ _, .. } => (match c.ty.at e with
  | some te=>znH te
  | none=>false)
 | _=>false
def zgB (c:Ctx)(s x:Operand)(t t':TypeId)(id:Nat):Pg:=Pg.opd s λ ss=>Pg.opd x λ sx=>match c.ty.at t with
 | some { k := .slice e es _, .. } => match c.ty.at e with
  | some te=>when_ (Nat.beq t t'&&Nat.ble 1 es) (match sx with
   | .rs q n' => Pg.getB q fun
    | .sn e2 s2 ea none ns=>when_ (Nat.beq e2 e&&Nat.beq s2 es) (cond (n'=ns.length) (match ss with
     | .nil=>cond (ns.length*te.bytes<=140737488355328/\ns.length<=maxLen) (Pg.ex (λ r:Nat×List (List MC)=>r.1=ns.length/\r.2=ns) λ r=>Pg.ret ⟨.rs id r.1,[(q, .dead),(id, .sn e es ea none r.2)]⟩)
     | .rs k n=>when_ (!Nat.beq k q) (Pg.getB k fun
      | .sn e1 s1 ea1 none old=>when_ (Nat.beq e1 e&&Nat.beq s1 es&&(ea1 == ea)) (cond (n=old.length/\(n+ns.length)*te.bytes<=140737488355328/\n+ns.length<=maxLen) (Pg.ex (λ r:Nat×List (List MC)=>r.1=n+ns.length/\r.2=old++ns) λ r=>Pg.ret ⟨.rs id r.1,[(q, .dead),(k, .dead),(id, .sn e es ea none r.2)]⟩))
      | _=>Pg.fail)
     | _=>Pg.fail))
    | _=>Pg.fail
   | _=>Pg.fail)
  | none=>Pg.fail
 | _=>Pg.fail
def zeX (c:Ctx)(b:Builtin)(args:List Operand)(ts:List TypeId)(id:Nat):Pg :=
 match b with
 | .len=>match args,ts with
  | [x],[t]=>zpe c x t
  | _,_=>Pg.fail
 | .cap=>match args,ts with
  | [x],[t]=>znG c x t
  | _,_=>Pg.fail
 | .append=>match args,ts with
  | [s,x],[t,t']=>fresh id <| bif zj2 c t' then zdH c s x t id else bif zj3 c t' then zdJ c s x t id else bif zqt c t then zgB c s x t t' id else zgA c s x t t' id
  | _,_=>Pg.fail
 | .max=>match args with
  | [x,y]=>mmPg true x y
  | _=>Pg.fail
 | .min=>match args with
  | [x,y]=>mmPg false x y
  | _=>Pg.fail
 | .unsafeSliceData=>match args,ts with
  | [x],[_]=>zeW x
  | _,_=>Pg.fail
 | .unsafeString=>match args,ts with
  | [x,y],[pt,_]=>zhL c x y pt
  | _,_=>Pg.fail
 | _=>Pg.fail
def zdK:TK->Bool
 | .int _ | .bool | .str | .slice .. | .arr .. | .struct _=>true
 | _=>false
def zj4 (c:Ctx)(t:TypeId)(n:String):Option FuncId:=match c.ty.at t with
 | some ti=>bif zdK ti.k then (ti.meth.find? λ x=>x.1 == n).map (·.2) else none
 | none=>none
def zdL (c:Ctx)(r:Operand)(n:String)(args:List Operand)(id:Nat):Pg:=Pg.opd r λ sr=>Pg.opds args λ l=>match sr with
 | .dat (.ifc t d)=>match zj4 c t n with
  | some f=>match c.fn f with
   | some g=>g (SV.ofD d::l) id
   | none=>Pg.fail
  | none=>Pg.fail
 | _=>Pg.fail
def zlX (c:Ctx)(ci:Call)(id:Nat):Pg :=
 match ci.callee with
 | .builtin b=>zeX c b ci.args.toList ci.argTypes.toList id
 | .value f=>ziW c f ci.args.toList id
 | .invoke r n=>zdL c r n ci.args.toList id
def SV.notNo:SV->Bool
 | .no=>false
 | _=>true
def mkFn (fid:FuncId)(a l:List SV):Pg:=when_ ((a++l).all SV.notNo) (match a,l with
 | [],[]=>one (.dat (.v (.func (.func fid) #[] #[])))
 | a,l=>one (.fn fid a l))
def zci (f:Fn)(first caps:List Operand):Pg :=
 match f with
 | .method n=>match caps with
  | []=>Pg.opds first λ a=>match a with
   | [x]=>match x with
    | .dat (.ifc t _)=>one (.fm n t)
    | _=>Pg.fail
   | _=>Pg.fail
  | _=>Pg.fail
 | .func fid=>Pg.opds first λ a=>Pg.opds caps λ l=>mkFn fid a l
 | _=>Pg.fail
def unPg (u:UnOp)(x:Operand):Pg :=
 match u with
 | .not=>notPg x
 | .neg=>negPg x
 | _=>Pg.fail
def zj5:IntKind->IntKind->Bool
 | .u8, .u8 | .u8, .u16 | .u8, .u32 | .u8, .u64 | .u8, .i16 | .u8, .i32 | .u8, .i64=>true
 | .u16, .u16 | .u16, .u32 | .u16, .u64 | .u16, .i32 | .u16, .i64=>true
 | .u32, .u32 | .u32, .u64 | .u32, .i64=>true
 | .u64, .u64=>true
 | .i8, .i8 | .i8, .i16 | .i8, .i32 | .i8, .i64=>true
 | .i16, .i16 | .i16, .i32 | .i16, .i64=>true
 | .i32, .i32 | .i32, .i64=>true
 | .i64, .i64=>true
 | _,_=>false
def zlY (ti:TI):Bool:=match ti.k with
 | .arr .. => Nat.ble 9 ti.size
 | _=>false
def zlZ (c:Ctx)(t:TypeId):Bool:=match c.ty.at t with
 | some ti=>zlY ti
 | none=>false
def zqu (ti:TI)(q:List D):Prop:=zaM [] (ti.zero.map SV.ofV1)=some q
def zqv (ti:TI)(q:List D):Prop:=(ti.zero.map SV.ofV1).all SV.one=true/\SV.mkAgg ti.csz (ti.zero.map SV.ofV1) = .dat (.agg q)
def keyD (ti:TI)(d:D):Bool:=match ti.k with
 | .int k=>match d with
  | .v (.int k' _)=>Nat.beq (kidx k) (kidx k')
  | _=>false
 | .bool=>match d with
  | .v (.bool _)=>true
  | _=>false
 | .str=>match d with
  | .v (.string _)=>true
  | _=>false
 | .struct _ | .arr .. => match d with
  | .agg cs=>zcQ ti.zero cs
  | _=>false
 | _=>false
open Classical in
noncomputable def zgC (z d:D):List (D×D)->D×Bool
 | []=>(z,false)
 | p::r=>if p.1=d then (p.2,true) else zgC z d r
open Classical in
noncomputable def setD (d v:D):List (D×D)->List (D×D)
 | []=>[(d,v)]
 | p::r=>if p.1=d then (d,v)::r else p::setD d v r
def zhM (c:Ctx)(t:TypeId):Option (TI×TI):=match c.ty.at t with
 | some { k := .mp kt et, .. } => (match c.ty.at kt,c.ty.at et with
  | some tk,some te=>some (tk,te)
  | _,_=>none)
 | _=>none
def zqw (te:TI):Bool:=match zb0 te with
 | some (.v (.pointer none))=>true
 | _=>false
def zl0:TK->Bool
 | .ptr=>true
 | _=>false
def LookR (d:D)(es:List (D×List MC))(t:Option Nat):Prop :=
 (t=none->∀ p,p∈es->p.1≠d)/\∀ i,t=some i->(∃ x,es[i]? = some (d,x))/\∀ j q,j<i->es[j]? = some q->q.1≠d
def zhN (c:Ctx)(t:TypeId)(sx si:SV)(ok:Bool):Pg:=match zhM c t with
 | some (tk,te)=>match sx with
  | .mp k=>Pg.getB k fun
   | .mp es=>match si.toD1 0 with
    | some d=>match zb0 te with
     | some z=>when_ (keyD tk d) (cond (∀ p,p∈es->keyD tk p.1=true) (Pg.ex (λ q:D×Bool=>q=zgC z d es) λ q=>bif ok then one (.tup [SV.ofD q.1, .kb q.2]) else one (SV.ofD q.1)))
     | none=>Pg.fail
    | none=>Pg.fail
   | .fam _ es _=>match si.toD1 0 with
    | some d=>when_ (keyD tk d && !ok&&zqw te) (cond (∀ p,p∈es->keyD tk p.1=true) (Pg.or (λ e m l K =>
      ((∀ p,p∈es->p.1≠d)->one nilP e m l K)/\∀ i x,es[i]? = some (d,x)->(∀ j q,j<i->es[j]? = some q->q.1≠d)->one (.po k i 0) e m l K) (Pg.ex (λ t:Option Nat=>LookR d es t) λ t=>one (.pn k t))))
    | none=>Pg.fail
   | _=>Pg.fail
  | .dat (.mp es)=>match si.toD1 0 with
    | some d=>match zb0 te with
     | some z=>when_ (keyD tk d) (cond (∀ p,p∈es->keyD tk p.1=true) (Pg.ex (λ q:D×Bool=>q=zgC z d es) λ q=>bif ok then one (.tup [SV.ofD q.1, .kb q.2]) else one (SV.ofD q.1)))
     | none=>Pg.fail
    | none=>Pg.fail
  | _=>Pg.fail
 | none=>Pg.fail
def zaw (ks:List Nat)(m:Nat->Blk):List MC->List SV->Option (List MC×List Nat)
 | [],[]=>some ([],[])
 | y::ys,x::xs=>match zaw ks m ys xs with
  | some (r,ds)=>match y,x with
   | .r e s _, .rs z n=>match m z with
    | .row e' s' l=>bif Nat.beq e e'&&Nat.beq s s'&&Nat.beq n l.length then some (.r e s l::r,z::ds) else none
    | _=>none
   | .r e s _, .nil=>some (.r e s []::r,ds)
   | .m _, .mp z=>match m z with
    | .mp l=>some (.m l::r,z::ds)
    | _=>none
   | y,x=>match y.put ks x with
    | some y' => some (y'::r,ds)
    | none=>none
  | none=>none
 | _,_=>none
def MC.dr:MC->Bool
 | .d _=>true
 | .r _ _ _=>true
 | _=>false
def zcj (e es:Nat)(ea:Bool)(n id:Nat)(l:List (Nat×SV)):Pg:=match l with
 | [(0,x)]=>match x.cells with
  | some cs=>bif Nat.beq n 1&&Nat.beq cs.length es&&Nat.ble 1 es&&Nat.ble es 16777216&&cs.all SV.one then
    Pg.ex (λ y:List MC=>y.length=cs.length) λ sh=>λ e0 m lg K=>match zaw [] m sh cs with
     | some (ys,ds)=>(ds.Nodup/\ys.all MC.dr=true)/\Pg.ret ⟨.rs id 1,(ds.map λ z=>(z, .dead))++[(id, .sn e es ea none [ys])]⟩ e0 m ((ds.map Loc.b)++lg) K
     | none=>False
   else Pg.fail
  | none=>Pg.fail
 | _=>Pg.fail
def zkN (c:Ctx)(t:TypeId)(sx si sv:SV):Pg:=match zhM c t with
 | some (tk,te)=>match sx with
  | .mp k=>Pg.getB k fun
   | .fam ks es outs=>match si.toD1 0 with
    | some d=>match sv with
     | .ptr q 0=>when_ (keyD tk d&&zl0 te.k && !Nat.beq q k) (cond ((∀ p,p∈es->keyD tk p.1=true)/\∀ p,p∈es->p.1≠d) (Pg.getB q fun
      | .box l=>Pg.ex (λ y:List MC=>y.length=l.length) λ sh=>λ e m lg K=>match zaw ks m sh l with
       | some (cs,ds)=>(l.all SV.one=true/\(ds.all λ z=>!Nat.beq z k && !Nat.beq z q)=true/\ds.Nodup) /\
         ∃ r:List (D×List MC),r=es++[(d,cs)]/\Pg.ret ⟨.no,(ds.map λ z=>(z, .dead))++[(q, .dead),(k, .fam ks r outs)]⟩ e m ((ds.map Loc.b)++lg) K
       | none=>False
      | _=>Pg.fail))
     | _=>Pg.fail
    | none=>Pg.fail
   | .mp es=>match si.toD1 0 with
    | some d=>match sv.toD1 (te.csz.headD 0) with
     | some v=>when_ (keyD tk d) (cond (∀ p,p∈es->keyD tk p.1=true) (Pg.ex (λ q:List (D×D)=>q=setD d v es) λ q=>Pg.ret ⟨.no,[(k, .mp q)]⟩))
     | none=>Pg.fail
    | none=>Pg.fail
   | _=>Pg.fail
  | _=>Pg.fail
 | none=>Pg.fail
def zcR (c:Ctx)(t:TypeId)(r:Option Operand)(id:Nat):Pg:=match r with
 | none=>match zhM c t with
  | some (_,te)=>bif zl0 te.k then Pg.ret ⟨.mp id,[(id, .fam [] [] [])]⟩ else Pg.ret ⟨.mp id,[(id, .mp [])]⟩
  | none=>match c.ty.at t with
   | some { k := .mp _ _, .. } => Pg.ret ⟨.mp id,[(id, .mp [])]⟩
   | _=>Pg.fail
 | some _=>Pg.fail
def nilZ:List Value->Bool
 | [.slice none 0 0]=>true
 | _=>false
def zpf (te:TI):Option (Nat×Nat):=match te.k with
 | .slice e' es' _=>bif Nat.beq te.size 1&&Nat.ble 1 te.bytes && !te.agg&&nilZ te.zero then some (e',es') else none
 | _=>none
def zbV (c:Ctx)(t:TypeId)(sn sc:SV)(id:Nat):Pg:=match sn,sc with
  | .dat (.v (.int _ n)), .dat (.v (.int _ n'))=>match c.ty.at t with
    | some { k := .slice e es _, .. } => match c.ty.at e with
      | some te=>match zpf te with
       | some (e',es')=>when_ (Nat.beq es 1) (cond (0<=n/\n<=n'/\n'*te.bytes<=140737488355328) (Pg.ex (λ q:Nat×List (List MC)=>q.1=n.toNat/\q.2=List.replicate n.toNat [.r e' es' []]) λ q=>Pg.ret ⟨.rs id q.1,[(id, .sn e 1 false none q.2)]⟩))
       | none=>match zb0 te with
        | some z=>when_ (Nat.ble 1 es&&Nat.ble 1 te.bytes&&Nat.beq z.cells.length es&&D.noTup z) (cond (0<=n/\n<=n'/\n'*te.bytes<=140737488355328) (Pg.ex (λ q:Nat×List D=>q.1=n.toNat/\q.2=List.replicate n.toNat z) λ q=>Pg.ret ⟨.rs id q.1,[(id, .row e es q.2)]⟩))
        | none=>Pg.fail
      | none=>Pg.fail
    | _=>Pg.fail
  | _,_=>Pg.fail
def zeY (c:Ctx)(t:TypeId)(sx:SV)(id:Nat):Pg:=match c.ty.at t with
 | some { k := .str, .. } => match sx with
  | .dat (.v (.string s))=>Pg.ret ⟨.ptr id 0,[(id, .sit s 0)]⟩
  | _=>Pg.fail
 | some { k := .mp _ _, .. } => match sx with
  | .dat (.mp es)=>Pg.ret ⟨.ptr id 0,[(id, .mit es [])]⟩
  | _=>Pg.fail
 | _=>Pg.fail
def zdM (s:ByteArray)(p:Nat):Int×Nat:=((Utf8.decode s p).1,p+(Utf8.decode s p).2)
def zhO (sx:SV):Pg:=match sx with
 | .ptr k 0=>Pg.getB k fun
  | .sit s p=>Pg.both (decide (p<s.size)) (Pg.ex (λ q:Int×Nat=>q=zdM s p) λ q=>Pg.ret ⟨.tup [.kb true, .dat (.v (.int .i64 p)), .dat (.v (.int .i32 q.1))],[(k, .sit s q.2)]⟩) (one (.tup [.kb false]))
  | _=>Pg.fail
 | _=>Pg.fail
def zeZ (sx:SV):Pg:=match sx with
 | .ptr k 0=>Pg.getB k fun
  | .mit es seen=>Pg.ex (λ p:D×D=>∃ i r,seen=i::r/\es[i]? = some p) λ p=>one (.tup [SV.ofD p.1,SV.ofD p.2])
  | _=>Pg.fail
 | _=>Pg.fail
def zgD (sx:SV):Pg:=match sx with
 | .ptr k 0=>Pg.getB k fun
  | .mit es seen=>λ e m l K=>(∀ i p,es[i]? = some p->i ∉ seen->Pg.ret ⟨.tup [.kb true,SV.ofD p.1,SV.ofD p.2],[(k, .mit es (i::seen))]⟩ e m l K) /\
    ((∀ i,i<es.length->i∈seen)->one (.tup [.kb false]) e m l K)
  | _=>Pg.fail
 | _=>Pg.fail
def zgE (c:Ctx)(e:TypeId)(sx:SV):Pg:=match c.ty.at e with
 | some { k := .int .u8,size:=1, .. } => Pg.elems 1 sx λ ds=>Pg.ex (λ q:List UInt8=>zdr ds=some q/\ds.length<=maxLen) λ q=>one (.dat (.v (.string ⟨q.toArray⟩)))
 | _=>Pg.fail
def zdN (c:Ctx)(e:TypeId)(sx:SV)(id:Nat):Pg:=match c.ty.at e with
 | some { k := .int .u8,size:=1, .. } => match sx with
  | .dat (.v (.string s))=>Pg.ex (λ q:List D=>q=s.data.toList.map λ b=>.v (.int .u8 b.toNat)) λ q=>Pg.or (one (.dat (.sl 1 q))) (fresh id (Pg.ex (λ n:Nat=>n=q.length) λ n=>Pg.ret ⟨.rs id n,[(id, .row e 1 q)]⟩))
  | _=>Pg.fail
 | _=>Pg.fail
def zhP (c:Ctx)(src dst:TypeId)(sx:SV)(id:Nat):Pg:=match c.ty.at src,c.ty.at dst with
  | some _,some { k := .int k, .. } => match sx with
   | .dat (.v (.int k' n))=>bif zj5 k' k then one (.dat (.v (.int k n))) else int? (k.wrap n) λ c=>one (.dat (.v (.int k c)))
   | _=>Pg.fail
  | some { k := .slice e _ _, .. },some { k := .str, .. } => zgE c e sx
  | some { k := .str, .. },some { k := .slice e _ _, .. } => zdN c e sx id
  | some { k := .str, .. },some { k := .str, .. } => match sx with
   | .dat (.v (.string s))=>one (.dat (.v (.string s)))
   | _=>Pg.fail
  | _,_=>Pg.fail
def zpg:TK->Bool
 | .slice .. => true
 | _=>false
def zl1 (l:List (Nat×SV))(ds:List D):List (Nat×SV):=(l.zip ds).map λ p=>(p.1.1,SV.dat p.2)
def zdO (csz:List Nat)(e es n id:Nat)(l:List (Nat×SV)):Pg :=
 Pg.datas1 (List.replicate l.length (csz.headD 0)) (l.map (·.2)) λ ds ws=>match zbE csz false es 0 (zl1 l ds) with
  | some ds' => bif Nat.beq ds'.length n&&Nat.ble (n*es) 16777216&&Nat.ble 1 es then Pg.ret ⟨.rs id n,ws++[(id, .row e es ds')]⟩ else Pg.fail
  | none=>Pg.fail
def ze0 (c:Ctx)(t:TypeId)(sv:SV):Pg:=match c.ty.at t with
 | some ti=>when_ (zdK ti.k) (match sv with
  | .dat d=>one (.dat (.ifc t d))
  | .kb b=>one (.dat (.ifc t (.v (.bool b))))
  | _=>Pg.fail)
 | none=>Pg.fail
def zf6 (ti:TI):Pg:=match ti.zero with
 | [z]=>when_ (!ti.agg&&(SV.ofV1 z).one) (one (.tup [SV.ofV1 z, .kb false]))
 | _=>Pg.fail
def zdP (c:Ctx)(at':TypeId)(ok:Bool)(sv:SV):Pg:=when_ ok (match c.ty.at at' with
 | some ti=>when_ (zdK ti.k) (match sv with
  | .dat (.ifc t d)=>bif Nat.beq t at' then one (.tup [SV.ofD d, .kb true]) else zf6 ti
  | .dat (.v .nilIface)=>zf6 ti
  | _=>Pg.fail)
 | none=>Pg.fail)
def mvPg (sv:SV):Pg:=match sv with
 | .pn k t=>Pg.or (one (.pn k t)) (Pg.or (Pg.ex (λ j:Nat=>t=some j) λ j=>one (.po k j 0)) (cond (t=none) (one nilP)))
 | x=>one x
def zdQ (c:Ctx)(sv:SV):Pg:=match sv with
 | .ptr .. | .ep .. | .rp .. | .po .. => one sv
 | .fm n t=>match zj4 c t n with
  | some _=>one (.fm n t)
  | none=>Pg.fail
 | _=>Pg.fail
def slfZ:List Value->Option (List Value)
 | .pointer none::r=>some r
 | _=>none
def zf7 (t:TypeId)(z:List Value)(id:Nat):Pg:=match slfZ z with
 | some r=>bif (r.map SV.ofV1).all SV.one then boxed (.ptr id 0) id (.slf id t::r.map SV.ofV1) else Pg.fail
 | none=>Pg.fail
def opPg (c:Ctx)(o:Oper)(id:Nat):Pg :=
 match o.op with
 | .move x | .assign x=>Pg.opd x mvPg
 | .pick g a b=>Pg.opd g fun
  | .kb c=>Pg.both c (Pg.opd a one) (Pg.opd b one)
  | _=>Pg.fail
 | .box t x=>fresh id <| Pg.opd x λ sv=>bif zlZ c t then (match sv with
  | .dat (.agg ds)=>Pg.ret ⟨.ptr id 0,[(id, .arr ds)]⟩
  | _=>Pg.fail) else match sv.cells with
  | some cs=>bif cs.all SV.one then boxed (.ptr id 0) id cs else Pg.fail
  | none=>Pg.fail
 | .alloc t=>fresh id <| match c.ty.at t with
  | some ti=>match ti.k with
   | .arr .. => Pg.or (bif Nat.ble ti.size 8 then (bif (ti.zero.map SV.ofV1).all SV.one then boxed (.ptr id 0) id (ti.zero.map SV.ofV1) else Pg.fail) else Pg.fail) <| Pg.ex (zqu ti) λ q=>Pg.ret ⟨.ptr id 0,[(id, .arr q)]⟩
   | _=>bif ti.slf then zf7 t ti.zero id else bif (ti.zero.map SV.ofV1).all SV.one then boxed (.ptr id 0) id (ti.zero.map SV.ofV1) else Pg.fail
  | none=>Pg.fail
 | .load t a=>Pg.opd a λ sv=>match c.ty.at t with
  | some ti=>zf5 ti sv id
  | none=>Pg.fail
 | .store t a x=>Pg.opd a λ sa=>Pg.opd x λ sx=>match c.ty.at t with
  | some ti=>zc7 ti sa sx
  | none=>Pg.fail
 | .nilCheck x=>Pg.opd x λ sv=>zdQ c sv
 | .build t ps=>match c.ty.at t with
  | some ti=>bif zlY ti then (match ps.toList with
    | []=>Pg.ex (zqv ti) λ q=>one (.dat (.agg q))
    | _=>Pg.fail)
   else bif ti.k.comp&&(ti.zero.map SV.ofV1).all SV.one then Pg.parts ps.toList λ l=>match zdk ti.k.place (ti.zero.map SV.ofV1) l with
    | some cs=>bif cs.all SV.one then one (SV.mkAgg ti.csz cs) else Pg.fail
    | none=>Pg.fail
   else Pg.fail
  | none=>Pg.fail
 | .buildSlice t n ps=>fresh id <| match c.ty.at t with
  | some { k := .slice e es eagg, .. } => match c.ty.at e with
   | some te=>Pg.parts ps.toList λ l=>bif zpg te.k then zdO te.csz e es n id l else bif znH te then zcj e es eagg n id l else match zbE te.csz eagg es 0 l with
    | some ds=>bif Nat.beq ds.length n&&Nat.ble (n*es) 16777216&&Nat.ble 1 es then Pg.ret ⟨.rs id n,[(id, .row e es ds)]⟩ else Pg.fail
    | none=>Pg.fail
   | none=>Pg.fail
  | _=>Pg.fail
 | .fieldAddr t x f=>Pg.opd x λ sv=>match c.ty.at t with
  | some { k := .struct fs, .. } => match fs[f]? with
   | some (off,size,_)=>bif Nat.beq size 0 then Pg.fail else match sv with
    | .ptr k o=>one (.ptr k (o+off))
    | .po k i o=>one (.po k i (o+off))
    | .ep cs=>one (.ep (cs.drop off))
    | .rp k s i j=>one (.rp k s i (j+off))
    | _=>Pg.fail
   | none=>Pg.fail
  | _=>Pg.fail
 | .indexAddr t x i=>Pg.opd x λ sv=>Pg.opd i λ si=>match c.ty.at t with
  | some { k := .slice _ es _, .. } => match sv with
   | .dat (.sl s l) | .csl s l=>when_ (Nat.beq s es) (zbU l.length si λ n=>Pg.ex (λ e:D=>l[n]? = some e) λ e=>one (.ep e.cells))
   | .rs k n=>Pg.getB k fun
    | .row _ s l=>when_ (Nat.beq s es) (cond (n<=l.length) (zbU n si λ m=>one (.rp k s m 0)))
    | .fz _ s l=>when_ (Nat.beq s es) (cond (n<=l.length) (zbU n si λ m=>Pg.ex (λ e:D=>l[m]? = some e) λ e=>one (.ep e.cells)))
    | .sn _ s _ _ _=>when_ (Nat.beq s es) (zbU n si λ m=>one (.rp k s m 0))
    | _=>Pg.fail
   | .as k n=>zbU n si λ m=>one (.ptr k (m*es))
   | _=>Pg.fail
  | some { k := .arr n es _, .. } => match sv with
   | .ptr k o=>zbU n si λ m=>one (.ptr k (o+m*es))
   | .ep cs=>zbU n si λ m=>Pg.ex (λ q:List D=>q=cs.drop (m*es)) λ q=>one (.ep q)
   | .rp k s i j=>zbU n si λ m=>one (.rp k s i (j+m*es))
   | _=>Pg.fail
  | _=>Pg.fail
 | .binOp op t x y _=>Pg.opd x λ sx=>Pg.opd y λ sy=>zlV c op t sx sy
 | .convert src dst x=>Pg.opd x λ sx=>zhP c src dst sx id
 | .index t x i=>Pg.opd x λ sx=>Pg.opd i λ si=>zeV c t sx si
 | .range t x=>fresh id <| Pg.opd x λ sx=>zeY c t sx id
 | .next x s=>Pg.opd x λ sx=>bif s then zhO sx else bif c.dem then zgD sx else Pg.fail
 | .entry x=>Pg.opd x zeZ
 | .makeSlice t n n' => fresh id <| Pg.opd n λ sn=>Pg.opd n' λ sc=>zbV c t sn sc id
 | .unOp u _ x=>unPg u x
 | .makeMap t r=>fresh id <| zcR c t r id
 | .lookup t x i ok=>Pg.opd x λ sx=>Pg.opd i λ si=>zhN c t sx si ok
 | .insert t x i v=>Pg.opd x λ sx=>Pg.opd i λ si=>Pg.opd v λ sv=>zkN c t sx si sv
 | .mapUpdate t x i v=>Pg.opd x λ sx=>Pg.opd i λ si=>Pg.opd v λ sv=>zkN c t sx si sv
 | .makeFunc f first caps=>zci f first.toList caps.toList
 | .call ci=>zlX c ci id
 | .slice t x lo hi mx=>zdG c t x lo hi mx id
 | .field t x f=>Pg.opd x λ sv=>match c.ty.at t with
  | some { k := .struct fs, .. } => match fs[f]? with
   | some (off,size,agg)=>bif Nat.beq size 1 && !agg then (match sv with
     | .dat (.agg cs)=>match cs[off]? with
      | some d=>one (SV.ofD d)
      | none=>Pg.fail
     | .agg cs=>match cs[off]? with
      | some s=>one s
      | none=>Pg.fail
     | _=>Pg.fail)
    else Pg.fail
   | none=>Pg.fail
  | _=>Pg.fail
 | .makeInterface t x=>Pg.opd x λ sv=>ze0 c t sv
 | .typeAssert x _ t ok=>Pg.opd x λ sv=>zdP c t ok sv
 | .extract x i=>Pg.opd x fun
  | .dat (.tup l)=>match l[i]? with
   | some d=>one (SV.ofD d)
   | none=>Pg.fail
  | .tup l=>match l[i]? with
   | some s=>one s
   | none=>Pg.fail
  | _=>Pg.fail
 | _=>Pg.fail
def Pg.datas:List (List Nat)->List SV->(List D->List (Nat×Blk)->Pg)->Pg
 | _,[],k=>k [] []
 | zs,x::l,k=>Pg.data (zs.headD []) x λ d w=>Pg.datas zs.tail l λ ds ws=>k (d::ds) (w++ws)
def zj6 (zs:List (List Nat))(G:List D->D->Prop)(args:List SV)(id:Nat):Pg :=
 Pg.datas zs args λ ds ws=>Pg.ex (λ d:D=>G ds d) λ d=>Pg.ret ⟨SV.ofD d,ws⟩
def zbr:List MC->List D
 | .d x::r=>x::zbr r
 | .r _ s l::r=>.sl s l::zbr r
 | .m l::r=>.mp l::zbr r
 | _=>[]
def famD (es:List (D×List MC)):List (D×D):=es.map λ p=>(p.1, .pt (zbr p.2))
def zph (es:List (D×List MC)):Prop:=∀ p,p∈es->(zbr p.2).length=p.2.length
def Pg.lend1 (z:Nat)(x:SV)(k:D->Pg):Pg :=
 match x with
 | .rs b n=>Pg.getB b fun
  | .row e s es=>cond (n<=es.length) (Pg.ex (λ q:List D=>q=es.take n) λ q=>k (.sl s q))
  | .fz e s es=>cond (n<=es.length) (Pg.ex (λ q:List D=>q=es.take n) λ q=>k (.sl s q))
  | .sn e s ea none es=>cond (n=es.length/\snOK s ea es) (Pg.ex (λ q:List D=>q=es.map (snD ea)) λ q=>k (.sl s q))
  | _=>Pg.fail
 | .po b i o=>when_ (Nat.beq o 0) (Pg.getB b fun
  | .fam _ es []=>Pg.ex (λ p:D×List MC=>es[i]? = some p) λ p=>k (.pt (zbr p.2))
  | _=>Pg.fail)
 | x=>match x.toD1 z with
  | some d=>k d
  | none=>Pg.fail
def Pg.lends1:List Nat->List SV->(List D->Pg)->Pg
 | _,[],k=>k []
 | zs,x::l,k=>Pg.lend1 (zs.headD 0) x λ d=>Pg.lends1 zs.tail l λ ds=>k (d::ds)
def Pg.lend (csz:List Nat)(x:SV)(k:D->Pg):Pg :=
 match x with
 | .agg l=>Pg.lends1 csz l λ ds=>k (.agg ds)
 | .ptr b o=>when_ (Nat.beq o 0) (Pg.getB b fun
  | .box l=>Pg.lends1 csz l λ ds=>k (.pt ds)
  | _=>Pg.fail)
 | x=>Pg.lend1 (csz.headD 0) x k
def Pg.lends:List (List Nat)->List SV->(List D->Pg)->Pg
 | _,[],k=>k []
 | zs,x::l,k=>Pg.lend (zs.headD []) x λ d=>Pg.lends zs.tail l λ ds=>k (d::ds)
def D.plain:D->Bool
 | .v _=>true
 | _=>false
def D.flat1:D->Bool
 | .v _=>true
 | .agg cs=>cs.all D.plain
 | _=>false
def D.flatB:D->Bool
 | .tup ds=>ds.all D.flat1
 | d=>d.flat1
def lendPg (zs:List (List Nat))(G:List D->D->Prop)(args:List SV)(id:Nat):Pg :=
 Pg.lends zs args λ ds=>Pg.ex (λ d:D=>G ds d/\d.flatB=true) λ d=>Pg.ret ⟨SV.ofD d,[]⟩
def St.app (st:St)(dst:Option Nat)(δ:Dl):St :=
 { env:=match dst with|some d=>(d,δ.val)::st.env|none=>st.env,mem:=δ.wr++st.mem }
def zav (env:Nat->SV)(ops:List Oper)(g:Option (Nat×Bool)):Option Bool :=
 match g with
 | none=>some true
 | some (j,want)=>match (ops[j]?).bind (·.dst) with
  | some t=>match env t with
   | .kb b=>match want with
    | true=>some b
    | false=>some (!b)
   | .tup l=>match l with
    | []=>some false
    | _::_=>none
   | _=>none
  | none=>none
def zdR:Blk->Bool
 | .unborn=>false
 | _=>true
def zc (k z:Nat)(m:Nat->Blk)(ks:List Nat)(r:List (D×List MC))(t:List (Nat×Nat×Nat)):Prop :=
 ∃ es outs i o,m k = .fam ks es outs/\outs=(i,o,z)::t/\¬ zeH t i o/\z≠k /\
  ((∃ e s l l0,m z = .row e s l/\mcAt es i o=some (.r e s l0)/\l.length=l0.length/\r=zaJ es i o (.r e s l)) ∨ ∃ l l0,m z = .mp l/\mcAt es i o=some (.m l0)/\r=zaJ es i o (.m l))
def St.settledF (st:St)(k z:Nat)(ks:List Nat)(r:List (D×List MC))(t:List (Nat×Nat×Nat)):St:={ env:=st.env,mem:=(z, .dead)::(k, .fam ks r t)::st.mem }
def St.takenR (st:St)(k z i o:Nat)(e:TypeId)(s:Nat)(l:List D)(ks:List Nat)(es:List (D×List MC))(outs:List (Nat×Nat×Nat)):St:={ env:=st.env,mem:=(z, .row e s l)::(k, .fam ks es ((i,o,z)::outs))::st.mem }
def TakeF (p k z i o:Nat)(e:TypeId)(s:Nat)(l:List D)(ks:List Nat)(es:List (D×List MC))(outs:List (Nat×Nat×Nat))(m:Nat->Blk):Prop :=
 m k = .fam ks es outs/\mcAt es i o=some (.r e s l)/\¬ zeH outs i o/\Nat.ble p z=true/\m z = .unborn
def St.takenS (st:St)(k z i o:Nat)(e':TypeId)(s':Nat)(l:List D)(e:TypeId)(s:Nat)(ea:Bool)(es:List (List MC)):St:={ env:=st.env,mem:=(z, .row e' s' l)::(k, .sn e s ea (some (i,o,z)) es)::st.mem }
def TakeS (p k z i o:Nat)(e':TypeId)(s':Nat)(l:List D)(e:TypeId)(s:Nat)(ea:Bool)(es:List (List MC))(m:Nat->Blk):Prop :=
 m k = .sn e s ea none es/\snAt es i o=some (.r e' s' l)/\Nat.ble p z=true/\m z = .unborn
def TakeX (p:Nat)(st st2:St):Prop:=(∃ k z i o e s l ks es outs,TakeF p k z i o e s l ks es outs st.m/\st2=st.takenR k z i o e s l ks es outs) ∨
 ∃ k z i o e' s' l e s ea es,TakeS p k z i o e' s' l e s ea es st.m/\st2=st.takenS k z i o e' s' l e s ea es
def St.kid (st:St)(k k':Nat)(ks:List Nat)(es:List (D×List MC))(outs:List (Nat×Nat×Nat)):St:={ env:=st.env,mem:=(k, .fam (ks++[k']) es outs)::st.mem }
def St.frzF (st:St)(k t:Nat)(es:List (D×List MC)):St:={ env:=(t, .dat (.mp (famD es)))::st.env,mem:=(k, .dead)::st.mem }
def FrzF (k t:Nat)(ks:List Nat)(es:List (D×List MC))(st:St):Prop:=st.m k = .fam ks es []/\st.e t = .mp k/\zph es
def St.settled (st:St)(k z:Nat)(e:TypeId)(s:Nat)(ea:Bool)(q:List (List MC)):St:={ env:=st.env,mem:=(z, .dead)::(k, .sn e s ea none q)::st.mem }
def zan (c:Ctx)(ops:List Oper)(K:St->Prop):List Oper->Nat->St->Prop
 | [],_,st=>(K st ∨ ∃ k z e s ea q,zjZ k z st.m q e s ea/\K (st.settled k z e s ea q)) ∨
   (∃ k z ks r t,zc k z st.m ks r t/\K (st.settledF k z ks r t))∨(∃ k z ks r t,zc k z st.m ks r t/\∃ k' z' ks' r' t',zc k' z' (st.settledF k z ks r t).m ks' r' t'/\K ((st.settledF k z ks r t).settledF k' z' ks' r' t')) ∨
   (∃ k k' ks es outs,st.m k = .fam ks es outs/\zdR (st.m k')=true/\K (st.kid k k' ks es outs)) ∨
   ∃ k t ks es,FrzF k t ks es st/\K (st.frzF k t es)
 | o::r,id,st=>match zav st.e ops o.guard with
  | some b=>(b=true->opPg c o id st.e st.m [] λ δ _=>zan c ops K r (id+1) (st.app o.dst δ))/\(b=false->zan c ops K r (id+1) (st.app o.dst ⟨.tup [],[]⟩))
  | none=>False
structure Tr where
 rd:List Loc
 wr:List Loc
def zap (ops:List Oper)(g:Option (Nat×Bool)):List Loc :=
 match g with
 | none=>[]
 | some (j,_)=>match (ops[j]?).bind (·.dst) with
  | some t=>[.t t]
  | none=>[]
def zf8 (o:Oper):List Loc:=match o.dst with|some d=>[.t d]|none=>[]
def zak (c:Ctx)(ops:List Oper)(K:List Tr->St->Prop):List Oper->Nat->List Tr->St->Prop
 | [],_,tr,st=>K tr.reverse st
 | o::r,id,tr,st=>match zav st.e ops o.guard with
  | some b=>(b=true->opPg c o id st.e st.m [] λ δ l=>zak c ops K r (id+1) (⟨zap ops o.guard++l,zf8 o++δ.wr.map λ x=>.b x.1⟩::tr) (st.app o.dst δ)) /\
    (b=false->zak c ops K r (id+1) (⟨zap ops o.guard,zf8 o⟩::tr) (st.app o.dst ⟨.tup [],[]⟩))
  | none=>False
def Loc.beq:Loc->Loc->Bool
 | .t x, .t y=>Nat.beq x y
 | .b x, .b y=>Nat.beq x y
 | .all, .b _ | .b _, .all=>true
 | _,_=>false
def zl2 (a b:List Loc):Bool:=a.any λ x=>b.any λ y=>x.beq y
def zfP (x y:Tr):Bool:=zl2 x.wr y.rd || zl2 x.rd y.wr || zl2 x.wr y.wr
def zj7 (masks:List Nat)(o:Oper):Nat :=
 o.after.toList.foldl (λ m e=>bif Region.binds .any e then Nat.lor m (Nat.lor (2 ^ e.on) (masks.getD e.on 0)) else m) 0
def zaN:List Oper->List Nat->List Nat
 | [],acc=>acc
 | o::r,acc=>zaN r (acc++[zj7 acc o])
def zcM (ops:List Oper)(tr:List Tr):Bool :=
 let ms:=zaN ops []
 (List.range tr.length).all λ j=>(List.range j).all λ i =>
  match tr[i]?,tr[j]? with
  | some x,some y=>!zfP x y || Nat.testBit (ms.getD j 0) i
  | _,_=>true
inductive Ex where
 | normal|exit (id:Nat)|ret
inductive Place where
 | slot (t:Nat)
 | cell (k i:Nat)
structure Ann where
 keep:List Nat
 bs:List Nat
 re:List (Place×Nat×TypeId×Nat)
 fz:List Nat:=[]
def Ann.ok (p:Nat)(s:Ann):Bool:=s.re.all λ r=>Nat.ble p r.2.1
def zbi:Code->Nat
 | .region id _ _=>id
 | .seq a _=>zbi a
 | .cond _ a _=>zbi a
 | .block _ a=>zbi a
 | .loop a=>zbi a
 | _=>0
mutual
def SV.within (p:Nat->Bool):SV->Bool
 | .ptr k _=>p k
 | .rp k _ _ _=>p k
 | .rs k _=>p k
 | .mp k=>p k
 | .po k _ _=>p k
 | .as k _=>p k
 | .slf k _=>p k
 | .pn k _=>p k
 | .agg l=>SV.withinL p l
 | .tup l=>SV.withinL p l
 | .fn _ a l=>SV.withinL p a&&SV.withinL p l
 | .ifc _ x=>x.within p
 | _=>true
def SV.withinL (p:Nat->Bool):List SV->Bool
 | []=>true
 | x::l=>x.within p&&SV.withinL p l
end
def Blk.within (p:Nat->Bool):Blk->Bool
 | .box l=>SV.withinL p l
 | .sn _ _ _ (some (_,_,z)) _=>p z
 | .fam ks _ outs=>(outs.all λ x=>p x.2.2)&&ks.all p
 | _=>true
def memB (l:List Nat)(k:Nat):Bool:=l.any λ x=>Nat.beq x k
def Place.get (p:Place)(st:St):SV :=
 match p with
 | .slot t=>st.e t
 | .cell k i=>match st.m k with
  | .box l=>(l[i]?).getD .no
  | _=>.no
def Place.set (p:Place)(st:St)(x:SV):St :=
 match p with
 | .slot t=>{ st with env:=(t,x)::st.env }
 | .cell k i=>match st.m k with
  | .box l=>{ st with mem:=(k, .box (l.set i x))::st.mem }
  | _=>st
def St.cutOk (keep bs:List Nat)(p:Nat->Bool)(st:St):Bool:=(keep.all λ t=>(st.e t).within p)&&bs.all λ k=>(st.m k).within p
def Place.off (p:Place)(z:Nat):Bool:=match p with | .slot _=>true | .cell k _=>!Nat.beq k z
def Place.inB (bs:List Nat)(p:Place):Bool:=match p with | .slot _=>true | .cell k _=>memB bs k
def zdS (e:TypeId)(s:Nat):Blk:=bif Nat.ble 1048576 s then .sn e (s-1048576) true none [] else .row e s []
def St.rehome (keep bs:List Nat)(r:Place×Nat×TypeId×Nat)(st:St):Option St :=
 match r with
 | (p,z,e,s)=>bif Nat.beq s 2097152 then (bif p.inB bs then some (p.set st .no) else none) else bif p.off z&&p.inB bs then (match p.get st with
  | .nil=>bif (p.set st .nil).cutOk keep bs λ k=>!Nat.beq k z then some (p.set { st with mem:=(z,zdS e s)::st.mem } (.rs z 0)) else none
  | .rs k n=>bif Nat.beq k z then some st else bif (p.set st .nil).cutOk keep bs λ i=>!Nat.beq i z then
    (match st.m k with
    | .row e' s' es=>some (p.set { st with mem:=(z, .row e' s' es)::(k, .dead)::st.mem } (.rs z n))
    | .sn e' s' ea none es=>some (p.set { st with mem:=(z, .sn e' s' ea none es)::(k, .dead)::st.mem } (.rs z n))
    | _=>none) else none
  | .ptr k o=>bif Nat.beq k z then some st else bif (p.set st .nil).cutOk keep bs λ i=>!(Nat.beq i z || Nat.beq i k) then
    (match st.m k with
    | .box l=>bif SV.withinL (λ _=>false) l then some (p.set { st with mem:=(z, .box l)::(k, .dead)::st.mem } (.ptr z o)) else none
    | _=>none) else none
  | _=>none) else none
def St.rehomes (keep bs:List Nat):List (Place×Nat×TypeId×Nat)->St->Option St
 | [],st=>some st
 | r::l,st=>match st.rehome keep bs r with
  | some st' => st'.rehomes keep bs l
  | none=>none
def St.frz1 (k:Nat)(st:St):St:=match st.m k with
 | .row e s es=>{ st with mem:=(k, .fz e s es)::st.mem }
 | _=>st
def St.frz:List Nat->St->St
 | [],st=>st
 | k::l,st=>(st.frz1 k).frz l
def St.norm (s:Ann)(st:St):Option St:=match st.rehomes s.keep s.bs s.re with
 | some st' => some (st'.frz s.fz)
 | none=>none
def vals (keep:List Nat)(e:Nat->SV):List SV:=keep.map λ t=>force (e t) id
def blks (bs:List Nat)(m:Nat->Blk):List Blk:=bs.map λ t=>zjX (m t) id
def St.head (s:Ann)(st:St)(K:List SV->List Blk->Prop):Prop :=
 match st.norm s with
 | some st' => st'.cutOk s.keep s.bs (memB s.bs)=true/\K (vals s.keep st'.e) (blks s.bs st'.m)
 | none=>False
def St.mk' (s:Ann)(vs:List SV)(bl:List Blk):St:={ env:=s.keep.zip vs,mem:=s.bs.zip bl }
def Kseq (next:St->Prop)(K:Ex->St->Prop):Ex->St->Prop
 | .normal,st=>next st
 | e,st=>K e st
def Kblk (id:Nat)(K:Ex->St->Prop):Ex->St->Prop
 | .exit i,st=>bif Nat.beq i id then K .normal st else K (.exit i) st
 | e,st=>K e st
def zed {α:Type}(s:Ann)(V:α->List SV)(B:α->List Blk)(I:α->Prop)(μ:α->Nat)(x:α)(K:Ex->St->Prop):Ex->St->Prop
 | .normal,st=>st.head s λ v b=>∃ y,I y/\v=V y/\b=B y/\μ y<μ x
 | e,st=>K e st
def zpi (ops:List Oper):Bool:=Nat.beq ((zaN ops []).getD (ops.length-1) 0+1) (2 ^ (ops.length-1))&&Nat.ble 2 ops.length
def zpj (o:Oper):Bool:=match o.op with
 | .call ci=>match ci.callee with
  | .value _=>true
  | _=>false
 | _=>false
def zgF:List Oper->Bool
 | []=>false
 | [o]=>zpj o
 | _::r=>zgF r
def zhQ (ops:List Oper):Bool:=bif zgF ops then zpi ops else false
def vc (c : Ctx)(p nid : Nat) : Code → St → (Ex → St → Prop) → Prop
  | .skip, st, K => K .normal st
  | .label _, st, K => K .normal st
  | .region id ops draw, st, K => bif draw then
        (bif zhQ ops.toList then zak c.loc ops.toList (fun tr st' => zcM ops.toList tr = true ∧ zan c ops.toList (K .normal) (ops.toList.drop (ops.toList.length - 1)) (nid + 100 * id + (ops.toList.length - 1)) st') (ops.toList.take (ops.toList.length - 1)) (nid + 100 * id) [] st
        else zak c.loc ops.toList (fun tr st' => zcM ops.toList tr = true ∧ zan c ops.toList (K .normal) [] nid st') ops.toList (nid + 100 * id) [] st ∨
          ∃ st2, TakeX p st st2 ∧ zak c.loc ops.toList (fun tr st' => zcM ops.toList tr = true ∧ zan c ops.toList (K .normal) [] nid st') ops.toList (nid + 100 * id) [] st2)
      else zan c ops.toList (K .normal) ops.toList (nid + 100 * id) st
  | .seq a b, st, K => vc c p nid a st (Kseq (fun st' => vc c p nid b st' K) K) ∨
      ∃ (α : Type) (s : Ann) (V : α → List SV) (B : α → List Blk) (I : α → Prop), s.ok p = true ∧ vc c p nid a st (Kseq (fun st' => st'.head s fun v bl => ∃ x, I x ∧ v = V x ∧ bl = B x) K) ∧ ∀ x, I x → vc c p nid b (St.mk' s (V x) (B x)) K
  | .cond x a b, st, K => match x with
    | .tmp t => match st.e t with
      | .kb c' => (c' = true → vc c p nid a st K) ∧ (c' = false → vc c p nid b st K)
      | _ => False
    | .const v => match v with
      | .bool c' => (c' = true → vc c p nid a st K) ∧ (c' = false → vc c p nid b st K)
      | _ => False
    | _ => False
  | .scope a, st, K => vc c p nid a st K
  | .block id a, st, K => vc c p nid a st (Kblk id K)
  | .loop a, st, K => ∃ (α : Type) (s : Ann) (V : α → List SV) (B : α → List Blk) (I : α → Prop) (μ : α → Nat), s.ok p = true ∧ (st.head s fun v bl => ∃ x, I x ∧ v = V x ∧ bl = B x) ∧ ∀ x, I x → vc c p nid a (St.mk' s (V x) (B x)) (zed s V B I μ x K)
  | .exit id, st, K => K (.exit id) st
  | .ret, st, K => K .ret st
  | _, _, _ => False
section
variable {c:Ctx} {p nid:Nat} {st:St} {K:Ex->St->Prop}
theorem zqx {a b:Code}{α:Type}(s:Ann)(V:α->List SV)(B:α->List Blk)(I:α->Prop)(hz:s.ok p=true)(h:vc c p nid a st (Kseq (λ st' => st'.head s λ v bl=>∃ x,I x/\v=V x/\bl=B x) K))(h2:∀ x,I x->vc c p nid b (St.mk' s (V x) (B x)) K):vc c p nid (.seq a b) st K := .inr ⟨α,s,V,B,I,hz,h,h2⟩
theorem zbR {i:Nat}{a:Code}(h:vc c p nid a st (Kblk i K)):vc c p nid (.block i a) st K:=h
theorem zca (h:K .normal st):vc c p nid .skip st K:=h
theorem zdl (h:K .ret st):vc c p nid .ret st K:=h
theorem zcv {i:Nat}(h:K (.exit i) st):vc c p nid (.exit i) st K:=h
theorem zeI {n:St->Prop}(h:n st):Kseq n K .normal st:=h
theorem zbc {n:St->Prop}(h:K .ret st):Kseq n K .ret st:=h
theorem za5 {n:St->Prop}{i:Nat}(h:K (.exit i) st):Kseq n K (.exit i) st:=h
theorem zgG {i:Nat}(h:K .normal st):Kblk i K .normal st:=h
theorem zbs {i:Nat}(h:K .ret st):Kblk i K .ret st:=h
theorem za6 {i:Nat}(h:K .normal st):Kblk i K (.exit i) st:=by
 simp[Kblk];exact h
theorem ze1 {i j:Nat}(hij:Nat.beq j i=false)(h:K (.exit j) st):Kblk i K (.exit j) st:=by
 simp[Kblk,hij];exact h
theorem zbl {α:Type}{s:Ann}{V:α->List SV}{B:α->List Blk}{I:α->Prop}{μ:α->Nat}{x:α}(h:K .ret st):zed s V B I μ x K .ret st:=h
theorem za3 {α:Type}{s:Ann}{V:α->List SV}{B:α->List Blk}{I:α->Prop}{μ:α->Nat}{x:α}{i:Nat}(h:K (.exit i) st):zed s V B I μ x K (.exit i) st:=h
theorem zqy {α:Type}{s:Ann}{V:α->List SV}{B:α->List Blk}{I:α->Prop}{μ:α->Nat}{x:α}(h:st.head s λ v b=>∃ y,I y/\v=V y/\b=B y/\μ y<μ x):zed s V B I μ x K .normal st:=h
theorem zbd {i:Nat}{ops:List Oper}(h:∀ K':St->Prop,(∀ st',K .normal st'->K' st')->zan c ops K' ops (nid+100*i) st):vc c p nid (.region i ops.toArray false) st K:=by
 simpa [vc] using h (K .normal) λ _ h=>h
theorem zi0 {i:Nat}{ops:List Oper}(ht:zhQ ops=false)(h:∀ (K':List Tr->St->Prop) (L':St->Prop),(∀ st',K .normal st'->L' st')->(∀ tr st',zcM ops tr=true->zan c ops L' [] nid st'->K' tr st')->zak c.loc ops K' ops (nid+100*i) [] st):vc c p nid (.region i ops.toArray true) st K:=by
 simp only[vc,cond_true,ht,cond_false];exact .inl (h (λ tr st' => zcM ops tr=true/\zan c ops (K .normal) [] nid st') (K .normal) (λ _ h=>h) λ _ _ h h' => ⟨h,h'⟩)
theorem zgH {t:Nat}{a b:Code}(hb:st.e t = .kb true)(h:vc c p nid a st K):vc c p nid (.cond (.tmp t) a b) st K:=by
 simp only[vc,hb];exact⟨λ _=>h,λ h=>(by cases h)⟩
theorem zgI {t:Nat}{a b:Code}{x:Bool}(hb:st.e t = .kb x)(h1:x=true->vc c p nid a st K)(h2:x=false->vc c p nid b st K):vc c p nid (.cond (.tmp t) a b) st K:=by
 simp only[vc,hb];exact⟨h1,h2⟩
theorem zpk {a:Code}{α:Type}(s:Ann)(V:α->List SV)(B:α->List Blk)(I:α->Prop)(μ:α->Nat)(hz:s.ok p=true)(h0:st.head s λ v bl=>∃ x,I x/\v=V x/\bl=B x)
  (h:∀ x,I x->vc c p nid a (St.mk' s (V x) (B x)) (zed s V B I μ x K)):vc c p nid (.loop a) st K:=⟨α,s,V,B,I,μ,hz,h0,h⟩
theorem zl3 {s:Ann}{H:List SV->List Blk->Prop}{st':St}(h1:st.norm s=some st')(h2:st'.cutOk s.keep s.bs (memB s.bs)=true){v:List SV}{b:List Blk}(h3:vals s.keep st'.e=v)(h4:blks s.bs st'.m=b)(h:H v b):st.head s H:=by
 simp only[St.head,h1,h2,h3,h4,true_and];exact h
variable {ops r:List Oper} {K':St->Prop} {id d:Nat} {op:Op} {ty:TypeId} {pos:String} {af:Array Edge} {g:Option (Nat×Bool)} {env:List (Nat×SV)} {mem:List (Nat×Blk)}
theorem zcb (h:K' st):zan c ops K' [] id st := .inl (.inl h)
theorem zee {x:Bool}(hg:zav (St.e ⟨env,mem⟩) ops g=some x)(h:x=true->∀ K:Dl->List Loc->Prop,(∀ v l,zan c ops K' r (id+1) ⟨(d,v)::env,mem⟩->K ⟨v,[]⟩ l) ->
  (∀ v l k b,zan c ops K' r (id+1) ⟨(d,v)::env,(k,b)::mem⟩->K ⟨v,[(k,b)]⟩ l)->(∀ v l w,zan c ops K' r (id+1) ⟨(d,v)::env,w++mem⟩->K ⟨v,w⟩ l) ->
  opPg c ⟨some d,op,ty,pos,af,g⟩ id (St.e ⟨env,mem⟩) (St.m ⟨env,mem⟩) [] K) (h2:x=false->zan c ops K' r (id+1) ⟨(d, .tup [])::env,mem⟩):zan c ops K' (⟨some d,op,ty,pos,af,g⟩::r) id ⟨env,mem⟩:=by
 simp only[zan,hg];exact⟨λ hx=>h hx _ (λ _ _ h=>h) (λ _ _ _ _ h=>h) (λ _ _ _ h=>h),h2⟩
theorem zc8 {x:Bool}(hg:zav (St.e ⟨env,mem⟩) ops g=some x)(h:x=true->∀ K:Dl->List Loc->Prop,(∀ v l,zan c ops K' r (id+1) ⟨env,mem⟩->K ⟨v,[]⟩ l) ->
  (∀ v l k b,zan c ops K' r (id+1) ⟨env,(k,b)::mem⟩->K ⟨v,[(k,b)]⟩ l)->(∀ v l w,zan c ops K' r (id+1) ⟨env,w++mem⟩->K ⟨v,w⟩ l) ->
  opPg c ⟨none,op,ty,pos,af,g⟩ id (St.e ⟨env,mem⟩) (St.m ⟨env,mem⟩) [] K) (h2:x=false->zan c ops K' r (id+1) ⟨env,mem⟩):zan c ops K' (⟨none,op,ty,pos,af,g⟩::r) id ⟨env,mem⟩:=by
 simp only[zan,hg];exact⟨λ hx=>h hx _ (λ _ _ h=>h) (λ _ _ _ _ h=>h) (λ _ _ _ h=>h),h2⟩
theorem zdm (hg:zav (St.e ⟨env,mem⟩) ops g=some true)(h:∀ K:Dl->List Loc->Prop,(∀ v l,zan c ops K' r (id+1) ⟨(d,v)::env,mem⟩->K ⟨v,[]⟩ l) ->
  (∀ v l k b,zan c ops K' r (id+1) ⟨(d,v)::env,(k,b)::mem⟩->K ⟨v,[(k,b)]⟩ l)->(∀ v l w,zan c ops K' r (id+1) ⟨(d,v)::env,w++mem⟩->K ⟨v,w⟩ l) ->
  opPg c ⟨some d,op,ty,pos,af,g⟩ id (St.e ⟨env,mem⟩) (St.m ⟨env,mem⟩) [] K):zan c ops K' (⟨some d,op,ty,pos,af,g⟩::r) id ⟨env,mem⟩:=zee hg (λ _=>h) λ h=>(by cases h)
theorem zl4 (hg:zav (St.e ⟨env,mem⟩) ops g=some true)(h:∀ K:Dl->List Loc->Prop,(∀ v l,zan c ops K' r (id+1) ⟨env,mem⟩->K ⟨v,[]⟩ l) ->
  (∀ v l k b,zan c ops K' r (id+1) ⟨env,(k,b)::mem⟩->K ⟨v,[(k,b)]⟩ l)->(∀ v l w,zan c ops K' r (id+1) ⟨env,w++mem⟩->K ⟨v,w⟩ l) ->
  opPg c ⟨none,op,ty,pos,af,g⟩ id (St.e ⟨env,mem⟩) (St.m ⟨env,mem⟩) [] K):zan c ops K' (⟨none,op,ty,pos,af,g⟩::r) id ⟨env,mem⟩:=zc8 hg (λ _=>h) λ h=>(by cases h)
theorem zi1 (hg:zav (St.e ⟨env,mem⟩) ops g=some false)(h:zan c ops K' r (id+1) ⟨(d, .tup [])::env,mem⟩):zan c ops K' (⟨some d,op,ty,pos,af,g⟩::r) id ⟨env,mem⟩:=zee hg (λ h=>(by cases h)) λ _=>h
theorem zgJ (hg:zav (St.e ⟨env,mem⟩) ops g=some false)(h:zan c ops K' r (id+1) ⟨env,mem⟩):zan c ops K' (⟨none,op,ty,pos,af,g⟩::r) id ⟨env,mem⟩:=zc8 hg (λ h=>(by cases h)) λ _=>h
variable {D':List Tr->St->Prop} {tr:List Tr}
theorem zgK (h:D' tr.reverse st):zak c ops D' [] id tr st:=h
theorem zc9 {x:Bool}(hg:zav (St.e ⟨env,mem⟩) ops g=some x)(h:x=true->∀ K:Dl->List Loc->Prop,(∀ v l,zak c ops D' r (id+1) (⟨zap ops g++l,[.t d]⟩::tr) ⟨(d,v)::env,mem⟩->K ⟨v,[]⟩ l) ->
  (∀ v l k b,zak c ops D' r (id+1) (⟨zap ops g++l,[.t d, .b k]⟩::tr) ⟨(d,v)::env,(k,b)::mem⟩->K ⟨v,[(k,b)]⟩ l)->(∀ v l w,zak c ops D' r (id+1) (⟨zap ops g++l, .t d::w.map λ x=>.b x.1⟩::tr) ⟨(d,v)::env,w++mem⟩->K ⟨v,w⟩ l) ->
  opPg c ⟨some d,op,ty,pos,af,g⟩ id (St.e ⟨env,mem⟩) (St.m ⟨env,mem⟩) [] K) (h2:x=false->zak c ops D' r (id+1) (⟨zap ops g,[.t d]⟩::tr) ⟨(d, .tup [])::env,mem⟩):zak c ops D' (⟨some d,op,ty,pos,af,g⟩::r) id tr ⟨env,mem⟩:=by
 simp only[zak,hg];exact⟨λ hx=>h hx _ (λ _ _ h=>h) (λ _ _ _ _ h=>h) (λ _ _ _ h=>h),h2⟩
theorem zck {x:Bool}(hg:zav (St.e ⟨env,mem⟩) ops g=some x)(h:x=true->∀ K:Dl->List Loc->Prop,(∀ v l,zak c ops D' r (id+1) (⟨zap ops g++l,[]⟩::tr) ⟨env,mem⟩->K ⟨v,[]⟩ l) ->
  (∀ v l k b,zak c ops D' r (id+1) (⟨zap ops g++l,[.b k]⟩::tr) ⟨env,(k,b)::mem⟩->K ⟨v,[(k,b)]⟩ l)->(∀ v l w,zak c ops D' r (id+1) (⟨zap ops g++l,w.map λ x=>.b x.1⟩::tr) ⟨env,w++mem⟩->K ⟨v,w⟩ l) ->
  opPg c ⟨none,op,ty,pos,af,g⟩ id (St.e ⟨env,mem⟩) (St.m ⟨env,mem⟩) [] K) (h2:x=false->zak c ops D' r (id+1) (⟨zap ops g,[]⟩::tr) ⟨env,mem⟩):zak c ops D' (⟨none,op,ty,pos,af,g⟩::r) id tr ⟨env,mem⟩:=by
 simp only[zak,hg];exact⟨λ hx=>h hx _ (λ _ _ h=>h) (λ _ _ _ _ h=>h) (λ _ _ _ h=>h),h2⟩
theorem zi2 (hg:zav (St.e ⟨env,mem⟩) ops g=some true)(h:∀ K:Dl->List Loc->Prop,(∀ v l,zak c ops D' r (id+1) (⟨zap ops g++l,[.t d]⟩::tr) ⟨(d,v)::env,mem⟩->K ⟨v,[]⟩ l) ->
  (∀ v l k b,zak c ops D' r (id+1) (⟨zap ops g++l,[.t d, .b k]⟩::tr) ⟨(d,v)::env,(k,b)::mem⟩->K ⟨v,[(k,b)]⟩ l)->(∀ v l w,zak c ops D' r (id+1) (⟨zap ops g++l, .t d::w.map λ x=>.b x.1⟩::tr) ⟨(d,v)::env,w++mem⟩->K ⟨v,w⟩ l) ->
  opPg c ⟨some d,op,ty,pos,af,g⟩ id (St.e ⟨env,mem⟩) (St.m ⟨env,mem⟩) [] K):zak c ops D' (⟨some d,op,ty,pos,af,g⟩::r) id tr ⟨env,mem⟩:=zc9 hg (λ _=>h) λ h=>(by cases h)
theorem znI (hg:zav (St.e ⟨env,mem⟩) ops g=some true)(h:∀ K:Dl->List Loc->Prop,(∀ v l,zak c ops D' r (id+1) (⟨zap ops g++l,[]⟩::tr) ⟨env,mem⟩->K ⟨v,[]⟩ l) ->
  (∀ v l k b,zak c ops D' r (id+1) (⟨zap ops g++l,[.b k]⟩::tr) ⟨env,(k,b)::mem⟩->K ⟨v,[(k,b)]⟩ l)->(∀ v l w,zak c ops D' r (id+1) (⟨zap ops g++l,w.map λ x=>.b x.1⟩::tr) ⟨env,w++mem⟩->K ⟨v,w⟩ l) ->
  opPg c ⟨none,op,ty,pos,af,g⟩ id (St.e ⟨env,mem⟩) (St.m ⟨env,mem⟩) [] K):zak c ops D' (⟨none,op,ty,pos,af,g⟩::r) id tr ⟨env,mem⟩:=zck hg (λ _=>h) λ h=>(by cases h)
theorem znJ (hg:zav (St.e ⟨env,mem⟩) ops g=some false)(h:zak c ops D' r (id+1) (⟨zap ops g,[.t d]⟩::tr) ⟨(d, .tup [])::env,mem⟩):zak c ops D' (⟨some d,op,ty,pos,af,g⟩::r) id tr ⟨env,mem⟩:=zc9 hg (λ h=>(by cases h)) λ _=>h
theorem zl5 (hg:zav (St.e ⟨env,mem⟩) ops g=some false)(h:zak c ops D' r (id+1) (⟨zap ops g,[]⟩::tr) ⟨env,mem⟩):zak c ops D' (⟨none,op,ty,pos,af,g⟩::r) id tr ⟨env,mem⟩:=zck hg (λ h=>(by cases h)) λ _=>h
end
end Go.Vc
namespace Go.Vc
open Go.RowKit
def pl:Value->Prop
 | .bool _=>True
 | .int k n=>k.min<=n/\n<=k.max
 | .string s=>s.size<=maxLen
 | .pointer none=>True
 | .map none=>True
 | .func (.func _) fs cs=>fs = #[]/\cs = #[]
 | .nilFunc=>True
 | .nilIface=>True
 | _=>False
inductive Rd (F:Nat->Prop) (w:World):Value->D->Prop where
 | v {x:Value}:pl x->Rd F w x (.v x)
 | agg {vs:List Value} {cs:List D}:vs.length=cs.length ->
   (∀ (i:Nat) u d,vs[i]? = some u->cs[i]? = some d->u.oneCell'=true)->(∀ (i:Nat) u d,vs[i]? = some u->cs[i]? = some d->Rd F w u d)->Rd F w (.agg vs.toArray) (.agg cs)
 | tup {vs:List Value} {cs:List D}:vs.length=cs.length ->
   (∀ (i:Nat) u d,vs[i]? = some u->cs[i]? = some d->Rd F w u d)->Rd F w (.tuple vs.toArray) (.tup cs)
 | nil {A:Option Addr} {cap s:Nat}:cap<=maxLen->Rd F w (.slice A 0 cap) (.sl s [])
 | sl {b off n cap s:Nat} {es:List D} (f:Nat->Nat->Value):es.length=n->n<=cap->cap<=maxLen->F b ->
   (∀ e,e∈es->e.cells.length=s) ->
   (∀ (i j:Nat) e d,es[i]? = some e->e.cells[j]? = some d->w.cell? ⟨b,off+i*s+j,none⟩=some (f i j)) ->
   (∀ (i j:Nat) e d,es[i]? = some e->e.cells[j]? = some d->(f i j).oneCell'=true) ->
   (∀ (i j:Nat) e d,es[i]? = some e->e.cells[j]? = some d->Rd F w (f i j) d) ->
   Rd F w (.slice (some ⟨b,off,none⟩) n cap) (.sl s es)
 | ifc {t:TypeId} {x:Value} {d:D}:Rd F w x d->Rd F w (.iface t x) (.ifc t d)
 | pt {b off:Nat} {cs:List D} (f:Nat->Value):F b->(∀ (j:Nat) d,cs[j]? = some d->w.cell? ⟨b,off+j,none⟩=some (f j))->(∀ (j:Nat) d,cs[j]? = some d->(f j).oneCell'=true) ->
   (∀ (j:Nat) d,cs[j]? = some d->Rd F w (f j) d)->Rd F w (.pointer (some ⟨b,off,none⟩)) (.pt cs)
 | mp {b cl:Nat} {arr:Array MapEntry} {es:List (D×D)}:F b->w.heap[b]? = some (.map arr cl)->MapKept.Stamped arr cl->arr.size=es.length ->
   (∀ (i:Nat) x p,arr[i]? = some x->es[i]? = some p->Rd F w x.key p.1)->(∀ (i:Nat) x p,arr[i]? = some x->es[i]? = some p->Rd F w x.val p.2)->Rd F w (.map (some b)) (.mp es)
theorem Rd.mono {F F':Nat->Prop}{w w':World}{v:Value}{d:D}(h:Rd F w v d)(hF:∀ b,F b->F' b)(hw:∀ b,F b->w'.heap[b]? = w.heap[b]?):Rd F' w' v d:=by
 induction h with
 | v h=>exact .v h
 | agg h1 h0 h2 ih=>exact .agg h1 h0 ih
 | tup h1 h2 ih=>exact .tup h1 ih
 | nil h=>exact .nil h
 | sl f h1 h2 h3 h4 h5 h6 h7 h8 ih =>
  exact .sl f h1 h2 h3 (hF _ h4) h5 (λ i j e d he hd=>(World.cell?_of_block (hw _ h4)).trans (h6 i j e d he hd)) h7 ih
 | ifc h ih=>exact .ifc ih
 | mp h1 h2 h3 h4 h5 h6 ih5 ih6=>exact .mp (hF _ h1) ((hw _ h1).trans h2) h3 h4 ih5 ih6
 | pt f h1 h2 h3 h4 ih=>exact .pt f (hF _ h1) (λ j d hd=>(World.cell?_of_block (hw _ h1)).trans (h2 j d hd)) h3 ih
structure Gh where
 β:Nat->Nat
 C:Nat->Nat
 N:Nat->Bool
 /-- the blocks of a family's members -/
 M:Nat->List Nat
 F:Nat->Prop
 /-- the blocks of a nest's rows -/
 X:Nat->Nat->Prop
def co (C:Nat):Nat:=C / (maxLen+1)
def cc (C:Nat):Nat:=C % (maxLen+1)
theorem zl6 (C:Nat):cc C<=maxLen:=Nat.le_of_lt_succ (Nat.mod_lt _ (Nat.succ_pos _))
theorem zd {C:Nat}(h:C<=maxLen):co C=0:=Nat.div_eq_of_lt (Nat.lt_succ_of_le h)
theorem zb1 {C:Nat}(h:C<=maxLen):cc C=C:=Nat.mod_eq_of_lt (Nat.lt_succ_of_le h)
def occ (o c:Nat):Nat:=c+(maxLen+1)*o
theorem zdT {o c:Nat}(h:c<=maxLen):co (occ o c)=o:=by
 unfold co occ;rw[Nat.add_mul_div_left _ _ (Nat.succ_pos _),Nat.div_eq_of_lt (Nat.lt_succ_of_le h),Nat.zero_add]
theorem zcN {o c:Nat}(h:c<=maxLen):cc (occ o c)=c:=by
 unfold cc occ;rw[Nat.add_mul_mod_self_left];exact Nat.mod_eq_of_lt (Nat.lt_succ_of_le h)
def Gh.base (g:Gh)(k n:Nat):Value:=if g.N k=true then .slice none 0 0 else .slice (some ⟨g.β k,co (g.C k),none⟩) n (cc (g.C k))
inductive Den (g:Gh) (w:World):Value->SV->Prop where
 | dat {v:Value} {x:D}:Rd g.F w v x->Den g w v (.dat x)
 | kb {b:Bool}:Den g w (.bool b) (.kb b)
 /-- nothing is known -/
 | no {v:Value}:Den g w v .no
 | ptr {k o:Nat}:Den g w (.pointer (some ⟨g.β k,o,none⟩)) (.ptr k o)
 | ep {b off:Nat} {cs:List D} (f:Nat->Value):g.F b ->
   (∀ (j:Nat) d,cs[j]? = some d->w.cell? ⟨b,off+j,none⟩=some (f j)/\(f j).oneCell'=true)->(∀ (j:Nat) d,cs[j]? = some d->Rd g.F w (f j) d)->Den g w (.pointer (some ⟨b,off,none⟩)) (.ep cs)
 | rp {k s i j:Nat}:g.N k=false->Den g w (.pointer (some ⟨g.β k,co (g.C k)+i*s+j,none⟩)) (.rp k s i j)
 | rs {k n:Nat}:(g.N k=true->n=0)->(g.N k=false->n<=cc (g.C k))->n<=maxLen->Den g w (g.base k n) (.rs k n)
 | csl {A:Option Addr} {n s:Nat} {es:List D}:Rd g.F w (.slice A n n) (.sl s es)->Den g w (.slice A n n) (.csl s es)
 | nil:Den g w (.slice none 0 0) .nil
 | agg {vs:List Value} {l:List SV}:vs.length=l.length ->
   (∀ (i:Nat) u x,vs[i]? = some u->l[i]? = some x->u.oneCell'=true)->(∀ (i:Nat) u x,vs[i]? = some u->l[i]? = some x->Den g w u x)->Den g w (.agg vs.toArray) (.agg l)
 | tup {vs:List Value} {l:List SV}:vs.length=l.length ->
   (∀ (i:Nat) u x,vs[i]? = some u->l[i]? = some x->Den g w u x)->Den g w (.tuple vs.toArray) (.tup l)
 | fn {f:FuncId} {fs cs:List Value} {a l:List SV}:fs.length=a.length->cs.length=l.length ->
   (∀ (i:Nat) u x,fs[i]? = some u->a[i]? = some x->Den g w u x)->(∀ (i:Nat) u x,cs[i]? = some u->l[i]? = some x->Den g w u x) ->
   Den g w (.func (.func f) fs.toArray cs.toArray) (.fn f a l)
 | ifc {t:TypeId} {v:Value} {x:SV}:Den g w v x->Den g w (.iface t v) (.ifc t x)
 | mp {k:Nat}:Den g w (.map (some (g.β k))) (.mp k)
 | po {k i o b:Nat}:(g.M k)[i]? = some b->Den g w (.pointer (some ⟨b,o,none⟩)) (.po k i o)
 | slfN {k:Nat} {t:TypeId}:Den g w (.pointer none) (.slf k t)
 | slfP {k:Nat} {t:TypeId}:Den g w (.pointer (some ⟨g.β k,0,none⟩)) (.slf k t)
 | as {k n cap:Nat}:n<=cap->cap<=maxLen->Den g w (.slice (some ⟨g.β k,0,none⟩) n cap) (.as k n)
 | pnN {k:Nat}:Den g w (.pointer none) (.pn k none)
 | pnS {k i b:Nat}:(g.M k)[i]? = some b->Den g w (.pointer (some ⟨b,0,none⟩)) (.pn k (some i))
 | ln {A:Option Addr} {n cap:Nat}:n<=maxLen->Den g w (.slice A n cap) (.ln n)
 | fm {n:String} {t:TypeId} {v:Value}:Den g w (.func (.method n) #[.iface t v] #[]) (.fm n t)
mutual
def SV.ids:SV->List Nat
 | .ptr k _=>[k]
 | .rp k _ _ _=>[k]
 | .rs k _=>[k]
 | .mp k=>[k]
 | .po k _ _=>[k]
 | .as k _=>[k]
 | .slf k _=>[k]
 | .pn k _=>[k]
 | .agg l=>SV.idsL l
 | .tup l=>SV.idsL l
 | .fn _ a l=>SV.idsL a++SV.idsL l
 | .ifc _ x=>x.ids
 | _=>[]
def SV.idsL:List SV->List Nat
 | []=>[]
 | x::l=>x.ids++SV.idsL l
end
theorem zau {l:List SV}{k:Nat}:k∈SV.idsL l ↔ ∃ x,x∈l/\k∈x.ids:=by
 induction l with
 | nil=>simp[SV.idsL]
 | cons x r ih=>simp[SV.idsL,ih]
theorem zef {l r:List Nat}{i b:Nat}(h:l <+: r)(hb:l[i]? = some b):r[i]? = some b:=by
 obtain⟨t,rfl⟩:=h;rw[List.getElem?_append_left (zrf.1 hb).1];exact hb
theorem Den.mono {g g':Gh}{w w':World}{v:Value}{x:SV}(h:Den g w v x)(hF:∀ b,g.F b->g'.F b)(hw:∀ b,g.F b->w'.heap[b]? = w.heap[b]?)
  (hβ:∀ k,k∈x.ids->g'.β k=g.β k/\g'.C k=g.C k/\g'.N k=g.N k/\g.M k <+: g'.M k):Den g' w' v x:=by
 induction h with
 | dat h=>exact .dat (h.mono hF hw)
 | kb=>exact .kb
 | no=>exact .no
 | @ptr k o=>rw[<- (hβ k (by simp[SV.ids])).1];exact .ptr
 | ep f h1 h2 h3=>exact .ep f (hF _ h1) (λ j d hd=>⟨(World.cell?_of_block (hw _ h1)).trans (h2 j d hd).1,(h2 j d hd).2⟩) λ j d hd=>(h3 j d hd).mono hF hw
 | @rp k s i j h => 
  have hk:=hβ k (by simp[SV.ids]);rw[<- hk.1,<- hk.2.1];exact .rp (by rw[hk.2.2.1];exact h)
 | @rs k n h1 h2 h3 =>
  have hk:=hβ k (by simp[SV.ids])
  have:g.base k n=g'.base k n:=by simp[Gh.base,hk.1,hk.2.1,hk.2.2.1]
  rw[this];exact .rs (by rw[hk.2.2.1];exact h1) (by rw[hk.2.2.1,hk.2.1];exact h2) h3
 | csl h=>exact .csl (h.mono hF hw)
 | nil=>exact .nil
 | agg h1 h0 h2 ih=>exact .agg h1 h0 λ i u x hu hx=>ih i u x hu hx λ k hk=>hβ k (by simp only[SV.ids,zau];exact⟨x,zri hx,hk⟩)
 | tup h1 h2 ih=>exact .tup h1 λ i u x hu hx=>ih i u x hu hx λ k hk=>hβ k (by simp only[SV.ids,zau];exact⟨x,zri hx,hk⟩)
 | fn h1 h2 h3 h4 ih3 ih4 =>
  exact .fn h1 h2 (λ i u x hu hx=>ih3 i u x hu hx λ k hk=>hβ k (by simp only[SV.ids,List.mem_append,zau];exact .inl ⟨x,zri hx,hk⟩))
   (λ i u x hu hx=>ih4 i u x hu hx λ k hk=>hβ k (by simp only[SV.ids,List.mem_append,zau];exact .inr ⟨x,zri hx,hk⟩))
 | ifc h ih=>exact .ifc (ih λ k hk=>hβ k (by simpa [SV.ids] using hk))
 | @mp k=>rw[<- (hβ k (by simp[SV.ids])).1];exact .mp
 | @po k i o b h=>exact .po (zef (hβ k (by simp[SV.ids])).2.2.2 h)
 | fm=>exact .fm
 | ln h=>exact .ln h
 | pnN=>exact .pnN
 | @pnS k i b h=>exact .pnS (zef (hβ k (by simp[SV.ids])).2.2.2 h)
 | @as k n cap h1 h2=>rw[<- (hβ k (by simp[SV.ids])).1];exact .as h1 h2
 | slfN=>exact .slfN
 | @slfP k t=>rw[<- (hβ k (by simp[SV.ids])).1];exact .slfP
def Free (z:Nat×Nat)(n:Nat):Prop:=z=(0,0)∨n<=z.1
def RowAt (F:Nat->Prop)(w:World)(b:Nat)(e:TypeId)(s cap:Nat)(es:List D):Prop :=
 ∃ cur:Array Value,(∃ z,w.heap[b]? = some (.cells cur e z)/\Free z cur.size)/\co cap+cc cap*s<=cur.size/\es.length<=cc cap/\cc cap<=maxLen/\(∀ el,el∈es->el.cells.length=s) /\
  ∀ (i j:Nat) el d,es[i]? = some el->el.cells[j]? = some d->∃ u,cur[co cap+(i*s+j)]? = some u/\u.oneCell'=true/\Rd F w u d
def InRow (g:Gh)(w:World)(k:Nat)(e':TypeId)(s':Nat)(I:Nat->Option (Nat×Nat))(i:Nat)(l:List D)(v:Value):Prop :=
 match I i with
 | none=>l=[]/\v = .slice none 0 0
 | some (b,c)=>v = .slice (some ⟨b,co c,none⟩) l.length (cc c)/\g.X k b/\RowAt g.F w b e' s' c l
def SCell (g:Gh)(w:World)(k:Nat)(I:Nat->Nat->Option (Nat×Nat))(out:Option (Nat×Nat×Nat))(i o:Nat)(u:Value):MC->Prop
 | .d x=>Rd g.F w u x
 | .r e s l=>(∃ z,out=some (i,o,z)/\u=g.base z l.length)∨((∀ z,out≠some (i,o,z))/\InRow g w k e s (I i) o l u)
 | _=>False
structure SnAt (g:Gh)(w:World)(k:Nat)(e:TypeId)(s:Nat)(out:Option (Nat×Nat×Nat))(es:List (List MC))(cur:Array Value)(I:Nat->Nat->Option (Nat×Nat)):Prop where
 nn:g.N k=false
 hp:∃ z,w.heap[g.β k]? = some (.cells cur e z)/\Free z cur.size
 size:co (g.C k)+cc (g.C k)*s<=cur.size
 le:es.length<=cc (g.C k)
 len:∀ l,l∈es->l.length=s
 mem:∀ (i o:Nat) l x,es[i]? = some l->l[o]? = some x->∃ u,cur[co (g.C k)+(i*s+o)]? = some u/\u.oneCell'=true/\SCell g w k I out i o u x
 dom:∀ i o b c,I i o=some (b,c)->(∃ e' s' l,snAt es i o=some (.r e' s' l))/\∀ z,out≠some (i,o,z)
 inj:∀ i o i' o' b c c',I i o=some (b,c)->I i' o'=some (b,c')->i=i'/\o=o'
def MapAt (F:Nat->Prop)(w:World)(b:Nat)(es:List (D×D)):Prop :=
 ∃ (arr:Array MapEntry) (cl:Nat),w.heap[b]? = some (.map arr cl)/\arr.size=es.length/\MapKept.Stamped arr cl/\∀ (i:Nat) x p,arr[i]? = some x->es[i]? = some p->Rd F w x.key p.1/\Rd F w x.val p.2
def CellAt (g:Gh)(w:World)(k:Nat)(ks:List Nat)(I:Nat->Nat->Option (Nat×Nat))(outs:List (Nat×Nat×Nat))(i o:Nat)(u:Value):MC->Prop
 | .d x=>Rd g.F w u x
 | .p _ none=>u = .pointer none
 | .p c (some j)=>∃ k',ks[c]? = some k'/\∃ b,(g.M k')[j]? = some b/\u = .pointer (some ⟨b,0,none⟩)
 | .r e s l=>match zaD outs i o with
  | some z=>u=g.base z l.length
  | none=>InRow g w k e s (I i) o l u
 | .m l=>match zaD outs i o with
  | some z=>u = .map (some (g.β z))
  | none=>∃ b,I i o=some (b,0)/\u = .map (some b)/\g.X k b/\MapAt g.F w b l
structure FamAt (g:Gh)(w:World)(k:Nat)(ks:List Nat)(es:List (D×List MC))(outs:List (Nat×Nat×Nat))(arr:Array MapEntry)(cl:Nat)(M:List Nat)(I:Nat->Nat->Option (Nat×Nat)):Prop where
 hp:w.heap[g.β k]? = some (.map arr cl)
 Mk:g.M k=M
 len:M.length=es.length
 size:arr.size=es.length
 keys:MapKept.Stamped arr cl
 nodup:M.Nodup
 own:∀ b,b∈M->g.X k b
 ent:∀ (i:Nat) x p,arr[i]? = some x->es[i]? = some p->Rd g.F w x.key p.1/\x.val = .pointer (some ⟨M.getD i 0,0,none⟩)
 mem:∀ (i:Nat) p,es[i]? = some p->∃ (vs:List Value) (t:TypeId),w.heap[M.getD i 0]? = some (.cells vs.toArray t (0,0))/\vs.length=p.2.length/\∀ (o:Nat) u x,vs[o]? = some u->p.2[o]? = some x->u.oneCell'=true/\CellAt g w k ks I outs i o u x
 sep:∀ i o b c,I i o=some (b,c)->b ∉ M
 inj:∀ i o i' o' b c c',I i o=some (b,c)->I i' o'=some (b,c')->i=i'/\o=o'
 iown:∀ i o b c,I i o=some (b,c)->g.X k b
 olt:∀ x,x∈outs->x.1<es.length
def zpl (l:List SV)(t:TypeId):Prop:=∀ k t',l[0]? = some (.slf k t')->t'=t
def ze2 (F:Nat->Prop)(w:World)(b:Nat)(es:List (D×D))(seen:List Nat):Prop :=
 ∃ (bm cl:Nat) (arr:Array MapEntry) (sa:Array Nat),w.heap[b]? = some (.mapIter (some bm) cl sa cl)/\F bm/\w.heap[bm]? = some (.map arr cl)/\MapKept.Stamped arr cl/\arr.size=es.length /\
  (∀ (i:Nat) x p,arr[i]? = some x->es[i]? = some p->Rd F w x.key p.1/\Rd F w x.val p.2)/\sa.toList=seen.reverse.map (λ i=>((arr[i]?).map (·.born)).getD 0)/\∀ i,i∈seen->i<arr.size
def BlkRel (g:Gh)(w:World)(k:Nat):Blk->Prop
 | .unborn | .dead=>True
 | .box l=>∃ (vs:List Value) (t:TypeId),w.heap[g.β k]? = some (.cells vs.toArray t (0,0))/\vs.length=l.length/\(∀ (i:Nat) u x,vs[i]? = some u->l[i]? = some x->u.oneCell'=true/\Den g w u x)/\zpl l t
 | .arr l=>∃ (vs:List Value) (t:TypeId),w.heap[g.β k]? = some (.cells vs.toArray t (0,0))/\vs.length=l.length/\∀ (i:Nat) u x,vs[i]? = some u->l[i]? = some x->u.oneCell'=true/\Rd g.F w u x
 | .row e s es=>(g.N k=true/\es=[])∨(g.N k=false/\RowAt g.F w (g.β k) e s (g.C k) es)
 | .fz e s es=>(g.N k=true/\es=[])∨(g.N k=false/\g.F (g.β k)/\RowAt g.F w (g.β k) e s (g.C k) es)
 | .sit s p=>w.heap[g.β k]? = some (.stringIter s p)/\s.size<=maxLen
 | .sn e s _ out es=>(g.N k=true/\es=[]/\out=none) ∨ ∃ cur I,SnAt g w k e s out es cur I
 | .fam ks es outs=>∃ arr cl M I,FamAt g w k ks es outs arr cl M I
 | .mit es seen=>ze2 g.F w (g.β k) es seen
 | .mp es=>∃ (arr:Array MapEntry) (cl:Nat),w.heap[g.β k]? = some (.map arr cl)/\arr.size=es.length/\MapKept.Stamped arr cl/\∀ (i:Nat) x p,arr[i]? = some x->es[i]? = some p->Rd g.F w x.key p.1/\Rd g.F w x.val p.2
def zac (g:Gh)(m:Nat->Blk)(k:Nat):Prop :=
 match m k with
 | .box _ | .arr _ | .mp _ | .sit _ _ | .fam _ _ _ | .mit _ _=>True
 | .row _ _ _ | .sn _ _ _ _ _=>g.N k=false
 | _=>False
structure MRel (g:Gh)(m:Nat->Blk)(w:World):Prop where
 blk:∀ k,BlkRel g w k (m k)
 inj:∀ k k',zac g m k->zac g m k'->g.β k=g.β k'->k=k'
 hot:∀ k,zac g m k->¬ g.F (g.β k)
 lt:∀ b,g.F b->b<w.heap.size
 own:∀ k b,zac g m k->g.X k b->b<w.heap.size/\¬ g.F b/\(∀ k',zac g m k'->g.β k'≠b)/\∀ k',zac g m k'->g.X k' b->k'=k
def Blk.ids:Blk->List Nat
 | .box l=>SV.idsL l
 | .sn _ _ _ (some (_,_,z)) _=>[z]
 | .fam ks _ outs=>outs.map (λ x=>x.2.2)++ks
 | _=>[]
structure Fr where
 w0:World
 Kp:Nat->Prop
 Z:Nat->Prop
 Y:Nat->Prop
 /-- numbers below p stand for what was given: they are not given anew -/
 p:Nat
 g0:Gh
structure SR (fr:Fr)(nt:Nat)(g:Gh)(e:Nat->SV)(m:Nat->Blk)(a:Act)(w:World):Prop where
 mem:MRel g m w
 env:∀ t,e t = .no ∨ ∃ v,a.tmps[t]? = some v/\Den g w v (e t)
 bornE:∀ t k,k∈(e t).ids->m k ≠ .unborn
 bornM:∀ b k,k∈(m b).ids->m k ≠ .unborn
 os:w.os=fr.w0.os
 tape:w.tape=fr.w0.tape
 output:w.output=fr.w0.output
 size:fr.w0.heap.size<=w.heap.size
 keep:∀ b,fr.Kp b->b<fr.w0.heap.size/\w.heap[b]? = fr.w0.heap[b]?
 safe:∀ k,zac g m k->¬ fr.Kp (g.β k)/\(fr.Y (g.β k)∨fr.w0.heap.size<=g.β k)
 safeX:∀ k b,zac g m k->g.X k b->¬ fr.Kp b/\(fr.Y b∨fr.w0.heap.size<=b)
 given:∀ b,fr.Z b->g.F b
 frz:∀ b,g.F b->fr.Y b∨fr.w0.heap.size<=b
 defers:a.defers=[]
 tmps:a.tmps.size=nt
 pin:∀ k,k<fr.p->g.β k=fr.g0.β k/\g.C k=fr.g0.C k/\g.N k=fr.g0.N k/\fr.g0.M k <+: g.M k
def SRel (fr:Fr)(nt:Nat)(e:Nat->SV)(m:Nat->Blk)(a:Act)(w:World):Prop:=∃ g,SR fr nt g e m a w
end Go.Vc
namespace Go.Vc
open Go.RowKit
def zcw (P:Program)(t:TypeId):Value->Prop
 | .int k _=>P.underlying t=some (.int k)
 | .bool _=>P.underlying t=some .bool
 | .string _=>P.underlying t=some .string
 | _=>False
def litV:Value->Lit
 | .int k n=>.int k n
 | .bool b=>.bool b
 | .string s=>.string s.data.toList
 | _=>.nil
structure FlatOK (P:Program)(t:TypeId)(zs:List Value):Prop where
 key:P.keyTypeAt 2 t=true
 guard:P.eqGuardType P.depth t=false
 size:P.cellsOf t=zs.length
 comp:(∃ fs,P.underlying t=some (.struct fs)) ∨ ∃ n el,P.underlying t=some (.array n el)
 lits:∀ (dp:Nat) (vs:List Value),vs.length=zs.length->(∀ (i:Nat) v z,vs[i]? = some v->zs[i]? = some z->zch z v=true/\pl v)->P.keyLits (dp+2) t vs=some (vs.map litV)
def zcS (P:Program)(t:TypeId):Option Bool:=match P.underlying t with
 | some (.struct _)=>some true
 | some (.array _ _)=>some true
 | some _=>some false
 | none=>none
structure FlatK (P:Program)(t:TypeId)(zs:List Value):Prop where
 zero:∃ i z,P.info? t=some i/\i.zero=some z/\z.cells.toList=zs
 key:P.keyType t=true
 big:1<=P.types.size
 size:P.cellsOf t=zs.length
 lits:∀ (dp:Nat) (vs:List Value),vs.length=zs.length->(∀ (i:Nat) v z,vs[i]? = some v->zs[i]? = some z->zch z v=true/\pl v)->P.keyLits (dp+2) t vs=some (vs.map litV)
def KeyT (P:Program)(t:TypeId):Prop:=Maps.Keyed P t/\(zcS P t=some true->∃ zs,FlatK P t zs)
structure TIok (P:Program)(t:TypeId)(ti:TI):Prop where
 info:∃ i z,P.info? t=some i/\i.size=ti.size/\i.bytes=ti.bytes/\i.zero=some z/\z.cells.toList=ti.zero/\ti.zero.length=ti.size
 desc:∃ d,P.underlying t=some d/\ti.agg=(match d with | .struct _=>true | .array _ _=>true|_=>false) /\
  (match ti.k with
   | .int k=>d = .int k
   | .bool=>d = .bool
   | .str=>d = .string
   | .slice e es _=>d = .slice e/\∃ i,P.info? e=some i/\i.size=es
   | .arr n es ag=>∃ e,d = .array n e/\(∃ i,P.info? e=some i/\i.size=es)/\zcS P e=some ag
   | .mp k e=>d = .map k e
   | .ptr=>∃ e,d = .pointer e
   | .struct fs=>∃ fields,d = .struct fields/\fields.size=fs.length/\∀ (i:Nat) f x,fields[i]? = some f->fs[i]? = some x->f.offset=x.1/\∃ j,P.info? f.type=some j/\j.size=x.2.1/\zcS P f.type=some x.2.2
   | _=>True)
 flat:zlS ti=true->FlatOK P t ti.zero
 keyt:∀ k e,ti.k = .mp k e->KeyT P k
 zag:∀ i z,P.info? t=some i->i.zero=some z->(match z with | .agg _=>ti.agg|_=>!ti.agg)=true
 pe:ti.pe≠0->P.underlying t=some (.pointer ti.pe)
 meth:∀ x,x∈ti.meth->∃ i m,P.info? t=some i/\i.methods.find? (λ y=>y.name == x.1)=some m/\m.path = #[]/\m.func=some (x.2,false)
def TyOK (P:Program)(T:Tree (Option TI)):Prop:=∀ t ti,T.at t=some ti->TIok P t ti
def eApp (d:Option Nat)(x:SV)(e:Nat->SV):Nat->SV:=match d with|some d=>λ t=>bif Nat.beq d t then x else e t|none=>e
def mApp:List (Nat×Blk)->(Nat->Blk)->Nat->Blk
 | [],m=>m
 | (k,b)::r,m=>λ t=>bif Nat.beq k t then b else mApp r m t
theorem zgL (st:St)(d:Option Nat)(δ:Dl):(st.app d δ).e=eApp d δ.val st.e:=by
 funext t;cases d <;> rfl
theorem zfQ (st:St)(d:Option Nat)(δ:Dl):(st.app d δ).m=mApp δ.wr st.m:=by
 funext t;simp only[St.m,St.app]
 induction δ.wr with
 | nil=>rfl
 | cons x l ih=>obtain⟨k,v⟩:=x;simp only[List.cons_append,get,mApp,ih]
@[simp] theorem zqz (x:SV) (e:Nat->SV):eApp none x e=e:=rfl
theorem beqF {a b:Nat}(h:a≠b):Nat.beq a b=false:=by
 cases hb:Nat.beq a b
 .rfl
 .exact absurd (zrh hb) h
theorem ze3 (d:Nat)(x:SV)(e:Nat->SV)(t:Nat):eApp (some d) x e t=if d=t then x else e t:=by
 simp only[eApp];by_cases h:d=t
 .simp [h]
 .simp [h,beqF h]
theorem za (k:Nat)(b:Blk)(r:List (Nat×Blk))(m:Nat->Blk)(t:Nat):mApp ((k,b)::r) m t=if k=t then b else mApp r m t:=by
 simp only[mApp];by_cases h:k=t
 .simp [h]
 .simp [h,beqF h]
section
variable {P:Program} {fr:Fr} {nt:Nat} {g:Gh} {e:Nat->SV} {m:Nat->Blk} {a:Act} {w:World} {T:Tree (Option TI)} {c:Ctx}
def DenO (g:Gh)(w:World)(v:Value)(x:SV):Prop:=x = .no∨Den g w v x
def Good (P:Program)(fr:Fr)(nt:Nat)(e:Nat->SV)(m:Nat->Blk)(a:Act)(w:World)(o:Oper)(K:Dl->List Loc->Prop)(Q:Exit->Act->World->Prop):Prop :=
 o.wp P a w (λ a' w' => ∃ δ l,K δ l/\SRel fr nt (eApp o.dst δ.val e) (mApp δ.wr m) a' w') Q
theorem znK (a:Act)(d:Option Nat)(v:Value):(a.put d v).tmps.size=a.tmps.size:=by cases d <;> simp[Act.put]
theorem zkO (a:Act)(d:Option Nat)(v:Value):(a.put d v).defers=a.defers:=by cases d <;> rfl
theorem zl7 (a:Act)(d:Option Nat)(v:Value)(t:Nat)(hd:∀ x,d=some x->x<a.tmps.size):(a.put d v).tmps[t]? = if d=some t then some v else a.tmps[t]? := by
 cases d with
 | none=>simp[Act.put]
 | some d =>
  simp only[Act.put,Option.some.injEq];by_cases h:d=t
  .subst h;simp[hd d rfl]
  .simp [h,Array.getElem?_setIfInBounds_ne h]
theorem SR.put {o:Option Nat}(h:SR fr nt g e m a w)(ho:∀ d,o=some d->d<nt){v:Value}{x:SV}(hx:DenO g w v x)(hb:∀ k,k∈x.ids->m k ≠ .unborn) :
  SR fr nt g (eApp o x e) m (a.put o v) w:=by
 refine { h with env:=λ t=>?_,bornE:=λ t k hk=>?_,defers:=by rw[zkO];exact h.defers,tmps:=by rw[znK];exact h.tmps }
 .cases o with
  | none=>exact h.env t
  | some d =>
   rw[ze3];by_cases hd:d=t
   .rcases hx with rfl|hx
    .left;simp[hd]
    .right
     refine⟨v, ?_,by simpa [hd] using hx⟩;rw[zl7 _ _ _ _ (λ x hx=>by cases hx;rw[h.tmps];exact ho d rfl)];simp[hd]
   .simp only[hd,if_false]
    rcases h.env t with h'|⟨v',h1,h2⟩
    .exact .inl h'
    .right
     refine⟨v', ?_,h2⟩;rw[zl7 _ _ _ _ (λ x hx=>by cases hx;rw[h.tmps];exact ho d rfl)];simp[hd,h1]
 .cases o with
  | none=>exact h.bornE t k hk
  | some d =>
   rw[ze3] at hk;by_cases hd:d=t
   .simp [hd] at hk;exact hb k hk
   .simp [hd] at hk;exact h.bornE t k hk
theorem zah {o:Oper}{K:Dl->List Loc->Prop}{Q:Exit->Act->World->Prop}(h:SR fr nt g e m a w)(ho:∀ d,o.dst=some d->d<nt){v:Value}{x:SV}{l:List Loc}
  (hrun:(execOp a.eval o).run P w = .ok (.value v) w) (hx:DenO g w v x) (hb:∀ k,k∈x.ids->m k ≠ .unborn) (hK:K ⟨x,[]⟩ l):Good P fr nt e m a w o K Q:=by
 unfold Good Oper.wp;rw[hrun];exact⟨_,_,hK,g,h.put ho hx hb⟩
theorem znL {k:IntKind}{n:Int}(h:ziV k n=true):k.min<=n/\n<=k.max:=by
 cases n with
 | ofNat n =>
  cases k <;> simp[ziV,Nat.ble_eq,IntKind.min,IntKind.max,IntKind.signed,IntKind.bits] at h ⊢ <;> omega
 | negSucc n =>
  cases k <;> simp[ziV,Nat.ble_eq,IntKind.min,IntKind.max,IntKind.signed,IntKind.bits] at h ⊢ <;> omega
theorem zcx (v:Value):DenO g w v (SV.ofV1 v):=by
 unfold SV.ofV1
 split
 .exact .inr .kb
 .exact .inr .nil
 .cases hk:ziV _ _
  .exact .inl rfl
  .exact .inr (.dat (.v (znL hk)))
 .rename_i s
  by_cases hs:Nat.ble s.size 9223372036854775807=true
  .simp only[hs,cond_true];exact .inr (.dat (.v (by have:=zrj hs;simp only[pl,maxLen];omega)))
  .simp only[Bool.not_eq_true] at hs;simp only[hs,cond_false];exact .inl rfl
 .exact .inr (.dat (.v trivial))
 .exact .inr (.dat (.v trivial))
 .exact .inr (.dat (.v trivial))
 .exact .inr (.dat (.v trivial))
 .exact .inl rfl
theorem zcy (v:Value):(SV.ofV1 v).ids=[]:=by
 unfold SV.ofV1
 split
 .rfl
 .rfl
 .rename_i k n;cases ziV k n <;> rfl
 .rename_i s;cases Nat.ble s.size 9223372036854775807 <;> rfl
 .rfl
 .rfl
 .rfl
 .rfl
 .rfl
theorem zdU {l:List SV}(h:∀ x,x∈l->x.ids=[]):SV.idsL l=[]:=by
 induction l with
 | nil=>rfl
 | cons x r ih=>simp only[SV.idsL,h x (by simp),List.nil_append];exact ih λ y hy=>h y (by simp[hy])
theorem zl8 {v:Value}(h:pl v):v.oneCell'=true:=by cases v <;> simp[pl,Value.oneCell'] at h ⊢
theorem Rd.one {F:Nat->Prop}{v:Value}{d:D}(h:Rd F w v d)(hd:∀ cs,d ≠ .agg cs)(hd':∀ cs,d ≠ .tup cs):v.oneCell'=true:=by
 cases h with
 | v h=>exact zl8 h
 | agg=>exact absurd rfl (hd _)
 | tup=>exact absurd rfl (hd' _)
 | nil=>rfl
 | sl=>rfl
 | ifc=>rfl
 | pt=>rfl
 | mp=>rfl
theorem Den.one {v:Value}{x:SV}(h:Den g w v x)(hx:x.one=true):v.oneCell'=true:=by
 cases h with
 | @dat v d h=>exact h.one (by rintro cs rfl;simp[SV.one] at hx) (by rintro cs rfl;simp[SV.one] at hx)
 | rs=>unfold Gh.base;split <;> rfl
 | agg=>simp[SV.one] at hx
 | tup=>simp[SV.one] at hx
 | no=>simp[SV.one] at hx
 | _=>rfl
theorem zpm (v:Value):DenO g w v (SV.ofV v):=by
 unfold SV.ofV
 split
 .rename_i cs
  cases hall:(cs.toList.map SV.ofV1).all SV.one
  .exact .inl rfl
  .refine .inr ?_
   have h1:∀ (i:Nat) u x,cs.toList[i]? = some u->(cs.toList.map SV.ofV1)[i]? = some x->Den g w u x:=by
    intro i u x hu hx;rw[List.getElem?_map,hu] at hx;simp at hx;subst hx
    rcases zcx (g:=g) (w:=w) u with h|h
    .have:=List.all_eq_true.1 hall (SV.ofV1 u) (List.mem_map.2 ⟨u,zri hu,rfl⟩)
     rw[h] at this;simp[SV.one] at this
    .exact h
   have:=Den.agg (g:=g) (w:=w) (vs:=cs.toList) (l:=cs.toList.map SV.ofV1) (by simp) (λ i u x hu hx=>(h1 i u x hu hx).one (List.all_eq_true.1 hall x (zri hx))) h1;simpa using this
 .exact zcx _
theorem zpn (v:Value):(SV.ofV v).ids=[]:=by
 unfold SV.ofV
 split
 .cases (List.map SV.ofV1 _).all SV.one
  .rfl
  .simp only[cond_true,SV.ids]
   refine zdU λ x hx=>?_;obtain⟨u,_,rfl⟩:=List.mem_map.1 hx;exact zcy u
 .exact zcy _
theorem zaa {o:Operand}{k:SV->Pg}{l:List Loc}{K:Dl->List Loc->Prop}(hs:SR fr nt g e m a w)(h:Pg.opd o k e m l K) :
  ∃ x l',DenO g w (a.eval o) x/\(∀ i,i∈x.ids->m i ≠ .unborn)/\k x e m l' K:=by
 cases o with
 | tmp t =>
  simp only[Pg.opd,Pg.getT,force_eq] at h;refine⟨e t,_, ?_,hs.bornE t,h⟩
  rcases hs.env t with h'|⟨v,h1,h2⟩
  .exact .inl h'
  .right;simpa [Act.eval,Array.getD_eq_getD_getElem?,h1] using h2
 | const v=>exact⟨_,_,zpm v,by rw[zpn];simp,h⟩
 | global g=>exact h.elim
 | func f=>exact⟨_,_, .inr (.dat (.v ⟨rfl,rfl⟩)),by simp[SV.ids],h⟩
theorem zaU {os:List Operand}{k:List SV->Pg}{l:List Loc}{K:Dl->List Loc->Prop}(hs:SR fr nt g e m a w)(h:Pg.opds os k e m l K) :
  ∃ xs l',xs.length=os.length/\(∀ (i:Nat) o x,os[i]? = some o->xs[i]? = some x->DenO g w (a.eval o) x)/\(∀ x,x∈xs->∀ i,i∈x.ids->m i ≠ .unborn)/\k xs e m l' K:=by
 induction os generalizing k l with
 | nil=>exact⟨[],l,rfl,by simp,by simp,h⟩
 | cons o r ih =>
  obtain⟨x,l1,hx,hb,h1⟩:=zaa hs h;obtain⟨xs,l2,hl,hxs,hbs,h2⟩:=ih h1;refine⟨x::xs,l2,by simp[hl], ?_, ?_,h2⟩
  .intro i o' x' ho hx'
   cases i with
   | zero=>simp at ho hx';subst ho hx';exact hx
   | succ i=>exact hxs i o' x' (by simpa using ho) (by simpa using hx')
  .intro y hy
   rcases List.mem_cons.1 hy with rfl|hy
   .exact hb
   .exact hbs y hy
def Gh.set (g:Gh)(id b cap:Nat)(nl:Bool):Gh :=
 { β:=λ k=>if k=id then b else g.β k,C:=λ k=>if k=id then cap else g.C k,N:=λ k=>if k=id then nl else g.N k,M:=λ k=>if k=id then [] else g.M k,F:=g.F,X:=λ k b=>k≠id/\g.X k b }
theorem RowAt.mono {F F':Nat->Prop}{w w':World}{b:Nat}{t:TypeId}{s cap:Nat}{es:List D}(h:RowAt F w b t s cap es)(hF:∀ b,F b->F' b)(hw:∀ b,F b->w'.heap[b]? = w.heap[b]?)(hb:w'.heap[b]? = w.heap[b]?):RowAt F' w' b t s cap es:=by
 obtain⟨cur,h1,h2,h3,h4,h5,h6⟩:=h;refine⟨cur,by rw[hb];exact h1,h2,h3,h4,h5,λ i j el d he hd=>?_⟩;obtain⟨u,hu,ho,hr⟩:=h6 i j el d he hd;exact⟨u,hu,ho,hr.mono hF hw⟩
theorem zbK {outs:List (Nat×Nat×Nat)}{i o z:Nat}(h:zaD outs i o=some z):∃ x,x∈outs/\x.1=i/\x.2.1=o/\x.2.2=z:=by
 unfold zaD at h
 cases hf:outs.find? λ x=>x.1 == i&&x.2.1 == o with
 | none=>rw[hf] at h;cases h
 | some x =>
  rw[hf] at h;have h1:=List.find?_some hf;simp only[zrk,beq_iff_eq] at h1;exact⟨x,List.mem_of_find?_eq_some hf,h1.1,h1.2,by simpa using h⟩
theorem InRow.mono {g g':Gh}{w w':World}{k:Nat}{e':TypeId}{s':Nat}{I:Nat->Option (Nat×Nat)}{i:Nat}{l:List D}{v:Value}(h:InRow g w k e' s' I i l v)(hF:∀ b,g.F b->g'.F b)(hw:∀ b,g.F b->w'.heap[b]? = w.heap[b]?)
  (hX:∀ b c,I i=some (b,c)->g.X k b->g'.X k b/\w'.heap[b]? = w.heap[b]?):InRow g' w' k e' s' I i l v:=by
 unfold InRow at h ⊢
 cases hI:I i with
 | none=>rw[hI] at h;exact h
 | some bc =>
  obtain⟨b,c⟩:=bc;rw[hI] at h;exact⟨h.1,(hX b c hI h.2.1).1,h.2.2.mono hF hw (hX b c hI h.2.1).2⟩
theorem MapAt.mono {F F':Nat->Prop}{w w':World}{b:Nat}{es:List (D×D)}(h:MapAt F w b es)(hF:∀ b,F b->F' b)(hw:∀ b,F b->w'.heap[b]? = w.heap[b]?)(hb:w'.heap[b]? = w.heap[b]?):MapAt F' w' b es:=by
 obtain⟨arr,cl,h1,h2,h3,h4⟩:=h;exact⟨arr,cl,by rw[hb,h1],h2,h3,λ i x p hx hp=>⟨(h4 i x p hx hp).1.mono hF hw,(h4 i x p hx hp).2.mono hF hw⟩⟩
theorem CellAt.mono {g g':Gh}{w w':World}{k:Nat}{ks:List Nat}{I:Nat->Nat->Option (Nat×Nat)}{outs:List (Nat×Nat×Nat)}{i o:Nat}{u:Value}{x:MC}(h:CellAt g w k ks I outs i o u x)
  (hF:∀ b,g.F b->g'.F b) (hw:∀ b,g.F b->w'.heap[b]? = w.heap[b]?) (hi:∀ z,z∈outs.map (λ x=>x.2.2)++ks->g'.β z=g.β z/\g'.C z=g.C z/\g'.N z=g.N z/\g.M z <+: g'.M z)
  (hX:∀ b c,I i o=some (b,c)->g.X k b->g'.X k b/\w'.heap[b]? = w.heap[b]?):CellAt g' w' k ks I outs i o u x:=by
 have outz:∀ z,zaD outs i o=some z->g'.β z=g.β z/\g'.C z=g.C z/\g'.N z=g.N z/\g.M z <+: g'.M z:=λ z hz=>by
  obtain⟨y,hy,_,_,rfl⟩:=zbK hz;exact hi _ (by simp only[List.mem_append,List.mem_map];exact .inl ⟨y,hy,rfl⟩)
 cases x with
 | d x=>exact Rd.mono h hF hw
 | p k' t =>
  cases t with
  | none=>exact h
  | some j =>
   obtain⟨k1,h1,b,h2,h3⟩:=h;exact⟨k1,h1,b,zef (hi k1 (by simp[zri h1])).2.2.2 h2,h3⟩
 | r e s l =>
  simp only[CellAt] at h ⊢
  cases hz:zaD outs i o with
  | some z =>
   rw[hz] at h;obtain⟨e1,e2,e3,_⟩:=outz z hz;have h:u=g.base z l.length:=h;show u=g'.base z l.length;rw[h];simp[Gh.base,e1,e2,e3]
  | none=>rw[hz] at h;exact InRow.mono h hF hw hX
 | m l =>
  simp only[CellAt] at h ⊢
  cases hz:zaD outs i o with
  | some z =>
   rw[hz] at h;obtain⟨e1,_,_,_⟩:=outz z hz;have h:u = .map (some (g.β z)):=h;show u = .map (some (g'.β z));rw[h,e1]
  | none =>
   rw[hz] at h;obtain⟨b,h1,h2,h3,h4⟩:=h;exact⟨b,h1,h2,(hX b 0 h1 h3).1,h4.mono hF hw (hX b 0 h1 h3).2⟩
theorem SCell.mono {g g':Gh}{w w':World}{k:Nat}{I:Nat->Nat->Option (Nat×Nat)}{out:Option (Nat×Nat×Nat)}{i o:Nat}{u:Value}{x:MC}(h:SCell g w k I out i o u x)(hF:∀ b,g.F b->g'.F b)(hw:∀ b,g.F b->w'.heap[b]? = w.heap[b]?)
  (hi:∀ i o z,out=some (i,o,z)->g'.β z=g.β z/\g'.C z=g.C z/\g'.N z=g.N z) (hX:∀ b,g.X k b->g'.X k b/\w'.heap[b]? = w.heap[b]?):SCell g' w' k I out i o u x:=by
 cases x with
 | d x=>exact Rd.mono h hF hw
 | p c t=>exact h
 | m l=>exact h
 | r e' s' l =>
  rcases h with ⟨z,ho,hz⟩|⟨ho,hr⟩
  .have ez:=hi i o z ho
   exact .inl ⟨z,ho,by rw[hz];simp[Gh.base,ez.1,ez.2.1,ez.2.2]⟩
  .refine .inr ⟨ho, ?_⟩
   unfold InRow at hr ⊢
   cases hI:I i o with
   | none=>rw[hI] at hr;exact hr
   | some bc =>
    obtain⟨b,c⟩:=bc;rw[hI] at hr;exact⟨hr.1,(hX b hr.2.1).1,hr.2.2.mono hF hw (hX b hr.2.1).2⟩
theorem SnAt.mono {g g' : Gh}{w w' : World}{k : Nat}{e : TypeId}{s : Nat}{out : Option (Nat × Nat × Nat)}{es : List (List MC)}{cur : Array Value}{I : Nat -> Nat -> Option (Nat × Nat)}(h : SnAt g w k e s out es cur I)(hF : ∀ b, g.F b -> g'.F b)(hw : ∀ b, g.F b -> w'.heap[b]? = w.heap[b]?)
    (hk : g'.β k = g.β k /\ g'.C k = g.C k /\ g'.N k = g.N k) (hb : w'.heap[g.β k]? = w.heap[g.β k]?) (hi : ∀ i o z, out = some (i, o, z) -> g'.β z = g.β z /\ g'.C z = g.C z /\ g'.N z = g.N z)
    (hX : ∀ b, g.X k b -> g'.X k b /\ w'.heap[b]? = w.heap[b]?) : SnAt g' w' k e s out es cur I :=
  ⟨by rw [hk.2.2, h.nn], by rw [hk.1, hb]; exact h.hp, by rw [hk.2.1]; exact h.size, by rw [hk.2.1]; exact h.le, h.len,
   λ i o l x hl hx => by obtain ⟨u, h1, h2, h3⟩ := h.mem i o l x hl hx; exact ⟨u, by rw [hk.2.1]; exact h1, h2, h3.mono hF hw hi hX⟩, h.dom, h.inj⟩
theorem BlkRel.mono {g g':Gh}{w w':World}{k:Nat}{b:Blk}(h:BlkRel g w k b)(hF:∀ b,g.F b->g'.F b)(hw:∀ b,g.F b->w'.heap[b]? = w.heap[b]?)
  (hk:g'.β k=g.β k/\g'.C k=g.C k/\g'.N k=g.N k/\g.M k <+: g'.M k) (hb:w'.heap[g.β k]? = w.heap[g.β k]?) (hi:∀ i,i∈b.ids->g'.β i=g.β i/\g'.C i=g.C i/\g'.N i=g.N i/\g.M i <+: g'.M i)
  (hX:∀ b,g.X k b->g'.X k b/\w'.heap[b]? = w.heap[b]?) (hMk:g'.M k=g.M k:=by rfl):BlkRel g' w' k b:=by
 cases b with
 | fam ks es outs =>
  obtain⟨arr,cl,M,I,h⟩:=h;refine⟨arr,cl,M,I,⟨by rw[hk.1,hb,h.hp],by rw[hMk,h.Mk],h.len,h.size,h.keys,h.nodup,λ b hb=>(hX b (h.own b hb)).1,λ i x p hx hp=>⟨(h.ent i x p hx hp).1.mono hF hw,(h.ent i x p hx hp).2⟩,λ i p hp=>?_,h.sep,h.inj,λ i o b c hI=>(hX b (h.iown i o b c hI)).1,h.olt⟩⟩;obtain⟨vs,t,h1,h2,h3⟩:=h.mem i p hp
  have hin:M.getD i 0∈M:=by
   have:i<M.length:=by rw[h.len];exact(zrf.1 hp).1
   simp[this]
  exact⟨vs,t,by rw[(hX _ (h.own _ hin)).2];exact h1,h2,λ o u x hu hx=>⟨(h3 o u x hu hx).1,(h3 o u x hu hx).2.mono hF hw hi λ b _ _ hb=>hX b hb⟩⟩
 | sit s p=>exact⟨by rw[hk.1,hb,h.1],h.2⟩
 | mit es seen =>
  obtain⟨bm,cl,arr,sa,h1,h2,h3,h4,h7,h8,h9⟩:=h;exact⟨bm,cl,arr,sa,by rw[hk.1,hb,h1],hF _ h2,(hw _ h2).trans h3,h4,h7,λ i x p hx hp=>⟨(h8 i x p hx hp).1.mono hF hw,(h8 i x p hx hp).2.mono hF hw⟩,h9⟩
 | sn e s ea out es =>
  rcases h with h|⟨cur,I,h⟩
  .exact .inl ⟨by rw[hk.2.2.1,h.1],h.2⟩
  .refine .inr ⟨cur,I,h.mono hF hw ⟨hk.1,hk.2.1,hk.2.2.1⟩ hb (λ i o z ho=>?_) hX⟩
   subst ho;have ez:=hi z (by simp[Blk.ids]);exact⟨ez.1,ez.2.1,ez.2.2.1⟩
 | unborn=>trivial
 | dead=>trivial
 | box l =>
  obtain⟨vs,t,h1,h2,h3,h4⟩:=h;refine⟨vs,t,by rw[hk.1,hb,h1],h2,λ i u x hu hx=>⟨(h3 i u x hu hx).1,(h3 i u x hu hx).2.mono hF hw λ j hj=>hi j ?_⟩,h4⟩;simp only[Blk.ids,zau];exact⟨x,zri hx,hj⟩
 | arr l =>
  obtain⟨vs,t,h1,h2,h3⟩:=h;exact⟨vs,t,by rw[hk.1,hb,h1],h2,λ i u x hu hx=>⟨(h3 i u x hu hx).1,(h3 i u x hu hx).2.mono hF hw⟩⟩
 | mp es =>
  obtain⟨arr,cl,h1,h2,h3,h4⟩:=h;exact⟨arr,cl,by rw[hk.1,hb,h1],h2,h3,λ i x p hx hp=>⟨(h4 i x p hx hp).1.mono hF hw,(h4 i x p hx hp).2.mono hF hw⟩⟩
 | row e' s es =>
  rcases h with ⟨h1,h2⟩|⟨h1,h2⟩
  .exact .inl ⟨by rw[hk.2.2.1,h1],h2⟩
  .exact .inr ⟨by rw[hk.2.2.1,h1],by rw[hk.1,hk.2.1];exact h2.mono hF hw hb⟩
 | fz e' s es =>
  rcases h with ⟨h1,h2⟩|⟨h1,h0,h2⟩
  .exact .inl ⟨by rw[hk.2.2.1,h1],h2⟩
  .exact .inr ⟨by rw[hk.2.2.1,h1],by rw[hk.1];exact hF _ h0,by rw[hk.1,hk.2.1];exact h2.mono hF hw hb⟩
theorem BlkRel.mono0 {g g':Gh}{w w':World}{k:Nat}(h:BlkRel g w k (m k))(ha:¬ zac g m k)(hF:∀ b,g.F b->g'.F b)(hw:∀ b,g.F b->w'.heap[b]? = w.heap[b]?)
  (hk:g'.β k=g.β k/\g'.C k=g.C k/\g'.N k=g.N k/\g.M k <+: g'.M k) (hb:w'.heap[g.β k]? = w.heap[g.β k]?) (hi:∀ i,i∈(m k).ids->g'.β i=g.β i/\g'.C i=g.C i/\g'.N i=g.N i/\g.M i <+: g'.M i):BlkRel g' w' k (m k):=by
 unfold zac at ha
 cases hm:m k with
 | sn e s ea o es =>
  rw[hm] at h ha
  rcases h with h|⟨cur,I,h⟩
  .exact .inl ⟨by rw[hk.2.2.1,h.1],h.2⟩
  .exact absurd h.nn ha
 | fam ks es o=>rw[hm] at ha;exact absurd trivial ha
 | unborn=>trivial
 | dead=>trivial
 | box l=>rw[hm] at ha;exact absurd trivial ha
 | arr l=>rw[hm] at ha;exact absurd trivial ha
 | mp l=>rw[hm] at ha;exact absurd trivial ha
 | sit s p=>rw[hm] at ha;exact absurd trivial ha
 | mit es z=>rw[hm] at ha;exact absurd trivial ha
 | row e s es =>
  rw[hm] at h
  rcases h with h1|⟨h1,h2⟩
  .exact .inl ⟨by rw[hk.2.2.1,h1.1],h1.2⟩
  .exact .inr ⟨by rw[hk.2.2.1,h1],by rw[hk.1,hk.2.1];exact h2.mono hF hw hb⟩
 | fz e s es =>
  rw[hm] at h
  rcases h with ⟨h1,h2⟩|⟨h1,h0,h2⟩
  .exact .inl ⟨by rw[hk.2.2.1,h1],h2⟩
  .exact .inr ⟨by rw[hk.2.2.1,h1],by rw[hk.1];exact hF _ h0,by rw[hk.1,hk.2.1];exact h2.mono hF hw hb⟩
theorem MRel.blkMono {g':Gh}{w':World}(h:MRel g m w){k:Nat}(hF:∀ b,g.F b->g'.F b)(hw:∀ b,g.F b->w'.heap[b]? = w.heap[b]?)
  (hk:g'.β k=g.β k/\g'.C k=g.C k/\g'.N k=g.N k/\g.M k <+: g'.M k) (hb:w'.heap[g.β k]? = w.heap[g.β k]?) (hi:∀ i,i∈(m k).ids->g'.β i=g.β i/\g'.C i=g.C i/\g'.N i=g.N i/\g.M i <+: g'.M i)
  (hX:zac g m k->∀ b,g.X k b->g'.X k b/\w'.heap[b]? = w.heap[b]?) (hMk:g'.M k=g.M k:=by rfl):BlkRel g' w' k (m k):=by
 by_cases ha:zac g m k
 .exact (h.blk k).mono hF hw hk hb hi (hX ha) hMk
 .exact (h.blk k).mono0 ha hF hw hk hb hi
theorem zaT (h:MRel g m w){k:Nat}(hk:zac g m k):g.β k<w.heap.size:=by
 have hb:=h.blk k;unfold zac at hk;have lt:∀ {o:Obj},w.heap[g.β k]? = some o->g.β k<w.heap.size:=λ h=>(Array.getElem?_eq_some_iff.1 h).1
 cases hm:m k with
 | unborn=>rw[hm] at hk;exact hk.elim
 | dead=>rw[hm] at hk;exact hk.elim
 | fz=>rw[hm] at hk;exact hk.elim
 | box l=>rw[hm] at hb;obtain⟨vs,t,h1,_⟩:=hb;exact lt h1
 | arr l=>rw[hm] at hb;obtain⟨vs,t,h1,_⟩:=hb;exact lt h1
 | mp es=>rw[hm] at hb;obtain⟨arr,cl,h1,_⟩:=hb;exact lt h1
 | sit s p=>rw[hm] at hb;exact lt hb.1
 | mit es z=>rw[hm] at hb;obtain⟨_,_,_,_,h1,_⟩:=hb;exact lt h1
 | sn e s ea o es =>
  rw[hm] at hb hk
  rcases hb with h|⟨cur,I,h⟩
  .have hk:g.N k=false:=hk
   rw[h.1] at hk;cases hk
  .obtain ⟨_,hp,_⟩:=h.hp;exact lt hp
 | fam ks es o=>rw[hm] at hb;obtain⟨arr,cl,M,I,h1⟩:=hb;exact lt h1.hp
 | row e' s es =>
  rw[hm] at hb hk
  rcases hb with ⟨h1,_⟩|⟨_,cur,⟨_,h1,_⟩,_⟩
  .simp [h1] at hk
  .exact lt h1
theorem SR.setB {w' : World}{k : Nat}{b : Blk}(hs : SR fr nt g e m a w)(hk : zac g m k)(hw : ∀ i, i ≠ g.β k → w'.heap[i]? = w.heap[i]?)(hsz : w'.heap.size = w.heap.size)
    (hos : w'.os = w.os) (ht : w'.tape = w.tape) (hout : w'.output = w.output) (hb : BlkRel g w' k b) (hal : b ≠ .unborn) (hids : ∀ i, i ∈ b.ids → m i ≠ .unborn) :
    SR fr nt g e (mApp [(k, b)] m) a w' := by
  have hF : ∀ i, g.F i → w'.heap[i]? = w.heap[i]? := fun i hi => hw i fun e => hs.mem.hot k hk (e ▸ hi)
  have hal' : ∀ i, zac g (mApp [(k, b)] m) i → zac g m i := by
    intro i hi;unfold zac at hi;rw [za] at hi;by_cases hki : k = i
    · subst hki; exact hk
    · rw [if_neg hki] at hi; exact hi
  have hborn : ∀ i, m i ≠ .unborn → mApp [(k, b)] m i ≠ .unborn := by
    intro i hi;rw [za]
    split
    · exact hal
    · exact hi
  refine { mem := ⟨fun i => ?_, fun i j hi hj => hs.mem.inj i j (hal' i hi) (hal' j hj), fun i hi => hs.mem.hot i (hal' i hi), fun i hi => by rw [hsz]; exact hs.mem.lt i hi, fun i b hi hx => by
             obtain ⟨x1, x2, x3, x4⟩ := hs.mem.own i b (hal' i hi) hx
             exact ⟨by rw [hsz]; exact x1, x2, fun j hj => x3 j (hal' j hj), fun j hj => x4 j (hal' j hj)⟩⟩, env := fun t => ?_, bornE := fun t i hi => hborn i (hs.bornE t i hi),
           bornM := fun i j hj => ?_, os := hos.trans hs.os, tape := ht.trans hs.tape, output := hout.trans hs.output, size := by rw [hsz]; exact hs.size, keep := fun i hi => ?_,
           safe := fun i hi => hs.safe i (hal' i hi), safeX := fun i b hi => hs.safeX i b (hal' i hi), given := hs.given, frz := hs.frz, defers := hs.defers, tmps := hs.tmps, pin := hs.pin }
  · rw [za]
    by_cases hki : k = i
    · rw [if_pos hki]; subst hki; exact hb
    · rw [if_neg hki]
      have hbi := hs.mem.blk i;simp only [mApp];by_cases hbe : g.β i = g.β k
      · cases hm : m i with
        | unborn => trivial
        | dead => trivial
        | box l => exact absurd (hs.mem.inj k i hk (by simp [zac, hm]) hbe.symm) hki
        | arr l => exact absurd (hs.mem.inj k i hk (by simp [zac, hm]) hbe.symm) hki
        | mp es => exact absurd (hs.mem.inj k i hk (by simp [zac, hm]) hbe.symm) hki
        | fam ks es o => exact absurd (hs.mem.inj k i hk (by simp [zac, hm]) hbe.symm) hki
        | sit s p => exact absurd (hs.mem.inj k i hk (by simp [zac, hm]) hbe.symm) hki
        | mit es z => exact absurd (hs.mem.inj k i hk (by simp [zac, hm]) hbe.symm) hki
        | sn e' s ea o es =>
          rw [hm] at hbi
          rcases hbi with h1 | ⟨cur, I, h1⟩
          · exact .inl h1
          · exact absurd (hs.mem.inj k i hk (by simp [zac, hm, h1.nn]) hbe.symm) hki
        | row e' s es =>
          rw [hm] at hbi
          rcases hbi with h1 | ⟨h1, _⟩
          · exact .inl h1
          · exact absurd (hs.mem.inj k i hk (by simp [zac, hm, h1]) hbe.symm) hki
        | fz e' s es =>
          rw [hm] at hbi
          rcases hbi with h1 | ⟨h1, h2, h3⟩
          · exact .inl h1
          · exact absurd (hbe ▸ h2) (hs.mem.hot k hk)
      · by_cases hai : zac g m i
        · exact hbi.mono (fun _ h => h) hF ⟨rfl, rfl, rfl, List.prefix_rfl⟩ (hw _ hbe) (fun _ _ => ⟨rfl, rfl, rfl, List.prefix_rfl⟩) fun b hx => ⟨hx, hw b fun e => (hs.mem.own i b hai hx).2.2.1 k hk e.symm⟩
        · exact hbi.mono0 hai (fun _ h => h) hF ⟨rfl, rfl, rfl, List.prefix_rfl⟩ (hw _ hbe) fun _ _ => ⟨rfl, rfl, rfl, List.prefix_rfl⟩
  · rcases hs.env t with h | ⟨v, h1, h2⟩
    · exact .inl h
    · exact .inr ⟨v, h1, h2.mono (fun _ h => h) hF fun _ _ => ⟨rfl, rfl, rfl, List.prefix_rfl⟩⟩
  · rw [za] at hj
    by_cases hki : k = i
    · rw [if_pos hki] at hj; exact hborn j (hids j hj)
    · rw [if_neg hki] at hj; exact hborn j (hs.bornM i j hj)
  · obtain ⟨h1, h2⟩ := hs.keep i hi
    exact ⟨h1, (hw i fun e => (hs.safe k hk).1 (e ▸ hi)).trans h2⟩
theorem SR.setX {w' : World}{k c : Nat}{b : Blk}(hs : SR fr nt g e m a w)(hk : zac g m k)(hc : g.X k c)(hw : ∀ i, i ≠ c → w'.heap[i]? = w.heap[i]?)(hsz : w'.heap.size = w.heap.size)
    (hos : w'.os = w.os) (ht : w'.tape = w.tape) (hout : w'.output = w.output) (hb : BlkRel g w' k b) (hal : b ≠ .unborn) (hids : ∀ i, i ∈ b.ids → m i ≠ .unborn) :
    SR fr nt g e (mApp [(k, b)] m) a w' := by
  have hF : ∀ i, g.F i → w'.heap[i]? = w.heap[i]? := fun i hi => hw i fun e => (hs.mem.own k c hk hc).2.1 (e ▸ hi)
  have hal' : ∀ i, zac g (mApp [(k, b)] m) i → zac g m i := by
    intro i hi;unfold zac at hi;rw [za] at hi;by_cases hki : k = i
    · subst hki; exact hk
    · rw [if_neg hki] at hi; exact hi
  have hborn : ∀ i, m i ≠ .unborn → mApp [(k, b)] m i ≠ .unborn := by
    intro i hi;rw [za]
    split
    · exact hal
    · exact hi
  refine { mem := ⟨fun i => ?_, fun i j hi hj => hs.mem.inj i j (hal' i hi) (hal' j hj), fun i hi => hs.mem.hot i (hal' i hi), fun i hi => by rw [hsz]; exact hs.mem.lt i hi, fun i b hi hx => by
             obtain ⟨x1, x2, x3, x4⟩ := hs.mem.own i b (hal' i hi) hx
             exact ⟨by rw [hsz]; exact x1, x2, fun j hj => x3 j (hal' j hj), fun j hj => x4 j (hal' j hj)⟩⟩, env := fun t => ?_, bornE := fun t i hi => hborn i (hs.bornE t i hi),
           bornM := fun i j hj => ?_, os := hos.trans hs.os, tape := ht.trans hs.tape, output := hout.trans hs.output, size := by rw [hsz]; exact hs.size, keep := fun i hi => ?_,
           safe := fun i hi => hs.safe i (hal' i hi), safeX := fun i b hi => hs.safeX i b (hal' i hi), given := hs.given, frz := hs.frz, defers := hs.defers, tmps := hs.tmps, pin := hs.pin }
  · rw [za]
    by_cases hki : k = i
    · rw [if_pos hki]; subst hki; exact hb
    · rw [if_neg hki]
      have hbi := hs.mem.blk i;simp only [mApp];by_cases hbe : g.β i = c
      · cases hm : m i with
        | unborn => trivial
        | dead => trivial
        | box l => exact absurd hbe ((hs.mem.own k c hk hc).2.2.1 i (by simp [zac, hm]))
        | arr l => exact absurd hbe ((hs.mem.own k c hk hc).2.2.1 i (by simp [zac, hm]))
        | mp es => exact absurd hbe ((hs.mem.own k c hk hc).2.2.1 i (by simp [zac, hm]))
        | fam ks es o => exact absurd hbe ((hs.mem.own k c hk hc).2.2.1 i (by simp [zac, hm]))
        | sit s p => exact absurd hbe ((hs.mem.own k c hk hc).2.2.1 i (by simp [zac, hm]))
        | mit es z => exact absurd hbe ((hs.mem.own k c hk hc).2.2.1 i (by simp [zac, hm]))
        | sn e' s ea o es =>
          rw [hm] at hbi
          rcases hbi with h1 | ⟨cur, I, h1⟩
          · exact .inl h1
          · exact absurd hbe ((hs.mem.own k c hk hc).2.2.1 i (by simp [zac, hm, h1.nn]))
        | row e' s es =>
          rw [hm] at hbi
          rcases hbi with h1 | ⟨h1, _⟩
          · exact .inl h1
          · exact absurd hbe ((hs.mem.own k c hk hc).2.2.1 i (by simp [zac, hm, h1]))
        | fz e' s es =>
          rw [hm] at hbi
          rcases hbi with h1 | ⟨h1, h2, h3⟩
          · exact .inl h1
          · exact absurd (hbe ▸ h2) (hs.mem.own k c hk hc).2.1
      · by_cases hai : zac g m i
        · exact hbi.mono (fun _ h => h) hF ⟨rfl, rfl, rfl, List.prefix_rfl⟩ (hw _ hbe) (fun _ _ => ⟨rfl, rfl, rfl, List.prefix_rfl⟩) fun b hx => ⟨hx, hw b fun e => hki ((hs.mem.own i b hai hx).2.2.2 k hk (e ▸ hc))⟩
        · exact hbi.mono0 hai (fun _ h => h) hF ⟨rfl, rfl, rfl, List.prefix_rfl⟩ (hw _ hbe) fun _ _ => ⟨rfl, rfl, rfl, List.prefix_rfl⟩
  · rcases hs.env t with h | ⟨v, h1, h2⟩
    · exact .inl h
    · exact .inr ⟨v, h1, h2.mono (fun _ h => h) hF fun _ _ => ⟨rfl, rfl, rfl, List.prefix_rfl⟩⟩
  · rw [za] at hj
    by_cases hki : k = i
    · rw [if_pos hki] at hj; exact hborn j (hids j hj)
    · rw [if_neg hki] at hj; exact hborn j (hs.bornM i j hj)
  · obtain ⟨h1, h2⟩ := hs.keep i hi
    exact ⟨h1, (hw i fun e => (hs.safeX k c hk hc).1 (e ▸ hi)).trans h2⟩
structure Ext (w w':World):Prop where
 os:w'.os=w.os
 tape:w'.tape=w.tape
 output:w'.output=w.output
 size:w.heap.size<=w'.heap.size
 old:∀ b,b<w.heap.size->w'.heap[b]? = w.heap[b]?
theorem Ext.refl (w:World):Ext w w:=⟨rfl,rfl,rfl,Nat.le_refl _,λ _ _=>rfl⟩
theorem Ext.alloc (w:World)(o:Obj):Ext w (w.alloc o):=⟨rfl,rfl,rfl,by simp,λ b hb=>Below.heap_alloc w o b hb⟩
theorem Ext.drew (w:World):Ext w w.drew:=⟨rfl,rfl,rfl,Nat.le_refl _,λ _ _=>rfl⟩
theorem Ext.of_below {w w':World}(h:Below w.heap.size w w'):Ext w w':=⟨h.os,h.tape,h.output,h.size,h.block⟩
theorem MRel.ext {w':World}(h:MRel g m w)(hw:Ext w w'):MRel g m w':=by
 refine⟨λ k=>?_,h.inj,h.hot,λ b hb=>Nat.lt_of_lt_of_le (h.lt b hb) hw.size,λ k b hk hx=>?_⟩
 rotate_left
 .obtain ⟨x1,x2,x3,x4⟩:=h.own k b hk hx
  exact⟨Nat.lt_of_lt_of_le x1 hw.size,x2,x3,x4⟩
 have hb:=h.blk k;have hF:∀ b,g.F b->w'.heap[b]? = w.heap[b]? := λ b hb=>hw.old b (h.lt b hb);by_cases hlt:g.β k<w.heap.size
 .exact h.blkMono (λ _ h=>h) hF ⟨rfl,rfl,rfl,List.prefix_rfl⟩ (hw.old _ hlt) (λ _ _=>⟨rfl,rfl,rfl,List.prefix_rfl⟩) λ ha b hx=>⟨hx,hw.old b (h.own k b ha hx).1⟩
 .have no:∀ o,w.heap[g.β k]? ≠ some o:=λ o ho=>hlt (Array.getElem?_eq_some_iff.1 ho).1
  cases hm:m k with
  | unborn=>trivial
  | dead=>trivial
  | box l=>rw[hm] at hb;obtain⟨vs,t,h1,_⟩:=hb;exact absurd h1 (no _)
  | arr l=>rw[hm] at hb;obtain⟨vs,t,h1,_⟩:=hb;exact absurd h1 (no _)
  | mp es=>rw[hm] at hb;obtain⟨arr,cl,h1,_⟩:=hb;exact absurd h1 (no _)
  | fam ks es o=>rw[hm] at hb;obtain⟨arr,cl,M,I,h1⟩:=hb;exact absurd h1.hp (no _)
  | sit s p=>rw[hm] at hb;exact absurd hb.1 (no _)
  | mit es z=>rw[hm] at hb;obtain⟨_,_,_,_,h1,_⟩:=hb;exact absurd h1 (no _)
  | sn e' s ea o es =>
   rw[hm] at hb
   rcases hb with h1|⟨cur,I,h1⟩
   .exact .inl h1
   .obtain ⟨_,hp,_⟩:=h1.hp;exact absurd hp (no _)
  | row e' s es =>
   rw[hm] at hb
   rcases hb with h1|⟨h1,cur,⟨_,h2,_⟩,_⟩
   .exact .inl h1
   .exact absurd h2 (no _)
  | fz e' s es =>
   rw[hm] at hb
   rcases hb with h1|⟨h1,_,cur,⟨_,h2,_⟩,_⟩
   .exact .inl h1
   .exact absurd h2 (no _)
theorem SR.ext {w':World}(h:SR fr nt g e m a w)(hw:Ext w w'):SR fr nt g e m a w':=by
 have hF:∀ b,g.F b->w'.heap[b]? = w.heap[b]? := λ b hb=>hw.old b (h.mem.lt b hb);refine { h with mem:=h.mem.ext hw,env:=λ t=>?_,os:=hw.os.trans h.os,tape:=hw.tape.trans h.tape,output:=hw.output.trans h.output,size:=Nat.le_trans h.size hw.size,keep:=λ b hb=>?_ }
 .rcases h.env t with h'|⟨v,h1,h2⟩
  .exact .inl h'
  .exact .inr ⟨v,h1,h2.mono (λ _ h=>h) hF λ _ _=>⟨rfl,rfl,rfl,List.prefix_rfl⟩⟩
 .obtain ⟨h1,h2⟩:=h.keep b hb
  exact⟨h1,(hw.old b (Nat.lt_of_lt_of_le h1 h.size)).trans h2⟩
theorem SR.born {id b cap : Nat}{nl : Bool}{bl : Blk}(hs : SR fr nt g e m a w)(hp : fr.p ≤ id)(hid : m id = .unborn)(hal : bl ≠ .unborn)
    (hb : BlkRel (g.set id b cap nl) w id bl) (hids : ∀ i, i ∈ bl.ids → m i ≠ .unborn)
    (hnew : zac (g.set id b cap nl) (mApp [(id, bl)] m) id → (∀ k, zac g m k → g.β k ≠ b) ∧ ¬ g.F b ∧ ¬ fr.Kp b ∧ (fr.Y b ∨ fr.w0.heap.size ≤ b))
    (hnx : zac (g.set id b cap nl) (mApp [(id, bl)] m) id → ∀ k, zac g m k → ¬ g.X k b) :
    SR fr nt (g.set id b cap nl) e (mApp [(id, bl)] m) a w := by
  have ne : ∀ k, m k ≠ .unborn → k ≠ id := fun k hk e => hk (e ▸ hid)
  have agree : ∀ k, k ≠ id → (g.set id b cap nl).β k = g.β k ∧ (g.set id b cap nl).C k = g.C k ∧ (g.set id b cap nl).N k = g.N k ∧ g.M k <+: (g.set id b cap nl).M k := fun k hk => by simp [Gh.set, hk]
  have mk : ∀ k, k ≠ id → mApp [(id, bl)] m k = m k := fun k hk => by rw [za, if_neg (Ne.symm hk)]; rfl
  have mid : mApp [(id, bl)] m id = bl := by rw [za, if_pos rfl]
  have alv : ∀ k, k ≠ id → (zac (g.set id b cap nl) (mApp [(id, bl)] m) k ↔ zac g m k) := fun k hk => by
    unfold zac; rw [mk k hk, (agree k hk).2.2.1]
  have borne : ∀ i, m i ≠ .unborn → mApp [(id, bl)] m i ≠ .unborn := fun i hi => by rw [mk i (ne i hi)]; exact hi
  refine { mem := ⟨fun k => ?_, fun k k' hk hk' hkk => ?_, fun k hk => ?_, hs.mem.lt, fun k b' hk hx => ?_⟩, env := fun t => ?_, bornE := fun t i hi => borne i (hs.bornE t i hi), bornM := fun k i hi => ?_,
           os := hs.os, tape := hs.tape, output := hs.output, size := hs.size, keep := hs.keep, safe := fun k hk => ?_, safeX := fun k b' hk hx => hs.safeX k b' ((alv k hx.1).1 hk) hx.2, given := hs.given, frz := hs.frz, defers := hs.defers, tmps := hs.tmps, pin := fun k hk => ?_ }
  · by_cases hk : k = id
    · subst hk; rw [mid]; exact hb
    · rw [mk k hk]
      exact (hs.mem.blk k).mono (fun _ h => h) (fun _ _ => rfl) (agree k hk) rfl (fun i hi => agree i (ne i (hs.bornM k i hi))) (fun b hx => ⟨⟨hk, hx⟩, rfl⟩) (by simp [Gh.set, hk])
  · by_cases h1 : k = id
    · by_cases h2 : k' = id
      · rw [h1, h2]
      · subst h1
        have := (hnew hk).1 k' ((alv k' h2).1 hk');rw [(agree k' h2).1] at hkk;simp [Gh.set] at hkk;exact absurd hkk.symm this
    · by_cases h2 : k' = id
      · subst h2
        have := (hnew hk').1 k ((alv k h1).1 hk);rw [(agree k h1).1] at hkk;simp [Gh.set] at hkk;exact absurd hkk this
      · rw [(agree k h1).1, (agree k' h2).1] at hkk
        exact hs.mem.inj k k' ((alv k h1).1 hk) ((alv k' h2).1 hk') hkk
  · by_cases h1 : k = id
    · subst h1; have := (hnew hk).2.1; simpa [Gh.set] using this
    · rw [(agree k h1).1]; exact hs.mem.hot k ((alv k h1).1 hk)
  · obtain ⟨x1, x2, x3, x4⟩ := hs.mem.own k b' ((alv k hx.1).1 hk) hx.2
    refine ⟨x1, x2, fun k' hk' => ?_, fun k' hk' hx' => x4 k' ((alv k' hx'.1).1 hk') hx'.2⟩;by_cases h2 : k' = id
    · subst h2
      have : (g.set k' b cap nl).β k' = b := by simp [Gh.set]
      rw [this]; rintro rfl;exact hnx hk' k ((alv k hx.1).1 hk) hx.2
    · rw [(agree k' h2).1]; exact x3 k' ((alv k' h2).1 hk')
  · rcases hs.env t with h | ⟨v, h1, h2⟩
    · exact .inl h
    · exact .inr ⟨v, h1, h2.mono (fun _ h => h) (fun _ _ => rfl) fun k hk => agree k (ne k (hs.bornE t k hk))⟩
  · by_cases h1 : k = id
    · subst h1; rw [mid] at hi; exact borne i (hids i hi)
    · rw [mk k h1] at hi; exact borne i (hs.bornM k i hi)
  · by_cases h1 : k = id
    · subst h1
      have h2 := (hnew hk).2.2
      have : (g.set k b cap nl).β k = b := by simp [Gh.set]
      rw [this];exact h2
    · rw [(agree k h1).1]; exact hs.safe k ((alv k h1).1 hk)
  · have hki : k ≠ id := by omega
    rw [(agree k hki).1, (agree k hki).2.1, (agree k hki).2.2.1]; exact ⟨(hs.pin k hk).1, (hs.pin k hk).2.1, (hs.pin k hk).2.2.1, (hs.pin k hk).2.2.2.trans (agree k hki).2.2.2⟩
theorem SR.kill {k : Nat}(hs : SR fr nt g e m a w) : SR fr nt g e (mApp [(k, .dead)] m) a w := by
  have hal : ∀ i, zac g (mApp [(k, .dead)] m) i → zac g m i := by
    intro i hi;unfold zac at hi;rw [za] at hi;by_cases hki : k = i
    · rw [if_pos hki] at hi; exact hi.elim
    · rw [if_neg hki] at hi; exact hi
  have hborn : ∀ i, m i ≠ .unborn → mApp [(k, .dead)] m i ≠ .unborn := by
    intro i hi; rw [za]; split
    · simp
    · exact hi
  refine { mem := ⟨fun i => ?_, fun i j hi hj => hs.mem.inj i j (hal i hi) (hal j hj), fun i hi => hs.mem.hot i (hal i hi), hs.mem.lt, fun i b hi hx => by
             obtain ⟨x1, x2, x3, x4⟩ := hs.mem.own i b (hal i hi) hx
             exact ⟨x1, x2, fun j hj => x3 j (hal j hj), fun j hj => x4 j (hal j hj)⟩⟩, env := hs.env, bornE := fun t i hi => hborn i (hs.bornE t i hi), bornM := fun i j hj => ?_,
           os := hs.os, tape := hs.tape, output := hs.output, size := hs.size, keep := hs.keep, safe := fun i hi => hs.safe i (hal i hi), safeX := fun i b hi => hs.safeX i b (hal i hi), given := hs.given, frz := hs.frz, defers := hs.defers, tmps := hs.tmps, pin := hs.pin }
  · rw [za]; split
    · trivial
    · exact hs.mem.blk i
  · rw [za] at hj
    by_cases hki : k = i
    · rw [if_pos hki] at hj; simp [Blk.ids] at hj
    · rw [if_neg hki] at hj; exact hborn j (hs.bornM i j hj)
theorem SR.freeze {k s : Nat}{t : TypeId}{es : List D}(hs : SR fr nt g e m a w)(hk : m k = .row t s es) :
    ∃ g', SR fr nt g' e (mApp [(k, .fz t s es)] m) a w ∧ (∀ b, g.F b → g'.F b) ∧ g'.β = g.β ∧ g'.C = g.C ∧ g'.N = g.N ∧ g'.M = g.M := by
  have hb := hs.mem.blk k;rw [hk] at hb;by_cases hn : g.N k = true
  · refine ⟨g, ?_, fun _ h => h, rfl, rfl, rfl, rfl⟩
    have hes : es = [] := by
      rcases hb with h | h
      · exact h.2
      · rw [h.1] at hn; simp at hn
    have hal : ∀ i, zac g (mApp [(k, .fz t s es)] m) i → zac g m i := by
      intro i hi;unfold zac at hi;rw [za] at hi;by_cases hki : k = i
      · rw [if_pos hki] at hi; exact hi.elim
      · rw [if_neg hki] at hi; exact hi
    have hborn : ∀ i, m i ≠ .unborn → mApp [(k, .fz t s es)] m i ≠ .unborn := by
      intro i hi; rw [za]; split
      · simp
      · exact hi
    refine { mem := ⟨fun i => ?_, fun i j hi hj => hs.mem.inj i j (hal i hi) (hal j hj), fun i hi => hs.mem.hot i (hal i hi), hs.mem.lt, fun i b hi hx => by
             obtain ⟨x1, x2, x3, x4⟩ := hs.mem.own i b (hal i hi) hx
             exact ⟨x1, x2, fun j hj => x3 j (hal j hj), fun j hj => x4 j (hal j hj)⟩⟩, env := hs.env, bornE := fun t i hi => hborn i (hs.bornE t i hi), bornM := fun i j hj => ?_,
             os := hs.os, tape := hs.tape, output := hs.output, size := hs.size, keep := hs.keep, safe := fun i hi => hs.safe i (hal i hi), safeX := fun i b hi => hs.safeX i b (hal i hi), given := hs.given, frz := hs.frz, defers := hs.defers, tmps := hs.tmps, pin := hs.pin }
    · rw [za]; split
      · rename_i h; subst h; exact .inl ⟨hn, hes⟩
      · exact hs.mem.blk i
    · rw [za] at hj
      by_cases hki : k = i
      · rw [if_pos hki] at hj; simp [Blk.ids] at hj
      · rw [if_neg hki] at hj; exact hborn j (hs.bornM i j hj)
  · have hn' : g.N k = false := by simpa using hn
    have hrow : RowAt g.F w (g.β k) t s (g.C k) es := by
      rcases hb with h | h
      · exact absurd h.1 hn
      · exact h.2
    have halk : zac g m k := by simp [zac, hk, hn']
    let g' : Gh := { g with F := fun b => g.F b ∨ b = g.β k }
    have hFF : ∀ b, g.F b → g'.F b := fun b hb => .inl hb
    have hal : ∀ i, zac g' (mApp [(k, .fz t s es)] m) i → zac g m i ∧ i ≠ k := by
      intro i hi;unfold zac at hi;rw [za] at hi;by_cases hki : k = i
      · rw [if_pos hki] at hi; exact hi.elim
      · rw [if_neg hki] at hi; exact ⟨hi, fun e => hki e.symm⟩
    have hborn : ∀ i, m i ≠ .unborn → mApp [(k, .fz t s es)] m i ≠ .unborn := by
      intro i hi; rw [za]; split
      · simp
      · exact hi
    refine ⟨g', ?_, hFF, rfl, rfl, rfl, rfl⟩
    refine { mem := ⟨fun i => ?_, fun i j hi hj => hs.mem.inj i j (hal i hi).1 (hal j hj).1, fun i hi => ?_, fun b hb => ?_, fun i b hi hx => ?_⟩, env := fun x => ?_, bornE := fun t i hi => hborn i (hs.bornE t i hi), bornM := fun i j hj => ?_,
             os := hs.os, tape := hs.tape, output := hs.output, size := hs.size, keep := hs.keep, safe := fun i hi => hs.safe i (hal i hi).1, safeX := fun i b hi => hs.safeX i b (hal i hi).1, given := fun b hb => .inl (hs.given b hb), frz := fun b hb => ?_, defers := hs.defers, tmps := hs.tmps, pin := hs.pin }
    · rw [za]; split
      · rename_i h; subst h
        exact .inr ⟨hn', .inr rfl, hrow.mono hFF (fun _ _ => rfl) rfl⟩
      · exact (hs.mem.blk i).mono hFF (fun _ _ => rfl) ⟨rfl, rfl, rfl, List.prefix_rfl⟩ rfl (fun _ _ => ⟨rfl, rfl, rfl, List.prefix_rfl⟩) fun b hx => ⟨hx, rfl⟩
    · obtain ⟨h1, h2⟩ := hal i hi
      rintro (h | h)
      · exact hs.mem.hot i h1 h
      · exact h2 (hs.mem.inj i k h1 halk h)
    · rcases hb with hb | hb
      · exact hs.mem.lt b hb
      · rw [hb]; exact zaT hs.mem halk
    · obtain ⟨x1, x2, x3, x4⟩ := hs.mem.own i b (hal i hi).1 hx
      refine ⟨x1, ?_, fun j hj => x3 j (hal j hj).1, fun j hj => x4 j (hal j hj).1⟩;rintro (h | h)
      · exact x2 h
      · exact x3 k halk h.symm
    · rcases hs.env x with h | ⟨v, h1, h2⟩
      · exact .inl h
      · exact .inr ⟨v, h1, h2.mono hFF (fun _ _ => rfl) fun _ _ => ⟨rfl, rfl, rfl, List.prefix_rfl⟩⟩
    · rw [za] at hj
      by_cases hki : k = i
      · rw [if_pos hki] at hj; simp [Blk.ids] at hj
      · rw [if_neg hki] at hj; exact hborn j (hs.bornM i j hj)
    · rcases hb with hb | hb
      · exact hs.frz b hb
      · rw [hb]; exact (hs.safe k halk).2
variable {o:Oper} {K:Dl->List Loc->Prop} {Q:Exit->Act->World->Prop} {l:List Loc}
theorem zaj {b:Bool}{k:Pg}(h:when_ b k e m l K):b=true/\k e m l K:=by
 cases b with
 | false=>exact h.elim
 | true=>exact⟨rfl,h⟩
theorem zbg {k k':IntKind}(h:Nat.beq (kidx k) (kidx k')=true):k=k':=by cases k <;> cases k' <;> first|rfl|simp[kidx] at h
theorem zal {x:SV}:one x e m l K=K ⟨x,[]⟩ l:=by simp only[one,force_eq]
theorem zaQ {v:Value}{d:D}(h:Rd g.F w v d):DenO g w v (SV.ofD d):=by
 unfold SV.ofD
 split
 .cases h;exact .inr .kb
 .cases h with
  | pt f h1 h2 h3 h4=>exact .inr (.ep f h1 (λ j d hd=>⟨h2 j d hd,h3 j d hd⟩) h4)
 .exact .inr (.dat h)
theorem zaX (d:D):(SV.ofD d).ids=[]:=by unfold SV.ofD;split <;> rfl
theorem zhR {x:Operand}(hs:SR fr nt g e m a w)(ho:∀ d,o.dst=some d->d<nt)(hop:o.op = .move x∨o.op = .assign x)(h:Pg.opd x mvPg e m l K):Good P fr nt e m a w o K Q:=by
 obtain⟨y,l',hy,hb,h1⟩:=zaa hs h
 have hrun:(execOp a.eval o).run P w = .ok (.value (a.eval x)) w:=by rcases hop with hop|hop <;> simp[execOp,hop]
 have fin:∀ y',DenO g w (a.eval x) y'->(∀ k,k∈y'.ids->m k ≠ .unborn)->K ⟨y',[]⟩ l'->Good P fr nt e m a w o K Q:=λ y' hy hb h1=>zah hs ho (v:=a.eval x) hrun hy hb h1;unfold mvPg at h1
 split at h1
 .rename_i k t
  rcases h1 with h1|⟨j,rfl,h1⟩|⟨rfl,h1⟩
  .rw [zal] at h1;exact fin _ hy hb h1
  .rw [zal] at h1
   refine fin _ ?_ (by simpa [SV.ids] using hb) h1
   rcases hy with hy|hy
   .cases hy
   .generalize a.eval x=v at hy;cases hy with|pnS h=>exact .inr (.po h)
  .rw [zal] at h1
   refine fin _ ?_ (by simp[nilP,SV.ids]) h1
   rcases hy with hy|hy
   .cases hy
   .generalize a.eval x=v at hy;cases hy with|pnN=>exact .inr (.dat (.v trivial))
 .rw [zal] at h1;exact fin _ hy hb h1
theorem Den.bool {v:Value}{b:Bool}(h:DenO g w v (.kb b)):v = .bool b:=by
 rcases h with h|h
 .cases h
 .cases h;rfl
theorem Den.int {v:Value}{k:IntKind}{n:Int}(h:DenO g w v (.dat (.v (.int k n)))):v = .int k n/\k.min<=n/\n<=k.max:=by
 rcases h with h|h
 .cases h
 .cases h with
  | dat h=>cases h with|v h=>exact⟨rfl,h⟩
theorem Den.dat' {v:Value}{d:D}(h:DenO g w v (.dat d)):Rd g.F w v d:=by
 rcases h with h|h
 .cases h
 .cases h with|dat h=>exact h
theorem zl9 {c' x y:Operand}(hs:SR fr nt g e m a w)(ho:∀ d,o.dst=some d->d<nt)(hop:o.op = .pick c' x y)
  (h:Pg.opd c' (fun | .kb b=>Pg.both b (Pg.opd x one) (Pg.opd y one)|_=>Pg.fail) e m l K):Good P fr nt e m a w o K Q:=by
 obtain⟨b,l',hb,_,h1⟩:=zaa hs h
 split at h1
 .rename_i bb _
  have hv:=Den.bool hb
  cases bb with
  | true =>
   obtain⟨z,l2,hz,hzb,h2⟩:=zaa hs (h1.1 rfl);rw[zal] at h2;refine zah hs ho (v:=a.eval x) ?_ hz hzb h2;simp[execOp,hop,hv,asBool]
  | false =>
   obtain⟨z,l2,hz,hzb,h2⟩:=zaa hs (h1.2 rfl);rw[zal] at h2;refine zah hs ho (v:=a.eval y) ?_ hz hzb h2;simp[execOp,hop,hv,asBool]
 .exact h1.elim
theorem zbW (k:IntKind)(n:Int):k.min<=k.wrap n/\k.wrap n<=k.max:=by
 cases k <;> simp[IntKind.wrap,IntKind.min,IntKind.max,IntKind.signed,IntKind.bits] <;> omega
theorem zi3 {k:IntKind}{n:Int}(h:k.min<=n/\n<=k.max):k.wrap n=n:=by
 cases k <;> simp[IntKind.wrap,IntKind.min,IntKind.max,IntKind.signed,IntKind.bits] at h ⊢ <;> omega
theorem za2 {k:IntKind}{n:Int}(h:k.min<=n/\n<=k.max):DenO g w (.int k n) (.dat (.v (.int k n))) := .inr (.dat (.v h))
theorem zpo (k:IntKind){x y:Int}(hx:k.min<=x/\x<=k.max):k.min<=x.tmod y/\x.tmod y<=k.max:=by
 have h1 : -(x.natAbs:Int)<=x.tmod y/\x.tmod y<=x.natAbs:=by
  have:=Int.natAbs_tmod x y;have h2:=Nat.mod_le x.natAbs y.natAbs;omega
 rcases Int.le_total 0 x with hx0|hx0
 .have h3:=Int.tmod_nonneg y hx0
  have:k.min<=0:=by cases k <;> simp[IntKind.min,IntKind.signed,IntKind.bits]
  omega
 .have h3:x.tmod y<=0:=by
   have:=Int.tmod_nonneg y (show 0 <= -x by omega);rw[Int.neg_tmod] at this;omega
  have:0<=k.max:=by cases k <;> simp[IntKind.max,IntKind.signed,IntKind.bits]
  omega
theorem zkP {bo:BinOp}{t t':TypeId}{x y:Operand}{k:IntKind}{n n':Int}(hs:SR fr nt g e m a w)(ho:∀ d,o.dst=some d->d<nt)(hop:o.op = .binOp bo t x y t')
  (hx:a.eval x = .int k n) (hy:a.eval y = .int k n') (hxr:k.min<=n/\n<=k.max) (h:zlQ bo k n n' e m l K):Good P fr nt e m a w o K Q:=by
 have hg:eqGuard bo t x y (.int k n) (.int k n')=pure ():=by cases bo <;> simp[eqGuard]
 have hrun:∀ v:Value,(binOp bo t (.int k n) (.int k n')).run P w = .ok v w->(execOp a.eval o).run P w = .ok (.value v) w:=by
  intro v hv;simp[execOp,hop,hx,hy,hg,hv]
 have bb:∀ (b:Bool) (hb:(binOp bo t (.int k n) (.int k n')).run P w = .ok (.bool b) w) (hK:K ⟨.kb b,[]⟩ l),Good P fr nt e m a w o K Q:=λ b hb hK =>
  zah hs ho (hrun _ hb) (.inr .kb) (by simp[SV.ids]) hK
 have ii:∀ (i:Int) (hi:k.min<=i/\i<=k.max) (hb:(binOp bo t (.int k n) (.int k n')).run P w = .ok (.int k i) w) (hK:K ⟨.dat (.v (.int k i)),[]⟩ l),Good P fr nt e m a w o K Q:=λ i hi hb hK =>
  zah hs ho (hrun _ hb) (za2 hi) (by simp[SV.ids]) hK
 cases bo <;> simp only[zlQ,int?,bool?,cond,Pg.ex,zal,Pg.fail] at h
 case add=>obtain⟨c,rfl,hK⟩:=h;exact ii _ (zbW _ _) (by simp[binOp,Op.intArith]) hK
 case sub=>obtain⟨c,rfl,hK⟩:=h;exact ii _ (zbW _ _) (by simp[binOp,Op.intArith]) hK
 case mul=>obtain⟨c,rfl,hK⟩:=h;exact ii _ (zbW _ _) (by simp[binOp,Op.intArith]) hK
 case quo=>obtain⟨h0,c,rfl,hK⟩:=h;exact ii _ (zbW _ _) (by simp[binOp,Op.intDiv,h0]) hK
 case rem=>obtain⟨h0,c,rfl,hK⟩:=h;exact ii _ (zpo _ hxr) (by simp[binOp,Op.intDiv,h0]) hK
 case eql=>exact bb _ (by simp[binOp,Op.intCmp];rfl) h
 case neq=>exact bb _ (by simp[binOp,Op.intCmp];rfl) h
 case lss=>exact bb _ (by simp[binOp,Op.intCmp]) h
 case leq=>exact bb _ (by simp[binOp,Op.intCmp]) h
 case gtr=>exact bb _ (by simp[binOp,Op.intCmp]) h
 case geq=>exact bb _ (by simp[binOp,Op.intCmp]) h
 case and=>obtain⟨c,rfl,hK⟩:=h;exact ii _ (zbW _ _) (by simp[binOp,Op.intBits,zlP]) hK
 case or=>obtain⟨c,rfl,hK⟩:=h;exact ii _ (zbW _ _) (by simp[binOp,Op.intBits,zlP]) hK
 case xor=>obtain⟨c,rfl,hK⟩:=h;exact ii _ (zbW _ _) (by simp[binOp,Op.intBits,zlP]) hK
 case andNot=>obtain⟨c,rfl,hK⟩:=h;exact ii _ (zbW _ _) (by simp[binOp,Op.intBits,zlP]) hK
theorem zpp (k:IntKind){x:Int}{n:Nat}(hx:k.min<=x/\x<=k.max):k.min<=x.fdiv (2 ^ n)/\x.fdiv (2 ^ n)<=k.max:=by
 have hp:(0:Int)<2 ^ n:=Int.pow_pos (by omega);rw[Int.fdiv_eq_ediv_of_nonneg _ (by omega)]
 have h0:k.min<=0:=by cases k <;> simp[IntKind.min,IntKind.signed,IntKind.bits]
 have h1:0<=k.max:=by cases k <;> simp[IntKind.max,IntKind.signed,IntKind.bits]
 have h2:(1:Int)<=2 ^ n:=by omega
 constructor
 .rcases Int.le_total 0 x with hx0|hx0
  .have:=Int.ediv_nonneg hx0 (Int.le_of_lt hp);omega
  .have:x<=x / 2 ^ n:=by
    rw[Int.le_ediv_iff_mul_le hp];have:=Int.mul_le_mul_of_nonpos_left hx0 h2;omega
   omega
 .rcases Int.le_total 0 x with hx0|hx0
  .have:=Int.ediv_le_self (2 ^ n) hx0;omega
  .have:x / 2 ^ n<=0:=by
    have:=Int.ediv_le_ediv hp hx0;simpa using this
   omega
theorem zkQ {bo:BinOp}{t t':TypeId}{x y:Operand}{k k':IntKind}{n n':Int}(hs:SR fr nt g e m a w)(ho:∀ d,o.dst=some d->d<nt)(hop:o.op = .binOp bo t x y t')
  (hx:a.eval x = .int k n) (hy:a.eval y = .int k' n') (hxr:k.min<=n/\n<=k.max) (h:zgx bo k n n' e m l K):Good P fr nt e m a w o K Q:=by
 have hrun:∀ v:Value,bo = .shl∨bo = .shr->(binOp bo t (.int k n) (.int k' n')).run P w = .ok v w->(execOp a.eval o).run P w = .ok (.value v) w:=by
  intro v hb hv
  have hg:eqGuard bo t x y (.int k n) (.int k' n')=pure ():=by rcases hb with rfl|rfl <;> simp[eqGuard]
  simp[execOp,hop,hx,hy,hg,hv]
 cases bo <;> simp only[zgx,int?,cond,Pg.ex,zal,Pg.fail] at h
 case shl=>obtain⟨h0,c,rfl,hK⟩:=h;exact zah hs ho (hrun _ (.inl rfl) (by simp[binOp,Op.shift,show ¬ n'<0 by omega])) (za2 (zbW _ _)) (by simp[SV.ids]) hK
 case shr=>obtain⟨h0,c,rfl,hK⟩:=h;exact zah hs ho (hrun _ (.inr rfl) (by simp[binOp,Op.shift,show ¬ n'<0 by omega])) (za2 (zpp _ hxr)) (by simp[SV.ids]) hK
theorem znM {t:TypeId}{x:Operand}(hs:SR fr nt g e m a w)(ho:∀ d,o.dst=some d->d<nt)(hop:o.op = .unOp .not t x)
  (h:Pg.opd x (fun | .kb b=>one (.kb (!b))|_=>Pg.fail) e m l K):Good P fr nt e m a w o K Q:=by
 obtain⟨b,l',hb,_,h1⟩:=zaa hs h
 split at h1
 .have hv:=Den.bool hb
  rw[zal] at h1;exact zah hs ho (by simp[execOp,hop,hv,Op.unary]) (.inr .kb) (by simp[SV.ids]) h1
 .exact h1.elim
theorem znN {t:TypeId}{x:Operand}(hs:SR fr nt g e m a w)(ho:∀ d,o.dst=some d->d<nt)(hop:o.op = .unOp .neg t x)
  (h:Pg.opd x (fun | .dat (.v (.int k a))=>int? (k.wrap (0-a)) λ c=>one (.dat (.v (.int k c)))|_=>Pg.fail) e m l K):Good P fr nt e m a w o K Q:=by
 obtain⟨b,l',hb,_,h1⟩:=zaa hs h
 split at h1
 .obtain ⟨hv,_⟩:=Den.int hb
  simp only[int?,Pg.ex,zal] at h1;obtain⟨c,rfl,hK⟩:=h1;exact zah hs ho (by simp[execOp,hop,hv,Op.unary,Op.intArith]) (za2 (zbW _ _)) (by simp[SV.ids]) hK
 .exact h1.elim
theorem zhS {x:Operand}{i:Nat}(hs:SR fr nt g e m a w)(ho:∀ d,o.dst=some d->d<nt)(hop:o.op = .extract x i)
  (h:Pg.opd x (fun
  | .dat (.tup l)=>match l[i]? with
   | some d=>one (SV.ofD d)
   | none=>Pg.fail
  | .tup l=>match l[i]? with
   | some s=>one s
   | none=>Pg.fail
  | _=>Pg.fail) e m l K):Good P fr nt e m a w o K Q:=by
 obtain⟨b,l',hb,hbb,h1⟩:=zaa hs h
 split at h1
 .rename_i ds
  have hr:=Den.dat' hb
  cases hd:ds[i]? with
  | some d =>
   simp only[hd,zal] at h1;generalize hv:a.eval x=v at hr
   cases hr with
   | @tup vs _ hl hc =>
    have hi:i<vs.length:=by rw[hl];exact(zrf.1 hd).1
    exact zah hs ho (v:=vs[i]) (by simp[execOp,hop,hv,Instr.extract,hi]) (zaQ (hc i _ _ (zrg hi) hd)) (by rw[zaX];simp) h1
  | none=>simp only[hd] at h1;exact h1.elim
 .rename_i ds
  cases hd:ds[i]? with
  | none=>simp only[hd] at h1;exact h1.elim
  | some d =>
   simp only[hd,zal] at h1
   rcases hb with hb|hb
   .cases hb
   .generalize hv:a.eval x=v at hb
    cases hb with
    | @tup vs _ hl hc =>
     have hi:i<vs.length:=by rw[hl];exact(zrf.1 hd).1
     exact zah hs ho (v:=vs[i]) (by simp[execOp,hop,hv,Instr.extract,hi]) (.inr (hc i _ _ (zrg hi) hd))
      (λ k hk=>hbb k (by simp only[SV.ids,zau];exact⟨d,zri hd,hk⟩)) h1
 .exact h1.elim
end
end Go.Vc
namespace Go.Vc
open Go.RowKit
section
variable {P:Program} {fr:Fr} {nt:Nat} {g:Gh} {e:Nat->SV} {m:Nat->Blk} {a:Act} {w:World} {T:Tree (Option TI)} {c:Ctx}
variable {o:Oper} {K:Dl->List Loc->Prop} {Q:Exit->Act->World->Prop} {l:List Loc}
def CellsDen (g:Gh)(w:World)(vs:List Value)(cs:List SV):Prop :=
 vs.length=cs.length/\∀ (i:Nat) u y,vs[i]? = some u->cs[i]? = some y->u.oneCell'=true/\Den g w u y
theorem CellsDen.mono {g':Gh}{w':World}{vs:List Value}{cs:List SV}(h:CellsDen g w vs cs)(hF:∀ b,g.F b->g'.F b)(hw:∀ b,g.F b->w'.heap[b]? = w.heap[b]?)
  (hi:∀ y,y∈cs->∀ k,k∈y.ids->g'.β k=g.β k/\g'.C k=g.C k/\g'.N k=g.N k/\g.M k <+: g'.M k):CellsDen g' w' vs cs :=
 ⟨h.1,λ i u y hu hy=>⟨(h.2 i u y hu hy).1,(h.2 i u y hu hy).2.mono hF hw (hi y (zri hy))⟩⟩
theorem zaR {v:Value}{x:SV}{cs:List SV}(h:Den g w v x)(hc:x.cells=some cs)(h1:cs.all SV.one=true) :
  CellsDen g w v.cells.toList cs/\∀ y,y∈cs->∀ k,k∈y.ids->k∈x.ids:=by
 have single:∀ {x:SV},Den g w v x->x.cells=some [x]->cs=[x]->CellsDen g w v.cells.toList cs/\∀ y,y∈cs->∀ k,k∈y.ids->k∈x.ids:=by
  intro x h _ e;subst e;have ho:v.oneCell'=true:=h.one (by simpa using h1)
  have hv:v.cells = #[v]:=by cases v <;> first|rfl|simp[Value.oneCell'] at ho
  refine⟨⟨by simp[hv],λ i u y hu hy=>?_⟩,by simp⟩;rw[hv] at hu
  cases i with
  | zero=>simp at hu hy;subst hu hy;exact⟨ho,h⟩
  | succ i=>simp at hu
 cases h with
 | dat h =>
  cases h with
  | @agg vs ds hl hone hd =>
   simp[SV.cells] at hc;subst hc;refine⟨⟨by simp[Value.cells,hl],λ i u y hu hy=>?_⟩,λ y hy k hk=>?_⟩
   .simp [Value.cells] at hu
    rw[List.getElem?_map] at hy
    cases hdi:ds[i]? with
    | none=>simp[hdi] at hy
    | some d =>
     simp[hdi] at hy;subst hy;refine⟨hone i u d hu hdi, ?_⟩
     rcases zaQ (hd i u d hu hdi) with h|h
     .have:(SV.ofD d).one=true:=List.all_eq_true.1 h1 _ (List.mem_map.2 ⟨d,zri hdi,rfl⟩)
      rw[h] at this;simp[SV.one] at this
     .exact h
   .obtain ⟨d,_,rfl⟩:=List.mem_map.1 hy
    rw[zaX] at hk;cases hk
  | tup=>simp[SV.cells] at hc
  | v h=>simp[SV.cells] at hc;exact single (.dat (.v h)) rfl hc.symm
  | nil h=>simp[SV.cells] at hc;exact single (.dat (.nil h)) rfl hc.symm
  | sl f h1 h2 h3 h4 h5 h6 h7 h8=>simp[SV.cells] at hc;exact single (.dat (.sl f h1 h2 h3 h4 h5 h6 h7 h8)) rfl hc.symm
  | ifc h=>simp[SV.cells] at hc;exact single (.dat (.ifc h)) rfl hc.symm
  | pt f h1 h2 h3 h4=>simp[SV.cells] at hc;exact single (.dat (.pt f h1 h2 h3 h4)) rfl hc.symm
  | mp h1 h2 h3 h4 h5 h6=>simp[SV.cells] at hc;exact single (.dat (.mp h1 h2 h3 h4 h5 h6)) rfl hc.symm
 | kb=>simp[SV.cells] at hc;exact single .kb rfl hc.symm
 | no=>simp[SV.cells] at hc
 | ptr=>simp[SV.cells] at hc;exact single .ptr rfl hc.symm
 | ep f h1 h2 h3=>simp[SV.cells] at hc;exact single (.ep f h1 h2 h3) rfl hc.symm
 | rp h=>simp[SV.cells] at hc;exact single (.rp h) rfl hc.symm
 | rs h1 h2 h3=>simp[SV.cells] at hc;exact single (.rs h1 h2 h3) rfl hc.symm
 | csl h=>simp[SV.cells] at hc;exact single (.csl h) rfl hc.symm
 | nil=>simp[SV.cells] at hc;exact single .nil rfl hc.symm
 | ln h=>simp[SV.cells] at hc;exact single (.ln h) rfl hc.symm
 | pnN=>simp[SV.cells] at hc;exact single .pnN rfl hc.symm
 | pnS h=>simp[SV.cells] at hc;exact single (.pnS h) rfl hc.symm
 | @agg vs l hl hone hd =>
  simp[SV.cells] at hc;subst hc
  exact⟨⟨by simp[Value.cells,hl],λ i u y hu hy=>⟨hone i u y (by simpa [Value.cells] using hu) hy,hd i u y (by simpa [Value.cells] using hu) hy⟩⟩,
   λ y hy k hk=>by simp only[SV.ids,zau];exact⟨y,hy,hk⟩⟩
 | tup=>simp[SV.cells] at hc
 | fn h1 h2 h3 h4=>simp[SV.cells] at hc;exact single (.fn h1 h2 h3 h4) rfl hc.symm
 | ifc h=>simp[SV.cells] at hc;exact single (.ifc h) rfl hc.symm
 | mp=>simp[SV.cells] at hc;exact single .mp rfl hc.symm
 | po h=>simp[SV.cells] at hc;exact single (.po h) rfl hc.symm
 | fm=>simp[SV.cells] at hc;exact single .fm rfl hc.symm
 | as h1 h2=>simp[SV.cells] at hc;exact single (.as h1 h2) rfl hc.symm
 | slfN=>simp[SV.cells] at hc;subst hc;simp[SV.one] at h1
 | slfP=>simp[SV.cells] at hc;subst hc;simp[SV.one] at h1
theorem zgM {cs:List SV}{x:SV}(hb:∀ k,k∈x.ids->m k ≠ .unborn)(hi:∀ y,y∈cs->∀ k,k∈y.ids->k∈x.ids):∀ k,k∈SV.idsL cs->m k ≠ .unborn:=by
 intro k hk;obtain⟨y,hy,hk⟩:=zau.1 hk;exact hb k (hi y hy k hk)
theorem zeL {id:Nat}{vs:List Value}{t:TypeId}{bl:Blk}(hs:SR fr nt g e m a w)(ho:∀ d,o.dst=some d->d<nt)(hid:fr.p<=id/\m id = .unborn)
  (hrun:(execOp a.eval o).run P w = .ok (.value (.pointer (some ⟨w.heap.size,0,none⟩))) (w.alloc (.cells vs.toArray t)))
  (hbl:bl ≠ .unborn) (hids:∀ i,i∈bl.ids->m i ≠ .unborn) (hrel:BlkRel (g.set id w.heap.size 0 false) (w.alloc (.cells vs.toArray t)) id bl)
  (hK:K ⟨.ptr id 0,[(id,bl)]⟩ l):Good P fr nt e m a w o K Q:=by
 unfold Good Oper.wp;rw[hrun];refine⟨_,_,hK,g.set id w.heap.size 0 false, ?_⟩
 have h1:=(hs.ext (Ext.alloc w (.cells vs.toArray t))).born (id:=id) (b:=w.heap.size) (cap:=0) (nl:=false) (bl:=bl) hid.1 hid.2 hbl hrel hids
  (λ _=>⟨λ k hk h=>by have:=zaT hs.mem hk;omega,λ h=>by have:=hs.mem.lt _ h;omega,λ h=>by have:=(hs.keep _ h).1;have:=hs.size;omega, .inr hs.size⟩) (λ _ k hk hx=>by have:=(hs.mem.own k _ hk hx).1;omega)
 have hp:(g.set id w.heap.size 0 false).β id=w.heap.size:=by simp[Gh.set]
 refine h1.put ho (.inr ?_) ?_
 .have:=Den.ptr (g:=g.set id w.heap.size 0 false) (w:=w.alloc (.cells vs.toArray t)) (k:=id) (o:=0)
  rw[hp] at this;exact this
 .intro k hk
  simp[SV.ids] at hk;subst hk;rw[za,if_pos rfl];exact hbl
theorem za7 (w:World)(o:Obj):(w.alloc o).heap[w.heap.size]? = some o:=by
 show (w.heap.push o)[w.heap.size]? = _;simp
theorem ze4 {cs:List SV}{t:TypeId}(h:cs.all SV.one=true):zpl cs t:=by
 intro k t' h0;have:=List.all_eq_true.1 h _ (zri h0)
 cases this
theorem zi4 {id:Nat}{vs:List Value}{cs:List SV}{t:TypeId}(hs:SR fr nt g e m a w)(hid:fr.p<=id/\m id = .unborn)(hc:CellsDen g w vs cs)(hids:∀ k,k∈SV.idsL cs->m k ≠ .unborn)(hst:zpl cs t) :
  BlkRel (g.set id w.heap.size 0 false) (w.alloc (.cells vs.toArray t)) id (.box cs):=by
 have hc':CellsDen (g.set id w.heap.size 0 false) (w.alloc (.cells vs.toArray t)) vs cs:=hc.mono (λ _ h=>h) (λ b hb=>(Ext.alloc w _).old b (hs.mem.lt b hb)) λ y hy k hk=>by
  have:k≠id:=λ e=>hids k (zau.2 ⟨y,hy,hk⟩) (e ▸ hid.2);simp[Gh.set,this]
 refine⟨vs,t, ?_,hc'.1,hc'.2,hst⟩
 have:(g.set id w.heap.size 0 false).β id=w.heap.size:=by simp[Gh.set]
 rw[this];exact za7 w _
theorem zeM {v:SV}{k:Nat}{cs:List SV}:boxed v k cs e m l K=K ⟨v,[(k, .box cs)]⟩ l:=by simp only[boxed,zeS]
theorem zgN {t:TypeId}{ti:TI}(h:TIok P t ti):∃ z,(zeroValue t).run P w = .ok z w/\z.cells.toList=ti.zero:=by
 obtain⟨i,z,hi,h1,h2,hz,hc,hl⟩:=h.info;exact⟨z,by simp[zeroValue,typeInfo,hi,hz],hc⟩
theorem ze5 {t:TypeId}{ti:TI}(h:TIok P t ti):(sizeOf t).run P w = .ok ti.size w:=by
 obtain⟨i,z,hi,h1,h2,hz,hc,hl⟩:=h.info;simp[sizeOf,typeInfo,hi,h1]
theorem zhT {t:TypeId}{ti:TI}(h:TIok P t ti):(isAgg t).run P w = .ok ti.agg w:=by
 obtain⟨d,hd,ha,_⟩:=h.desc;rw[ha];simp[isAgg,run_underlying hd]
 cases d <;> rfl
theorem zda {z:List Value}(h:(z.map SV.ofV1).all SV.one=true):CellsDen g w z (z.map SV.ofV1):=by
 refine⟨by simp,λ i u y hu hy=>?_⟩;rw[List.getElem?_map,hu] at hy;simp at hy;subst hy;have h1:(SV.ofV1 u).one=true:=List.all_eq_true.1 h _ (List.mem_map.2 ⟨u,zri hu,rfl⟩)
 rcases zcx (g:=g) (w:=w) u with h|h
 .rw [h] at h1;simp[SV.one] at h1
 .exact ⟨h.one h1,h⟩
theorem zaL {v:Value}{x:SV}{d:D}{s:Nat}(h:Den g w v x)(hx:x.toD1 s=some d):Rd g.F w v d:=by
 cases h with
 | dat h=>simp[SV.toD1] at hx;subst hx;exact h
 | kb=>simp[SV.toD1] at hx;subst hx;exact .v trivial
 | nil=>simp[SV.toD1] at hx;subst hx;exact .nil (by simp[maxLen])
 | csl h =>
  simp[SV.toD1] at hx;subst hx;exact h
 | ep f h1 h2 h3 =>
  simp[SV.toD1] at hx;subst hx;exact .pt f h1 (λ j d hd=>(h2 j d hd).1) (λ j d hd=>(h2 j d hd).2) h3
 | _=>simp[SV.toD1] at hx
theorem zaV {z:List Nat}{cs:List SV}{ds:List D}(h:zaM z cs=some ds):ds.length=cs.length:=by
 induction cs generalizing z ds with
 | nil=>simp[zaM] at h;subst h;rfl
 | cons x r ih =>
  simp only[zaM] at h
  split at h
  .rename_i d r' h1 h2
   simp at h;subst h;simp[ih h2]
  .cases h
theorem zb2 {z:List Nat}{cs:List SV}{ds:List D}(h:zaM z cs=some ds){i:Nat}{x:SV}{d:D}(hx:cs[i]? = some x)(hd:ds[i]? = some d):∃ s,x.toD1 s=some d:=by
 induction cs generalizing z ds i with
 | nil=>simp at hx
 | cons y r ih =>
  simp only[zaM] at h
  split at h
  .rename_i d' r' h1 h2
   simp at h;subst h
   cases i with
   | zero=>simp at hx hd;subst hx hd;exact⟨_,h1⟩
   | succ i=>exact ih h2 (by simpa using hx) (by simpa using hd)
  .cases h
theorem zbe {z:List Nat}{vs:List Value}{cs:List SV}{ds:List D}(hc:∀ (i:Nat) u y,vs[i]? = some u->cs[i]? = some y->DenO g w u y)(hl:vs.length=cs.length)(h:zaM z cs=some ds) :
  ∀ (i:Nat) u d,vs[i]? = some u->ds[i]? = some d->Rd g.F w u d:=by
 intro i u d hu hd
 have hi:i<cs.length:=by rw[<- hl];exact(zrf.1 hu).1
 obtain⟨s,hs⟩:=zb2 h (zrg hi) hd
 rcases hc i u _ hu (zrg hi) with h'|h'
 .rw [h'] at hs;simp[SV.toD1] at hs
 .exact zaL h' hs
theorem ze6 {z:List Nat}{vs:List Value}{cs:List SV}(hc:CellsDen g w vs cs):Den g w (.agg vs.toArray) (SV.mkAgg z cs):=by
 unfold SV.mkAgg
 split
 .rename_i ds hds0
  have hds:zaM z cs=some ds:=by
   cases hp:cs.all SV.plainC <;> rw[hp] at hds0
   .cases hds0
   .exact hds0
  refine .dat (.agg (by rw[zaV hds,hc.1]) (λ i u d hu hd=>?_) (zbe (λ i u y hu hy=>.inr (hc.2 i u y hu hy).2) hc.1 hds))
  have hi:i<cs.length:=by rw[<- hc.1];exact(zrf.1 hu).1
  exact(hc.2 i u _ hu (zrg hi)).1
 .exact .agg hc.1 (λ i u y hu hy=>(hc.2 i u y hu hy).1) λ i u y hu hy=>(hc.2 i u y hu hy).2
theorem zhU {z:List Nat}{cs:List SV}{k:Nat}(h:k∈(SV.mkAgg z cs).ids):k∈SV.idsL cs:=by
 unfold SV.mkAgg at h
 split at h
 .simp [SV.ids] at h
 .simpa [SV.ids] using h
theorem znO {t:TypeId}{x:Operand}{id:Nat}(hs:SR fr nt g e m a w)(ho:∀ d,o.dst=some d->d<nt)(hid:fr.p<=id/\m id = .unborn)(hop:o.op = .box t x)
  (h:Pg.opd x (λ sv=>bif zlZ c t then (match sv with
  | .dat (.agg ds)=>Pg.ret ⟨.ptr id 0,[(id, .arr ds)]⟩
  | _=>Pg.fail) else match sv.cells with
  | some cs=>bif cs.all SV.one then boxed (.ptr id 0) id cs else Pg.fail
  | none=>Pg.fail) e m l K):Good P fr nt e m a w o K Q:=by
 obtain⟨y,l',hy,hb,h1⟩:=zaa hs h
 cases hbig:zlZ c t with
 | true =>
  simp only[hbig,cond_true] at h1
  split at h1
  .rename_i ds
   obtain hr:=Den.dat' hy;generalize hv:a.eval x=v at hr
   cases hr with
   | @agg vs _ hl h1' h2' =>
    refine zeL (bl := .arr ds) hs ho hid (by simp[execOp,hop,Instr.box,newVar,newRow];rfl) (by simp) (by simp[Blk.ids]) ⟨vs,t, ?_,hl, ?_⟩ h1
    .have:(g.set id w.heap.size 0 false).β id=w.heap.size:=by simp[Gh.set]
     rw[this];simp only[hv];exact za7 w _
    .intro i u d hu hd
     exact⟨h1' i u d hu hd,(h2' i u d hu hd).mono (λ _ h=>h) λ b hb=>(Ext.alloc w _).old b (hs.mem.lt b hb)⟩
  .exact h1.elim
 | false =>
 simp only[hbig,cond_false] at h1
 cases hc:y.cells with
 | none=>simp only[hc] at h1;exact h1.elim
 | some cs =>
  simp only[hc] at h1
  cases hall:cs.all SV.one with
  | false=>simp only[hall,cond_false] at h1;exact h1.elim
  | true =>
   simp only[hall,cond_true,zeM] at h1
   rcases hy with hy|hy
   .subst hy;simp[SV.cells] at hc
   .obtain ⟨hcd,hi⟩:=zaR hy hc hall
    exact zeL (bl := .box cs) hs ho hid (by simp[execOp,hop,Instr.box,newVar,newRow];rfl) (by simp) (zgM hb hi) (zi4 hs hid hcd (zgM hb hi) (ze4 hall)) h1
theorem znP {id:Nat}{r:List Value}{t:TypeId}(hs:SR fr nt g e m a w)(ho:∀ d,o.dst=some d->d<nt)(hid:fr.p<=id/\m id = .unborn)
  (hrun:(execOp a.eval o).run P w = .ok (.value (.pointer (some ⟨w.heap.size,0,none⟩))) (w.alloc (.cells (Value.pointer none::r).toArray t)))
  (hall:(r.map SV.ofV1).all SV.one=true) (hK:K ⟨.ptr id 0,[(id, .box (.slf id t::r.map SV.ofV1))]⟩ l):Good P fr nt e m a w o K Q:=by
 unfold Good Oper.wp;rw[hrun];refine⟨_,_,hK,g.set id w.heap.size 0 false, ?_⟩
 have idsr:∀ x,x∈r.map SV.ofV1->x.ids=[]:=by intro x hx;obtain⟨u,_,rfl⟩:=List.mem_map.1 hx;exact zcy u
 have hall0:((Value.pointer none::r).map SV.ofV1).all SV.one=true:=by
  rw[List.map_cons,List.all_cons,hall];rfl
 have ids0:∀ k,k∈SV.idsL ((Value.pointer none::r).map SV.ofV1)->m k ≠ .unborn:=by
  intro k hk;rw[zdU (by intro x hx;obtain⟨u,_,rfl⟩:=List.mem_map.1 hx;exact zcy u)] at hk
  cases hk
 have hb0:=zi4 (t:=t) hs hid (zda hall0) ids0 (ze4 hall0)
 have h1:=(hs.ext (Ext.alloc w (.cells (Value.pointer none::r).toArray t))).born (id:=id) (b:=w.heap.size) (cap:=0) (nl:=false) (bl := .box ((Value.pointer none::r).map SV.ofV1)) hid.1 hid.2 (by simp) hb0 ids0
  (λ _=>⟨λ k hk h=>by have:=zaT hs.mem hk;omega,λ h=>by have:=hs.mem.lt _ h;omega,λ h=>by have:=(hs.keep _ h).1;have:=hs.size;omega, .inr hs.size⟩) (λ _ k hk hx=>by have:=(hs.mem.own k _ hk hx).1;omega)
 have hp:(g.set id w.heap.size 0 false).β id=w.heap.size:=by simp[Gh.set]
 obtain⟨vs,t',q1,q2,q3,q4⟩:=hb0;rw[hp,za7] at q1
 have q5:(Value.pointer none::r).toArray=vs.toArray/\t=t':=by simpa using q1
 obtain⟨q5,rfl⟩:=q5
 obtain rfl:Value.pointer none::r=vs:=by simpa using q5
 have h2:=h1.setB (k:=id) (w':=w.alloc (.cells (Value.pointer none::r).toArray t)) (b := .box (.slf id t::r.map SV.ofV1)) (by unfold zac;rw[za,if_pos rfl];trivial) (λ _ _=>rfl) rfl rfl rfl rfl
  ⟨_,t,by rw[hp];exact za7 w _,by simp,λ i u x hu hx=>by
   cases i with
   | zero =>
    simp only[List.getElem?_cons_zero,Option.some.injEq] at hu hx;subst hu;subst hx;exact⟨rfl, .slfN⟩
   | succ i=>exact q3 (i+1) u x hu (by simpa using hx),λ k' t' h0=>by
   simp only[List.getElem?_cons_zero,Option.some.injEq] at h0
   cases h0;rfl⟩ (by simp) (λ i hi=>by
   simp only[Blk.ids,SV.idsL,SV.ids,List.mem_append,List.mem_singleton,zdU idsr,List.not_mem_nil,or_false] at hi;subst hi
   rw[za,if_pos rfl];simp)
 have em:mApp [(id, .box (.slf id t::r.map SV.ofV1))] (mApp [(id, .box ((Value.pointer none::r).map SV.ofV1))] m)=mApp [(id, .box (.slf id t::r.map SV.ofV1))] m:=by
  funext j;rw[za,za];by_cases hj:id=j
  .rw [if_pos hj,if_pos hj]
  .rw [if_neg hj,if_neg hj]
   show mApp _ m j=_;rw[za,if_neg hj]
 rw[em] at h2;refine h2.put ho (.inr ?_) ?_
 .have:=Den.ptr (g:=g.set id w.heap.size 0 false) (w:=w.alloc (.cells (Value.pointer none::r).toArray t)) (k:=id) (o:=0)
  rw[hp] at this;exact this
 .intro k hk
  simp[SV.ids] at hk;subst hk;rw[za,if_pos rfl];simp
theorem zpq {z r:List Value}(h:slfZ z=some r):z = .pointer none::r:=by
 unfold slfZ at h
 split at h
 .cases h;rfl
 .cases h
theorem zkR {t:TypeId}{id:Nat}(hT:TyOK P c.ty)(hs:SR fr nt g e m a w)(ho:∀ d,o.dst=some d->d<nt)(hid:fr.p<=id/\m id = .unborn)(hop:o.op = .alloc t)
  (h:(match c.ty.at t with
  | some ti=>(match ti.k with
   | .arr .. => Pg.or (bif Nat.ble ti.size 8 then (bif (ti.zero.map SV.ofV1).all SV.one then boxed (.ptr id 0) id (ti.zero.map SV.ofV1) else Pg.fail) else Pg.fail) <| Pg.ex (zqu ti) λ q=>Pg.ret ⟨.ptr id 0,[(id, .arr q)]⟩
   | _=>bif ti.slf then zf7 t ti.zero id else bif (ti.zero.map SV.ofV1).all SV.one then boxed (.ptr id 0) id (ti.zero.map SV.ofV1) else Pg.fail)
  | none=>Pg.fail) e m l K):Good P fr nt e m a w o K Q:=by
 cases ht:c.ty.at t with
 | none=>simp only[ht] at h;exact h.elim
 | some ti =>
  simp only[ht] at h;obtain⟨z,hz,hzc⟩:=zgN (w:=w) (hT t ti ht)
  have hrun:(execOp a.eval o).run P w = .ok (.value (.pointer (some ⟨w.heap.size,0,none⟩))) (w.alloc (.cells ti.zero.toArray t)):=by
   simp[execOp,hop,Instr.alloc,newVar,newRow,hz,<- hzc]
  have idsz:∀ k,k∈SV.idsL (ti.zero.map SV.ofV1)->m k ≠ .unborn:=by
   intro k hk;rw[zdU (by intro x hx;obtain⟨u,_,rfl⟩:=List.mem_map.1 hx;exact zcy u)] at hk
   cases hk
  have hbox:(ti.zero.map SV.ofV1).all SV.one=true->K ⟨.ptr id 0,[(id, .box (ti.zero.map SV.ofV1))]⟩ l->Good P fr nt e m a w o K Q:=λ hall hK =>
   zeL (bl := .box (ti.zero.map SV.ofV1)) hs ho hid hrun (by simp) idsz (zi4 hs hid (zda hall) idsz (ze4 hall)) hK
  have hall:∀ (h:(bif (ti.zero.map SV.ofV1).all SV.one then boxed (.ptr id 0) id (ti.zero.map SV.ofV1) else Pg.fail) e m l K),Good P fr nt e m a w o K Q:=by
   intro h
   cases hb:(ti.zero.map SV.ofV1).all SV.one with
   | false=>simp only[hb,cond_false] at h;exact h.elim
   | true=>simp only[hb,cond_true,zeM] at h;exact hbox hb h
  have hslf:∀ (h:(bif ti.slf then zf7 t ti.zero id else bif (ti.zero.map SV.ofV1).all SV.one then boxed (.ptr id 0) id (ti.zero.map SV.ofV1) else Pg.fail) e m l K),Good P fr nt e m a w o K Q:=by
   intro h
   cases hb:ti.slf with
   | false=>rw[hb,cond_false] at h;exact hall h
   | true =>
    rw[hb,cond_true] at h;unfold zf7 at h
    cases hsz:slfZ ti.zero with
    | none=>rw[hsz] at h;exact h.elim
    | some r =>
     rw[hsz] at h;dsimp only at h;have hzr:=zpq hsz
     cases hb2:(r.map SV.ofV1).all SV.one with
     | false=>rw[hb2,cond_false] at h;exact h.elim
     | true =>
      rw[hb2,cond_true,zeM] at h;exact znP hs ho hid (by rw[hrun,hzr]) hb2 h
  cases hk:ti.k with
  | arr n es ea =>
   simp only[hk] at h
   rcases h with h|h
   .cases hsm:Nat.ble ti.size 8 with
    | true=>rw[hsm,cond_true] at h;exact hall h
    | false=>rw[hsm,cond_false] at h;exact h.elim
   obtain⟨ds,hd,h⟩:=h
   .have hd:zaM [] (ti.zero.map SV.ofV1)=some ds:=hd
    refine zeL (bl := .arr ds) hs ho hid hrun (by simp) (by simp[Blk.ids]) ⟨ti.zero,t, ?_, ?_, ?_⟩ h
    .have:(g.set id w.heap.size 0 false).β id=w.heap.size:=by simp[Gh.set]
     rw[this];exact za7 w _
    .rw [zaV hd];simp
    .intro i u d hu hdd
     have hden:∀ (i:Nat) u y,ti.zero[i]? = some u->(ti.zero.map SV.ofV1)[i]? = some y->DenO g w u y:=by
      intro i u y hu hy;rw[List.getElem?_map,hu] at hy;simp at hy;subst hy;exact zcx u
     have hr:=zbe hden (by simp) hd i u d hu hdd;obtain⟨s',hs'⟩:=zb2 hd (x:=SV.ofV1 u) (by rw[List.getElem?_map,hu];rfl) hdd;refine⟨?_,hr.mono (λ _ h=>h) λ b hb=>(Ext.alloc w _).old b (hs.mem.lt b hb)⟩
     have:(SV.ofV1 u).one=true:=by
      unfold SV.ofV1 at hs' ⊢
      split at hs' <;> first
       | rfl
       | (rename_i k n;cases hh:ziV k n <;> simp only[hh,cond_true,cond_false] at hs' ⊢ <;> first|rfl|(simp[SV.toD1] at hs'))
       | (rename_i s;cases hh:Nat.ble s.size 9223372036854775807 <;> simp only[hh,cond_true,cond_false] at hs' ⊢ <;> first|rfl|(simp[SV.toD1] at hs'))
       | (simp[SV.toD1] at hs')
     rcases zcx (g:=g) (w:=w) u with hh|hh
     .rw [hh] at this;simp[SV.one] at this
     .exact hh.one this
  | _=>simp only[hk] at h;exact hslf h
theorem zcl {α:Type}{n:Nat}{l r:List α}(h:zbN n l=some r):n<=l.length/\r=l.take n:=by
 induction n generalizing l r with
 | zero=>simp[zbN] at h;subst h;simp
 | succ n ih =>
  cases l with
  | nil=>simp[zbN] at h
  | cons x l =>
   simp only[zbN] at h
   split at h
   .rename_i r' h'
    simp at h;subst h;obtain⟨h1,h2⟩:=ih h';exact⟨by simp;omega,by simp[h2]⟩
   .cases h
theorem zaC (b o j:Nat):(⟨b,o,none⟩:Addr).add j=⟨b,o+j,none⟩:=by unfold Addr.add;split <;> simp_all
theorem zbL {t:TypeId}{ti:TI}(h:TIok P t ti)(ha:ti.agg=true){b off:Nat}{vs:List Value}(hl:vs.length=ti.size)
  (hc:∀ (j:Nat) u,vs[j]? = some u->w.cell? ⟨b,off+j,none⟩=some u):(Instr.loadAt t (.pointer (some ⟨b,off,none⟩))).run P w = .ok (.agg vs.toArray) w:=by
 have:=run_loadCells_list (P:=P) w ⟨b,off,none⟩ vs (λ j u hu=>by rw[zaC];exact hc j u hu);rw[hl] at this;simp[Instr.loadAt,Instr.sureAddr,loadVar,zhT h,ha,ze5 h,this]
theorem zaE {t:TypeId}{ti:TI}(h:TIok P t ti)(ha:ti.agg=false){ad:Addr}{u:Value}(hc:w.cell? ad=some u) :
  (Instr.loadAt t (.pointer (some ad))).run P w = .ok u w:=by
 simp[Instr.loadAt,Instr.sureAddr,loadVar,zhT h,ha,hc]
theorem FamAt.at' {k:Nat}{ks:List Nat}{es:List (D×List MC)}{outs:List (Nat×Nat×Nat)}{arr:Array MapEntry}{cl:Nat}{M:List Nat}{I:Nat->Nat->Option (Nat×Nat)}(h:FamAt g w k ks es outs arr cl M I){i o:Nat}{x:MC}(hx:mcAt es i o=some x) :
  ∃ q vs t u,es[i]? = some q/\q.2[o]? = some x/\M.getD i 0∈M/\w.heap[M.getD i 0]? = some (.cells (List.toArray vs) t (0,0))/\vs.length=q.2.length/\vs[o]? = some u/\u.oneCell'=true/\CellAt g w k ks I outs i o u x/\(g.M k)[i]? = some (M.getD i 0)/\w.cell? ⟨M.getD i 0,o,none⟩=some u:=by
 unfold mcAt at hx
 cases hq:es[i]? with
 | none=>rw[hq] at hx;cases hx
 | some q =>
  rw[hq] at hx;dsimp only at hx;obtain⟨vs,t,h1,h2,h3⟩:=h.mem i q hq
  have hlt:o<vs.length:=by rw[h2];exact(zrf.1 hx).1
  have hin:M.getD i 0∈M:=by
   have:i<M.length:=by rw[h.len];exact(zrf.1 hq).1
   simp[this]
  refine⟨q,vs,t,vs[o],rfl,hx,hin,h1,h2,zrg hlt,(h3 o _ x (zrg hlt) hx).1,(h3 o _ x (zrg hlt) hx).2, ?_⟩
  have him:i<M.length:=by rw[h.len];exact(zrf.1 hq).1
  refine⟨by rw[h.Mk];simp[him], ?_⟩;rw[cell_of_row w _ _ _ _ _ h1];simp[hlt]
def zqA (P:Program)(g:Gh)(m:Nat->Blk)(w:World)(t:TypeId)(v:Value)(K:Dl->List Loc->Prop):Prop :=
 ∃ ad u y l',v = .pointer (some ad)/\(Instr.loadAt t v).run P w = .ok u w/\DenO g w u y/\(∀ k,k∈y.ids->m k ≠ .unborn)/\K ⟨y,[]⟩ l'
theorem zbt {t:TypeId}{ad:Addr}{u:Value}{y:SV}(h1:(Instr.loadAt t (.pointer (some ad))).run P w = .ok u w)(h2:DenO g w u y)(h3:∀ k,k∈y.ids->m k ≠ .unborn)(h4:K ⟨y,[]⟩ l) :
  zqA P g m w t (.pointer (some ad)) K:=⟨ad,u,y,l,rfl,h1,h2,h3,h4⟩
theorem zhV {t:TypeId}{ti:TI}{v:Value}{sv:SV}(hT:TIok P t ti)(hs:SR fr nt g e m a w)
  (hx:DenO g w v sv) (hb:∀ k,k∈sv.ids->m k ≠ .unborn) (h:zcg ti sv e m l K):zqA P g m w t v K:=by
 rcases hx with hx|hx
 .subst hx;exact h.elim
 cases hx with
 | @po k i off pb hpb =>
  simp only[zcg,Pg.getB,zam] at h;have hblk:=hs.mem.blk k
  cases hm:m k with
  | fam ks es outs =>
   rw[hm] at hblk h;obtain⟨arr,cl,M,I,hfm⟩:=hblk
   cases ha:ti.agg with
   | true=>simp only[ha,cond_true] at h;exact h.elim
   | false =>
    simp only[ha,cond_false,Pg.ex] at h;obtain⟨x,hx,h⟩:=h;obtain⟨q,vs,t',u,h1,h2,h3,h4,h5,h6,h7,h8,hMi,h9⟩:=hfm.at' hx;obtain rfl:=Option.some.inj (hpb.symm.trans hMi)
    cases x with
    | d x =>
     simp only[zal] at h;exact zbt (zaE hT ha h9) (zaQ h8) (by rw[zaX];simp) h
    | p kc t' =>
     cases hkc:ks[kc]? with
     | none=>simp only[hkc] at h;exact h.elim
     | some k' =>
     simp only[hkc,zal] at h
     cases t' with
     | none =>
      have h8:u = .pointer none:=h8;subst h8;exact zbt (zaE hT ha h9) (.inr (.dat (.v trivial))) (by simp[nilP,SV.ids]) (h.1 rfl)
     | some j =>
      obtain⟨k1,h10,b',h11,h8⟩:∃ k1,ks[kc]? = some k1/\∃ b,(g.M k1)[j]? = some b/\u = .pointer (some ⟨b,0,none⟩):=h8;obtain rfl:=Option.some.inj (hkc.symm.trans h10);subst h8
      exact zbt (zaE hT ha h9) (.inr (.po h11)) (λ y hy=>by
       simp only[SV.ids,List.mem_singleton] at hy;subst hy
       exact hs.bornM k _ (by rw[hm];simp[Blk.ids,zri hkc])) (h.2 j rfl)
    | _=>exact h.elim
  | _=>rw[hm] at h;exact h.elim
 | @ptr k off =>
  simp only[zcg,Pg.getB,zam] at h;have hblk:=hs.mem.blk k
  cases hm:m k with
  | box cs =>
   rw[hm] at hblk h;obtain⟨vs,t',hh,hl,hc,_⟩:=hblk
   have cell:∀ (j:Nat) u,vs[j]? = some u->w.cell? ⟨g.β k,j,none⟩=some u:=λ j u hu=>by rw[cell_of_row w _ _ _ _ _ hh];simpa using hu
   have born:∀ y,y∈cs->∀ i,i∈y.ids->m i ≠ .unborn:=λ y hy i hi=>hs.bornM k i (by rw[hm];exact zau.2 ⟨y,hy,hi⟩)
   cases ha:ti.agg with
   | true =>
    simp only[ha,cond_true] at h
    cases ht:zbN ti.size (cs.drop off) with
    | none=>simp only[ht] at h;exact h.elim
    | some r =>
     simp only[ht,zal] at h;obtain⟨h1,rfl⟩:=zcl ht
     have hlen:((vs.drop off).take ti.size).length=ti.size:=by simp[hl] at h1 ⊢;omega
     refine zbt ((zbL hT ha hlen (λ j u hu=>?_))) (.inr (ze6 ⟨?_,λ i u y hu hy=>?_⟩)) ?_ h
     .rw [List.getElem?_take] at hu
      split at hu
      .rw [List.getElem?_drop] at hu;exact cell _ u hu
      .cases hu
     .simp [hl]
     .rw [List.getElem?_take] at hu hy
      split at hu
      .rename_i hlt
       simp only[hlt,if_true] at hy;rw[List.getElem?_drop] at hu hy;exact hc _ u y hu hy
      .cases hu
     .intro i hi
      obtain⟨y,hy,hi⟩:=zau.1 (zhU hi);exact born y (List.mem_of_mem_drop (List.mem_of_mem_take hy)) i hi
   | false =>
    simp only[ha,cond_false] at h
    cases ht:cs[off]? with
    | none=>simp only[ht] at h;exact h.elim
    | some y =>
     simp only[ht,zal] at h
     have hi:off<vs.length:=by rw[hl];exact(zrf.1 ht).1
     have:=hc off _ y (zrg hi) ht;exact zbt ((zaE hT ha (cell off _ (zrg hi)))) (.inr this.2) (born y (zri ht)) h
  | arr cs =>
   rw[hm] at hblk h;obtain⟨vs,t',hh,hl,hc⟩:=hblk
   have cell:∀ (j:Nat) u,vs[j]? = some u->w.cell? ⟨g.β k,j,none⟩=some u:=λ j u hu=>by rw[cell_of_row w _ _ _ _ _ hh];simpa using hu
   cases ha:ti.agg with
   | true =>
    simp only[ha,cond_true,Pg.ex,zal] at h;obtain⟨r,ht,h⟩:=h;obtain⟨h1,rfl⟩:=zcl ht
    have hlen:((vs.drop off).take ti.size).length=ti.size:=by simp[hl] at h1 ⊢;omega
    have getv:∀ (i:Nat) u,((vs.drop off).take ti.size)[i]? = some u->i<ti.size/\vs[off+i]? = some u:=by
     intro i u hu;rw[List.getElem?_take] at hu
     split at hu
     .rename_i hlt
      rw[List.getElem?_drop] at hu;exact⟨hlt,hu⟩
     .cases hu
    have getd:∀ (i:Nat) u,((cs.drop off).take ti.size)[i]? = some u->cs[off+i]? = some u:=by
     intro i u hu;rw[List.getElem?_take] at hu
     split at hu
     .rw [List.getElem?_drop] at hu;exact hu
     .cases hu
    refine zbt ((zbL hT ha hlen (λ j u hu=>cell _ u (getv j u hu).2))) (.inr (.dat (.agg ?_ (λ i u d hu hd=>(hc _ u d (getv i u hu).2 (getd i d hd)).1) λ i u d hu hd=>(hc _ u d (getv i u hu).2 (getd i d hd)).2))) (by simp[SV.ids]) h;simp[hl]
   | false =>
    simp only[ha,cond_false,Pg.ex,zal] at h;obtain⟨y,ht,h⟩:=h
    have hi:off<vs.length:=by rw[hl];exact(zrf.1 ht).1
    have:=hc off _ y (zrg hi) ht;exact zbt ((zaE hT ha (cell off _ (zrg hi)))) (zaQ this.2) (by rw[zaX];simp) h
  | _=>rw[hm] at h;exact h.elim
 | @ep b off cs f hF hc hr =>
  simp only[zcg] at h
  cases ha:ti.agg with
  | true =>
   simp only[ha,cond_true] at h
   cases ht:zbN ti.size cs with
   | none=>simp only[ht] at h;exact h.elim
   | some r =>
    simp only[ht,zal] at h;obtain⟨h1,rfl⟩:=zcl ht
    have hget:∀ (j:Nat) u,((List.range ti.size).map f)[j]? = some u->j<ti.size/\u=f j:=by
     intro j u hu;rw[List.getElem?_map] at hu;by_cases hj:j<ti.size
     .rw [List.getElem?_range hj] at hu;simp at hu;exact⟨hj,hu.symm⟩
     .rw [List.getElem?_eq_none (by simpa using hj)] at hu;simp at hu
    have hd:∀ (j:Nat) d,(cs.take ti.size)[j]? = some d->cs[j]? = some d:=by
     intro j d hd;rw[List.getElem?_take] at hd
     split at hd
     .exact hd
     .cases hd
    refine zbt ((zbL (vs:=(List.range ti.size).map f) hT ha (by simp) (λ j u hu=>?_))) (.inr (.dat (.agg ?_ (λ i u d hu hdd=>?_) λ i u d hu hdd=>?_))) (by simp[SV.ids]) h
    .obtain ⟨hj,rfl⟩:=hget j u hu
     have hjc:j<cs.length:=by omega
     exact(hc j _ (zrg hjc)).1
    .simp;omega
    .obtain ⟨hj,rfl⟩:=hget i u hu
     exact(hc i d (hd i d hdd)).2
    .obtain ⟨hj,rfl⟩:=hget i u hu
     exact hr i d (hd i d hdd)
  | false =>
   simp only[ha,cond_false] at h
   cases ht:cs[0]? with
   | none=>simp only[ht] at h;exact h.elim
   | some y =>
    simp only[ht,zal] at h;exact zbt ((zaE hT ha (hc 0 y ht).1)) (zaQ (hr 0 y ht)) (by rw[zaX];simp) h
 | @rp k s i j hN =>
  simp only[zcg,Pg.getB,zam] at h;have hblk:=hs.mem.blk k
  cases hm:m k with
  | row t' s' es =>
   rw[hm] at hblk h;simp only[Pg.ex] at h;obtain⟨el,⟨rfl,hel⟩,h⟩:=h
   rcases hblk with hblk|⟨_,cur,⟨zz,hh,_⟩,hsz,hle,hmx,hlen,hcell⟩
   .rw [hblk.1] at hN;cases hN
   have cell:∀ (q:Nat) d,el.cells[q]? = some d->∃ u,w.cell? ⟨g.β k,co (g.C k)+i*s+q,none⟩=some u/\u.oneCell'=true/\Rd g.F w u d:=by
    intro q d hd;obtain⟨u,hu,h1,h2⟩:=hcell i q el d hel hd;exact⟨u,by rw[cell_of_row w _ _ _ _ _ hh,Nat.add_assoc];exact hu,h1,h2⟩
   cases ha:ti.agg with
   | true =>
    simp only[ha,cond_true] at h
    cases ht:zbN ti.size (el.cells.drop j) with
    | none=>simp only[ht] at h;exact h.elim
    | some r =>
     simp only[ht,zal] at h;obtain⟨h1,rfl⟩:=zcl ht;simp at h1
     let f:Nat->Value:=λ q=>(w.cell? ⟨g.β k,co (g.C k)+i*s+(j+q),none⟩).getD undef
     have hf:∀ (q:Nat) d,el.cells[j+q]? = some d->w.cell? ⟨g.β k,co (g.C k)+i*s+(j+q),none⟩=some (f q)/\(f q).oneCell'=true/\Rd g.F w (f q) d:=by
      intro q d hd;obtain⟨u,hu,h1,h2⟩:=cell _ d hd
      have:f q=u:=by simp[f,hu]
      rw[this];exact⟨hu,h1,h2⟩
     have hget:∀ (q:Nat) u,((List.range ti.size).map f)[q]? = some u->q<ti.size/\u=f q:=by
      intro q u hu;rw[List.getElem?_map] at hu;by_cases hj:q<ti.size
      .rw [List.getElem?_range hj] at hu;simp at hu;exact⟨hj,hu.symm⟩
      .rw [List.getElem?_eq_none (by simpa using hj)] at hu;simp at hu
     have hd:∀ (q:Nat) d,((el.cells.drop j).take ti.size)[q]? = some d->el.cells[j+q]? = some d:=by
      intro q d hd;rw[List.getElem?_take] at hd
      split at hd
      .rw [List.getElem?_drop] at hd;exact hd
      .cases hd
     refine zbt ((zbL (vs:=(List.range ti.size).map f) hT ha (by simp) (λ q u hu=>?_))) (.inr (.dat (.agg ?_ (λ q u d hu hdd=>?_) λ q u d hu hdd=>?_))) (by simp[SV.ids]) h
     .obtain ⟨hq,rfl⟩:=hget q u hu
      have hjc:j+q<el.cells.length:=by omega
      have:=(hf q _ (zrg hjc)).1;rw[Nat.add_assoc];exact this
     .simp;omega
     .obtain ⟨hq,rfl⟩:=hget q u hu
      exact(hf q d (hd q d hdd)).2.1
     .obtain ⟨hq,rfl⟩:=hget q u hu
      exact(hf q d (hd q d hdd)).2.2
   | false =>
    simp only[ha,cond_false] at h
    cases ht:el.cells[j]? with
    | none=>simp only[ht] at h;exact h.elim
    | some y =>
     simp only[ht,zal] at h;obtain⟨u,hu,h1,h2⟩:=cell j y ht;exact zbt ((zaE hT ha hu)) (zaQ h2) (by rw[zaX];simp) h
  | _=>rw[hm] at h;exact h.elim
 | _=>exact h.elim
theorem zds {t:TypeId}{ti:TI}{x:Operand}{sv:SV}(hT:TIok P t ti)(hs:SR fr nt g e m a w)(ho:∀ d,o.dst=some d->d<nt)(hop:o.op = .load t x)
  (hx:DenO g w (a.eval x) sv) (hb:∀ k,k∈sv.ids->m k ≠ .unborn) (h:zcg ti sv e m l K):Good P fr nt e m a w o K Q:=by
 obtain⟨ad,u,y,l',_,h1,h2,h3,h4⟩:=zhV hT hs hx hb h;exact zah hs ho (by simp[execOp,hop,h1]) h2 h3 h4
theorem zaI {α:Type}(cs:List α):∀ (l:List α) (o:Nat),(zaF l o cs).length=l.length:=by
 induction cs with
 | nil=>intro l o;rfl
 | cons x r ih=>intro l o;simp only[zaF,ih];simp
theorem zaH {α:Type}(cs:List α):∀ (l:List α) (o i:Nat),o+cs.length<=l.length->(zaF l o cs)[i]? = if o<=i/\i<o+cs.length then cs[i-o]? else l[i]? := by
 induction cs with
 | nil=>intro l o i h;simp[zaF];omega
 | cons x r ih =>
  intro l o i h;simp only[List.length_cons] at h ⊢;simp only[zaF];rw[ih _ _ _ (by simp;omega)];by_cases h1:o+1<=i/\i<o+1+r.length
  .rw [if_pos h1,if_pos (by omega)]
   have:i-o=(i-(o+1))+1:=by omega
   rw[this,List.getElem?_cons_succ]
  .rw [if_neg h1]
   by_cases h2:o=i
   .subst h2
    rw[if_pos (by omega)];simp[List.getElem?_set];omega
   .rw [if_neg (by omega),List.getElem?_set_ne h2]
theorem zbh (P:Program)(g o:Nat)(t:TypeId)(z:Nat×Nat):∀ (vs:List Value) (i:Nat) (cur:Array Value) (w:World),w.heap[g]? = some (.cells cur t z)->Free z cur.size->o+i+vs.length<=cur.size->(∀ v∈vs,v.oneCell'=true) ->
  (storeCells ⟨g,o,none⟩ vs i).run P w = .ok () (w.setRow g (cur.toList.take (o+i)++vs++cur.toList.drop (o+i+vs.length)).toArray)
 | [],i,cur,w,hg,_,_,_=>by
  simp only[storeCells,List.append_nil,List.length_nil,Nat.add_zero,List.take_append_drop,Array.toArray_toList];rw[setRow_self w g cur t z hg];rfl
 | v::rest,i,cur,w,hg,hz,hl,h1=>by
  have hi:o+i<cur.size:=by simp at hl;omega
  have hadd:(⟨g,o,none⟩:Addr).add i=⟨g,o+i,none⟩:=by unfold Addr.add;split <;> simp_all
  have hcell:w.cell? ⟨g,o+i,none⟩=some cur[o+i]:=by simp[World.cell?,hg,hi]
  have hfro:w.frozen? ⟨g,o+i,none⟩=false:=by
   obtain⟨lo,hi'⟩:=z;simp only[World.frozen?,hg,Bool.and_eq_false_iff,decide_eq_false_iff_not]
   rcases hz with hz|hz
   .cases hz;right;omega
   .left;simp only at hz;omega
  have hst:(store ((⟨g,o,none⟩:Addr).add i) v).run P w = .ok () (w.setRow g (cur.setIfInBounds (o+i) v)):=by
   rw[hadd,run_store P w _ v _ (h1 v (by simp)),hcell];simp[hfro,setCell_eq_setRow w g (o+i) cur t z v hg]
  have ih:=zbh P g o t z rest (i+1) (cur.setIfInBounds (o+i) v) (w.setRow g (cur.setIfInBounds (o+i) v)) (setRow_heap w g cur _ t _ hg) (by simpa using hz) (by simp at hl ⊢;omega) (λ x hx=>h1 x (by simp[hx]));simp only[storeCells,Sem.run_bind,hst,Result.andThen_ok,ih,setRow_setRow]
  congr 3
  have e:=list_seg_step cur.toList (o+i) v rest (by simp at hl ⊢;omega);simpa [Array.toList_setIfInBounds,Nat.add_assoc] using e
theorem zbO {t t':TypeId}{ti:TI}{b off:Nat}{v:Value}{cur:Array Value}{z:Nat×Nat}(hT:TIok P t ti)(hh:w.heap[b]? = some (.cells cur t' z))(hz:Free z cur.size)(hl:v.cells.toList.length=ti.size)(ho:off+v.cells.toList.length<=cur.size)
  (h1:∀ (i:Nat) u,v.cells.toList[i]? = some u->u.oneCell'=true) :
  (Instr.storeAt t (.pointer (some ⟨b,off,none⟩)) v).run P w = .ok () (w.setRow b (cur.toList.take off++v.cells.toList++cur.toList.drop (off+v.cells.toList.length)).toArray):=by
 have:=zbh P b off t' z v.cells.toList 0 cur w hh hz (by simpa using ho) (λ u hu=>by
  obtain⟨i,hi⟩:=List.mem_iff_getElem?.1 hu
  exact h1 i u hi)
 simp only[Nat.add_zero] at this
 have hs:v.cells.size=ti.size:=by simpa using hl
 simp[Instr.storeAt,Instr.sureAddr,storeVar,ze5 hT,hs,this]
theorem zaW {t t':TypeId}{ti:TI}{b off:Nat}{v:Value}{cur:Array Value}(hT:TIok P t ti)(hh:w.heap[b]? = some (.cells cur t' (0,0)))(hl:v.cells.toList.length=ti.size)(ho:off+v.cells.toList.length<=cur.size)
  (h1:∀ (i:Nat) u,v.cells.toList[i]? = some u->u.oneCell'=true) :
  (Instr.storeAt t (.pointer (some ⟨b,off,none⟩)) v).run P w = .ok () (w.setRow b (cur.toList.take off++v.cells.toList++cur.toList.drop (off+v.cells.toList.length)).toArray):=zbO hT hh (.inl rfl) hl ho h1
theorem zbT {α:Type}(cur cs:List α)(o i:Nat)(h:o+cs.length<=cur.length):(cur.take o++cs++cur.drop (o+cs.length))[i]? = if o<=i/\i<o+cs.length then cs[i-o]? else cur[i]? := by
 by_cases h1:o<=i/\i<o+cs.length
 .rw [if_pos h1,List.append_assoc,List.getElem?_append_right (by simp;omega),List.getElem?_append_left (by simp;omega)]
  congr 1
  simp;omega
 .rw [if_neg h1]
  by_cases h2:i<o
  .rw [List.append_assoc,List.getElem?_append_left (by simp;omega),List.getElem?_take,if_pos h2]
  .rw [List.getElem?_append_right (by simp;omega),List.getElem?_drop]
   congr 1
   simp;omega
theorem zbu {α:Type}(cur cs:List α)(o:Nat)(h:o+cs.length<=cur.length):(cur.take o++cs++cur.drop (o+cs.length)).length=cur.length:=by simp;omega
theorem zgO {y y':MC}{c:SV}{u:Value}{k:Nat}{ks:List Nat}{I:Nat->Nat->Option (Nat×Nat)}{outs:List (Nat×Nat×Nat)}{i o:Nat}(h:y.put ks c=some y')(hd:Den g w u c):CellAt g w k ks I outs i o u y':=by
 unfold MC.put at h
 split at h
 .obtain ⟨d,hd1,rfl⟩:=Option.map_eq_some_iff.1 h
  exact zaL hd hd1
 .cases h
  cases hd with
  | dat hd=>cases hd with
   | v _=>rfl
 .rename_i k0 t0 k1 j1
  cases hk1:hasK ks k0 k1 with
  | false=>rw[hk1] at h;cases h
  | true =>
   rw[hk1] at h;simp only[cond_true,Option.some.injEq] at h;subst h
   cases hd with
   | po hM =>
   unfold hasK at hk1
   cases hz:ks[k0]? with
   | none=>rw[hz] at hk1;cases hk1
   | some z =>
    rw[hz] at hk1;have hk1:=zrh hk1;subst hk1;exact⟨_,hz,_,hM,rfl⟩
 .cases h
theorem FamAt.upd {k:Nat}{ks:List Nat}{es:List (D×List MC)}{outs:List (Nat×Nat×Nat)}{arr:Array MapEntry}{cl:Nat}{M:List Nat}{I:Nat->Nat->Option (Nat×Nat)}{w':World}{i o:Nat}{q:D×List MC}{vs:List Value}{t:TypeId}{u:Value}{y:MC}{outs':List (Nat×Nat×Nat)}
  (h:FamAt g w k ks es outs arr cl M I) (hoo:∀ j c,¬ (j=i/\c=o)->zaD outs' j c=zaD outs j c) (holt:∀ x,x∈outs'->x.1<es.length) (hsub:∀ x,x∈outs'->x∈outs∨(x.1=i/\x.2.1=o)) (hq:es[i]? = some q) (hvs:w.heap[M.getD i 0]? = some (.cells vs.toArray t (0,0))) (hl:vs.length=q.2.length)
  (hmem:∀ (c:Nat) u x,vs[c]? = some u->q.2[c]? = some x->u.oneCell'=true/\CellAt g w k ks I outs i c u x)
  (ho:o<vs.length) (hu:u.oneCell'=true) (hw0:w'.heap[M.getD i 0]? = some (.cells (vs.set o u).toArray t (0,0))) (hw:∀ b,b≠M.getD i 0->w'.heap[b]? = w.heap[b]?) (hhot:¬ g.F (M.getD i 0)) (hβ:g.β k≠M.getD i 0)
  (hy:CellAt g w' k ks I outs' i o u y):FamAt g w' k ks (zaJ es i o y) outs' arr cl M I:=by
 have hF:∀ b,g.F b->w'.heap[b]? = w.heap[b]? := λ b hb=>hw b λ e=>hhot (e ▸ hb)
 have him:i<M.length:=by rw[h.len];exact(zrf.1 hq).1
 have hin:M.getD i 0∈M:=by simp[him]
 have mono:∀ i' c' v x,¬ (i'=i/\c'=o)->CellAt g w k ks I outs i' c' v x->CellAt g w' k ks I outs' i' c' v x:=by
  intro i' c' v x hne hc;have hc:=hc.mono (g':=g) (w':=w') (λ _ h=>h) hF (λ _ _=>⟨rfl,rfl,rfl,List.prefix_rfl⟩) λ b c hI hx=>⟨hx,hw b λ e=>h.sep i' c' b c hI (e ▸ hin)⟩
  cases x with
  | d _=>exact hc
  | p k' tt=>cases tt <;> exact hc
  | r e2 s2 l2=>simp only[CellAt,hoo i' c' hne] at hc ⊢;exact hc
  | m l2=>simp only[CellAt,hoo i' c' hne] at hc ⊢;exact hc
 have get:∀ j,(zaJ es i o y)[j]? = if i=j then some (q.1,q.2.set o y) else es[j]? := by
  intro j;unfold zaJ;rw[List.getElem?_modify];by_cases e:i=j
  .subst e;simp[hq]
  .simp [e]
 refine⟨by rw[hw _ hβ];exact h.hp,h.Mk,by rw[h.len];simp[zaJ],by rw[h.size];simp[zaJ],h.keys,h.nodup,h.own,λ j x p hx hp=>?_,λ j p hp=>?_,h.sep,h.inj,h.iown,by simpa [zaJ] using holt⟩
 .rw [get] at hp
  by_cases e:i=j
  .subst e
   rw[if_pos rfl] at hp
   cases hp
   obtain⟨h1,h2⟩:=h.ent i x q hx hq;exact⟨h1.mono (λ _ h=>h) hF,h2⟩
  .rw [if_neg e] at hp
   obtain⟨h1,h2⟩:=h.ent j x p hx hp;exact⟨h1.mono (λ _ h=>h) hF,h2⟩
 .rw [get] at hp
  by_cases e:i=j
  .subst e
   rw[if_pos rfl] at hp
   cases hp
   refine⟨vs.set o u,t,hw0,by simp[hl],λ c v x hv hx=>?_⟩;rw[List.getElem?_set] at hv hx;by_cases ec:o=c
   .subst ec
    rw[if_pos rfl,if_pos ho] at hv;rw[if_pos rfl,if_pos (by omega)] at hx
    cases hv;cases hx
    exact⟨hu,hy⟩
   .rw [if_neg ec] at hv hx
    exact⟨(hmem c v x hv hx).1,mono _ _ _ _ (λ h=>ec h.2.symm) (hmem c v x hv hx).2⟩
  .rw [if_neg e] at hp
   obtain⟨vs',t',h1,h2,h3⟩:=h.mem j p hp
   have hjm:j<M.length:=by rw[h.len];exact(zrf.1 hp).1
   have hne:M.getD j 0≠M.getD i 0:=by
    intro hh
    have h5:M[j]=M[i]:=by simpa [hjm,him] using hh
    have h6:=List.pairwise_iff_getElem.1 h.nodup
    rcases Nat.lt_trichotomy j i with h7|h7|h7
    .exact h6 j i hjm him h7 h5
    .exact e h7.symm
    .exact h6 i j him hjm h7 h5.symm
   exact⟨vs',t',by rw[hw _ hne];exact h1,h2,λ c v x hv hx=>⟨(h3 c v x hv hx).1,mono _ _ _ _ (λ h=>e h.1.symm) (h3 c v x hv hx).2⟩⟩
theorem zhW {ks:List Nat}:∀ {ys:List MC} {xs:List SV} {zs:List MC},zhI ks ys xs=some zs->(ys.length=xs.length/\zs.length=xs.length)/\∀ (c:Nat) z,zs[c]? = some z->∃ y x,ys[c]? = some y/\xs[c]? = some x/\y.put ks x=some z:=by
 intro ys
 induction ys with
 | nil =>
  intro xs zs h
  cases xs with
  | nil=>cases h;simp
  | cons=>cases h
 | cons y ys ih =>
  intro xs zs h
  cases xs with
  | nil=>cases h
  | cons x xs =>
   simp only[zhI] at h
   split at h
   .rename_i y' r h1 h2
    cases h
    obtain⟨⟨e1,e2⟩,e3⟩:=ih h2;refine⟨⟨by simp[e1],by simp[e2]⟩,λ c z hz=>?_⟩
    cases c with
    | zero=>simp at hz;subst hz;exact⟨y,x,rfl,rfl,h1⟩
    | succ c=>obtain⟨y0,x0,k1,k2,k3⟩:=e3 c z (by simpa using hz);exact⟨y0,x0,by simpa using k1,by simpa using k2,k3⟩
   .cases h
theorem ze7 {k:Nat}{bl:Blk}{new:Array Value}{t:TypeId}{cur:Array Value}(hs:SR fr nt g e m a w)(hdst:∀ d,o.dst=some d->d<nt){z:Nat×Nat}(hk:zac g m k)(hh:w.heap[g.β k]? = some (.cells cur t z))
  (hrun:(execOp a.eval o).run P w = .ok .skip (w.setRow (g.β k) new)) (hb:BlkRel g (w.setRow (g.β k) new) k bl) (hal:bl ≠ .unborn) (hids:∀ i,i∈bl.ids->m i ≠ .unborn)
  (hK:K ⟨.no,[(k,bl)]⟩ l):Good P fr nt e m a w o K Q:=by
 unfold Good Oper.wp;rw[hrun];refine⟨_,_,hK,g, ?_⟩;exact(hs.setB hk (λ i hi=>setRow_other w _ i _ hi) (size_setRow _ _ _) rfl rfl rfl hb hal hids).put hdst (.inl rfl) (by simp[SV.ids])
theorem zf9 {x:SV}{d:D}{s:Nat}(h:x.one=true)(hx:x.toD1 s=some d):d.cells=[d]:=by
 cases x <;> simp[SV.toD1] at hx
 case dat y=>subst hx;cases y <;> first|rfl|simp[SV.one] at h
 case kb=>subst hx;rfl
 case nil=>subst hx;rfl
 case csl=>subst hx;rfl
 case ep=>subst hx;rfl
theorem ze8 {el:D}{cs:List D}(h:cs.length=el.cells.length)(h1:∀ d,d∈cs->d.cells=[d]):(el.withCells cs).cells=cs:=by
 cases el with
 | agg l=>rfl
 | _ =>
  simp[D.cells] at h
  match cs,h with
  | [c],_=>simp[D.withCells];exact h1 c (by simp)
theorem FamAt.updAll {k:Nat}{ks:List Nat}{es:List (D×List MC)}{outs:List (Nat×Nat×Nat)}{arr:Array MapEntry}{cl:Nat}{M:List Nat}{I:Nat->Nat->Option (Nat×Nat)}{w':World}{i:Nat}{q:D×List MC}{us:List Value}{ys:List MC}{t:TypeId}
  (h:FamAt g w k ks es outs arr cl M I) (hq:es[i]? = some q) (hl:us.length=ys.length) (hw0:w'.heap[M.getD i 0]? = some (.cells us.toArray t (0,0))) (hw:∀ b,b≠M.getD i 0->w'.heap[b]? = w.heap[b]?) (hhot:¬ g.F (M.getD i 0)) (hβ:g.β k≠M.getD i 0)
  (hy:∀ (c:Nat) v x,us[c]? = some v->ys[c]? = some x->v.oneCell'=true/\CellAt g w' k ks I outs i c v x):FamAt g w' k ks (es.set i (q.1,ys)) outs arr cl M I:=by
 have hF:∀ b,g.F b->w'.heap[b]? = w.heap[b]? := λ b hb=>hw b λ e=>hhot (e ▸ hb)
 have him:i<M.length:=by rw[h.len];exact(zrf.1 hq).1
 have hie:i<es.length:=(zrf.1 hq).1
 have hin:M.getD i 0∈M:=by simp[him]
 have mono:∀ i' c' v x,CellAt g w k ks I outs i' c' v x->CellAt g w' k ks I outs i' c' v x:=by
  intro i' c' v x hc;exact hc.mono (g':=g) (w':=w') (λ _ h=>h) hF (λ _ _=>⟨rfl,rfl,rfl,List.prefix_rfl⟩) λ b c hI hx=>⟨hx,hw b λ e=>h.sep i' c' b c hI (e ▸ hin)⟩
 have get:∀ j,(es.set i (q.1,ys))[j]? = if i=j then some (q.1,ys) else es[j]? := by
  intro j;rw[List.getElem?_set];by_cases e:i=j
  .subst e;simp[hie]
  .simp [e]
 refine⟨by rw[hw _ hβ];exact h.hp,h.Mk,by rw[h.len];simp,by rw[h.size];simp,h.keys,h.nodup,h.own,λ j x p hx hp=>?_,λ j p hp=>?_,h.sep,h.inj,h.iown,by simpa using h.olt⟩
 .rw [get] at hp
  by_cases e:i=j
  .subst e
   rw[if_pos rfl] at hp
   cases hp
   obtain⟨h1,h2⟩:=h.ent i x q hx hq;exact⟨h1.mono (λ _ h=>h) hF,h2⟩
  .rw [if_neg e] at hp
   obtain⟨h1,h2⟩:=h.ent j x p hx hp;exact⟨h1.mono (λ _ h=>h) hF,h2⟩
 .rw [get] at hp
  by_cases e:i=j
  .subst e
   rw[if_pos rfl] at hp
   cases hp
   exact⟨us,t,hw0,hl,hy⟩
  .rw [if_neg e] at hp
   obtain⟨vs',t',h1,h2,h3⟩:=h.mem j p hp
   have hjm:j<M.length:=by rw[h.len];exact(zrf.1 hp).1
   have hne:M.getD j 0≠M.getD i 0:=by
    intro hh
    have h5:M[j]=M[i]:=by simpa [hjm,him] using hh
    have h6:=List.pairwise_iff_getElem.1 h.nodup
    rcases Nat.lt_trichotomy j i with h7|h7|h7
    .exact h6 j i hjm him h7 h5
    .exact e h7.symm
    .exact h6 i j him hjm h7 h5.symm
   exact⟨vs',t',by rw[hw _ hne];exact h1,h2,λ c v x hv hx=>⟨(h3 c v x hv hx).1,mono _ _ _ _ (h3 c v x hv hx).2⟩⟩
theorem zcT {t : TypeId}{ti : TI}{x y : Operand}{sa sx : SV}(hT : TIok P t ti)(hs : SR fr nt g e m a w)(ho : ∀ d, o.dst = some d -> d < nt)(hop : o.op = .store t x y)
    (hx : DenO g w (a.eval x) sa) (hy : DenO g w (a.eval y) sx) (hby : ∀ k, k ∈ sx.ids -> m k ≠ .unborn) (h : zb9 ti sa sx e m l K) : Good P fr nt e m a w o K Q := by
  have hrun : ∀ w', (Instr.storeAt t (a.eval x) (a.eval y)).run P w = .ok () w' -> (execOp a.eval o).run P w = .ok .skip w' := by
    intro u hu; simp [execOp, hop, hu]
  rcases hx with hx | hx
  . subst hx; exact h.elim
  generalize hv : a.eval x = v at hx hrun;generalize hu : a.eval y = u at hy hrun
  cases hx with
  | @po k i off pb hpb =>
    simp only [zb9, Pg.getB, zam] at h;have hblk := hs.mem.blk k
    cases hm : m k with
    | fam ks es outs =>
      rw [hm] at hblk h;obtain ⟨arr, cl, M, I, hfm⟩ := hblk
      cases hcs : sx.cells with
      | none => simp only [hcs] at h; exact h.elim
      | some cs =>
       match cs, hcs with
       | [], hcs => simp only [hcs] at h; exact h.elim
       | c1 :: c2 :: cr, hcs =>
        simp only [hcs] at h
        cases hcond : (Nat.beq off 0 && Nat.beq (cr.length + 2) ti.size && (c1 :: c2 :: cr).all SV.one) with
        | false => rw [hcond] at h; exact h.elim
        | true =>
          rw [hcond] at h;simp only [cond_true, Pg.ex] at h;simp only [zrk] at hcond;obtain ⟨⟨hoff, hsz⟩, h1⟩ := hcond;have hsz := zrh hsz;have hoff := zrh hoff;subst hoff;obtain ⟨q, hq, h⟩ := h
          cases hput : zhI ks q.2 (c1 :: c2 :: cr) with
          | none => simp only [hput] at h; exact h.elim
          | some ys =>
            simp only [hput] at h;obtain ⟨qq, rfl, h⟩ := h;obtain ⟨vs, t', g4, g5, g6⟩ := hfm.mem i q hq
            have him : i < M.length := by rw [hfm.len]; exact (zrf.1 hq).1
            have hMi : (g.M k)[i]? = some (M.getD i 0) := by rw [hfm.Mk]; simp [him]
            obtain rfl := Option.some.inj (hpb.symm.trans hMi)
            rcases hy with hy | hy
            . subst hy; simp [SV.cells] at hcs
            obtain ⟨hcd, hi⟩ := zaR hy hcs h1;obtain ⟨hpl, hpc⟩ := zhW hput
            have hal : zac g m k := by simp [zac, hm]
            have hX := hfm.own _ (by simp [him] : M.getD i 0 ∈ M);obtain ⟨x1, x2, x3, x4⟩ := hs.mem.own k _ hal hX
            have hul : u.cells.toList.length = vs.length := by rw [hcd.1, g5, <- hpl.1]
            have hul' : u.cells.size = vs.length := by simpa using hul
            have hr := zaW (P := P) (v := u) (off := 0) hT g4 (by rw [hcd.1, <- hsz]; simp) (by simp; omega) (λ i u hu => (hcd.2 i u _ hu (zrg (by rw [<- hcd.1]; exact (zrf.1 hu).1))).1)
            have hnew : vs.toArray.toList.take 0 ++ u.cells.toList ++ vs.toArray.toList.drop (0 + u.cells.toList.length) = u.cells.toList := by
              rw [List.drop_of_length_le (by simp; omega)]; simp
            rw [hnew] at hr;have hF : ∀ b, g.F b -> (w.setRow (M.getD i 0) u.cells.toList.toArray).heap[b]? = w.heap[b]? := λ b hb => setRow_other w _ b _ λ e => x2 (e ▸ hb);unfold Good Oper.wp;rw [hrun _ hr];refine ⟨_, _, h, g, ?_⟩;refine (hs.setX hal hX (λ b hb => setRow_other w _ b _ hb) (size_setRow _ _ _) rfl rfl rfl (b := .fam ks (es.set i (q.1, ys)) outs) ⟨arr, cl, M, I, hfm.updAll hq (by rw [hcd.1, <- hpl.2]) (setRow_heap w _ _ _ _ _ g4) (λ b hb => setRow_other w _ b _ hb) x2 (x3 k hal) (λ c v x hv hx => ?_)⟩ (by simp) (λ z hz => hs.bornM k z (by rw [hm]; simpa [Blk.ids] using hz))).put ho (.inl rfl) (by simp [SV.ids]);obtain ⟨x0, s0, e1, e2, e3⟩ := hpc c x hx;obtain ⟨o1, d1⟩ := hcd.2 c v s0 hv e2;exact ⟨o1, zgO e3 (d1.mono (λ _ h => h) hF λ _ _ => ⟨rfl, rfl, rfl, List.prefix_rfl⟩)⟩
       | [c], hcs =>
        simp only [hcs] at h
        cases hcond : (ti.agg || !Nat.beq ti.size 1 || !c.one) with
        | true => simp only [hcond, cond_true] at h; exact h.elim
        | false =>
          simp only [hcond, cond_false, Pg.ex] at h;simp only [Bool.or_eq_false_iff, Bool.not_eq_false'] at hcond;obtain ⟨⟨ha, hsz⟩, h1⟩ := hcond;have hsz := zrh hsz;obtain ⟨y0, hy0, h⟩ := h
          cases hput : y0.put ks c with
          | none => simp only [hput] at h; exact h.elim
          | some y1 =>
            simp only [hput] at h;obtain ⟨qq, rfl, h⟩ := h;obtain ⟨q, vs, t', u0, g1, g2, g3, g4, g5, g6, g7, g8, hMi, g9⟩ := hfm.at' hy0;obtain rfl := Option.some.inj (hpb.symm.trans hMi)
            rcases hy with hy | hy
            . subst hy; simp [SV.cells] at hcs
            obtain ⟨hcd, hi⟩ := zaR hy hcs (by simp [h1]);obtain ⟨u1, hu1⟩ : ∃ u1, u.cells.toList = [u1] := List.length_eq_one_iff.1 hcd.1;obtain ⟨o1, d1⟩ := hcd.2 0 u1 c (by rw [hu1]; rfl) rfl
            have hal : zac g m k := by simp [zac, hm]
            have hX := hfm.own _ g3;obtain ⟨x1, x2, x3, x4⟩ := hs.mem.own k _ hal hX;have hlt : off < vs.length := (zrf.1 g6).1
            have hr := zaW (P := P) (v := u) (off := off) hT g4 (by rw [hu1, hsz]; rfl) (by rw [hu1]; simp; omega) (λ i v hv => by
              rw [hu1] at hv
              cases i with
              | zero => cases hv; exact o1
              | succ i => simp at hv)
            have hnew : vs.toArray.toList.take off ++ u.cells.toList ++ vs.toArray.toList.drop (off + u.cells.toList.length) = vs.set off u1 := by
              rw [hu1];simp only [List.length_singleton];rw [List.set_eq_take_append_cons_drop, if_pos hlt]; simp
            rw [hnew] at hr;have hF : ∀ b, g.F b -> (w.setRow (M.getD i 0) (vs.set off u1).toArray).heap[b]? = w.heap[b]? := λ b hb => setRow_other w _ b _ λ e => x2 (e ▸ hb)
            have hcell : CellAt g (w.setRow (M.getD i 0) (vs.set off u1).toArray) k ks I outs i off u1 y1 :=
              zgO hput (d1.mono (λ _ h => h) hF λ _ _ => ⟨rfl, rfl, rfl, List.prefix_rfl⟩)
            unfold Good Oper.wp;rw [hrun _ hr];refine ⟨_, _, h, g, ?_⟩
            refine (hs.setX hal hX (λ b hb => setRow_other w _ b _ hb) (size_setRow _ _ _) rfl rfl rfl (b := .fam ks (zaJ es i off y1) outs) ⟨arr, cl, M, I, hfm.upd (λ _ _ _ => rfl) hfm.olt (λ _ hx => .inl hx) g1 g4 g5 (λ c v x hv hx => by
              obtain ⟨vs2, t2, e1, e2, e3⟩ := hfm.mem i q g1;rw [g4] at e1
              have : vs.toArray = vs2.toArray := by cases e1; rfl
              have : vs = vs2 := by simpa using this
              subst this
              exact e3 c v x hv hx) hlt o1 (setRow_heap w _ _ _ _ _ g4) (λ b hb => setRow_other w _ b _ hb) x2 (x3 k hal) hcell⟩ (by simp) (λ z hz => hs.bornM k z (by rw [hm]; simpa [Blk.ids] using hz))).put ho (.inl rfl) (by simp [SV.ids])
    | _ => rw [hm] at h; exact h.elim
  | @ptr k off =>
    simp only [zb9, Pg.getB, zam] at h;have hblk := hs.mem.blk k
    cases hm : m k with
    | box lc =>
      rw [hm] at hblk h;obtain ⟨vs, t', hh, hl, hc, hst⟩ := hblk
      cases hcs : sx.cells with
      | none => simp only [hcs] at h; exact h.elim
      | some cs =>
        simp only [hcs] at h
        cases hcond : (Nat.beq cs.length ti.size && Nat.ble (off + cs.length) lc.length && cs.all SV.one) with
        | false => simp only [hcond, cond_false] at h; exact h.elim
        | true =>
          simp only [hcond, cond_true, zeM] at h;simp only [zrk] at hcond;obtain ⟨⟨h1, h2⟩, h3⟩ := hcond;have h1 := zrh h1;have h2 := zrj h2
          rcases hy with hy | hy
          . subst hy; simp [SV.cells] at hcs
          obtain ⟨hcd, hi⟩ := zaR hy hcs h3
          have hol : off + u.cells.toList.length <= vs.length := by rw [hcd.1, hl]; exact h2
          refine ze7 (bl := .box (zaF lc off cs)) hs ho (by simp [zac, hm]) hh (hrun _ (zaW hT hh (by rw [hcd.1, h1]) (by simpa using hol) λ i u hu => (hcd.2 i u _ hu (zrg (by rw [<- hcd.1]; exact (zrf.1 hu).1))).1)) ⟨_, t', setRow_heap w _ _ _ _ _ hh, ?_, ?_, ?_⟩ (by simp) ?_ h
          . rw [zaI, <- hl]
            exact zbu vs u.cells.toList off hol
          . intro i u' y' hu' hy'
            have hF : ∀ b, g.F b -> (w.setRow (g.β k) ((vs.toArray.toList.take off ++ u.cells.toList ++ vs.toArray.toList.drop (off + u.cells.toList.length)).toArray)).heap[b]? = w.heap[b]? := λ b hb => setRow_other w _ b _ λ e => hs.mem.hot k (by simp [zac, hm]) (e ▸ hb);rw [zbT _ _ _ _ (by simpa using hol)] at hu';rw [zaH _ _ _ _ (by omega)] at hy';rw [hcd.1] at hu';by_cases hin : off <= i /\ i < off + cs.length
            . rw [if_pos hin] at hu' hy'
              have := hcd.2 _ u' y' hu' hy';exact ⟨this.1, this.2.mono (λ _ h => h) hF λ _ _ => ⟨rfl, rfl, rfl, List.prefix_rfl⟩⟩
            . rw [if_neg hin] at hu' hy'
              have := hc i u' y' (by simpa using hu') hy';exact ⟨this.1, this.2.mono (λ _ h => h) hF λ _ _ => ⟨rfl, rfl, rfl, List.prefix_rfl⟩⟩
          . intro k' t'' h0
            rw [zaH _ _ _ _ (by omega)] at h0;by_cases hin : off <= 0 /\ 0 < off + cs.length
            . rw [if_pos hin] at h0
              have := List.all_eq_true.1 h3 _ (zri h0)
              cases this
            . rw [if_neg hin] at h0; exact hst k' t'' h0
          . intro i hi'
            obtain ⟨y', hy', hi'⟩ := zau.1 hi';obtain ⟨j, hj⟩ := List.mem_iff_getElem?.1 hy';rw [zaH _ _ _ _ (by omega)] at hj;by_cases hin : off <= j /\ j < off + cs.length
            . rw [if_pos hin] at hj; exact hby i (hi _ (zri hj) i hi')
            . rw [if_neg hin] at hj; exact hs.bornM k i (by rw [hm]; exact zau.2 ⟨y', zri hj, hi'⟩)
    | arr lc =>
      rw [hm] at hblk h;obtain ⟨vs, t', hh, hl, hc⟩ := hblk
      cases hcs : sx.cells with
      | none => simp only [hcs] at h; exact h.elim
      | some cs =>
        simp only [hcs] at h
        cases hds : zaM ti.csz cs with
        | none => simp only [hds] at h; exact h.elim
        | some ds =>
          simp only [hds, cond, Pg.ret, Pg.ex] at h;obtain ⟨⟨h1, h2, h3⟩, q0, rfl, h⟩ := h
          rcases hy with hy | hy
          . subst hy; simp [SV.cells] at hcs
          obtain ⟨hcd, hi⟩ := zaR hy hcs h3;have hdl := zaV hds
          have hol : off + u.cells.toList.length <= vs.length := by rw [hcd.1, hl, <- hdl]; exact h2
          refine ze7 (bl := .arr (zaF lc off ds)) hs ho (by simp [zac, hm]) hh (hrun _ (zaW hT hh (by rw [hcd.1, <- hdl, h1]) (by simpa using hol) λ i u hu => (hcd.2 i u _ hu (zrg (by rw [<- hcd.1]; exact (zrf.1 hu).1))).1)) ⟨_, t', setRow_heap w _ _ _ _ _ hh, ?_, ?_⟩ (by simp) (by simp [Blk.ids]) h
          . rw [zaI, <- hl]
            exact zbu vs u.cells.toList off hol
          . intro i u' y' hu' hy'
            have hF : ∀ b, g.F b -> (w.setRow (g.β k) ((vs.toArray.toList.take off ++ u.cells.toList ++ vs.toArray.toList.drop (off + u.cells.toList.length)).toArray)).heap[b]? = w.heap[b]? := λ b hb => setRow_other w _ b _ λ e => hs.mem.hot k (by simp [zac, hm]) (e ▸ hb);rw [zbT _ _ _ _ (by simpa using hol)] at hu';rw [zaH _ _ _ _ (by omega)] at hy';rw [hcd.1, <- hdl] at hu';by_cases hin : off <= i /\ i < off + ds.length
            . rw [if_pos hin] at hu' hy'
              have hlt : i - off < cs.length := by omega
              have h4 := (hcd.2 _ u' _ hu' (zrg hlt)).1;have h5 := zbe (λ i u y hu hy => .inr (hcd.2 i u y hu hy).2) hcd.1 hds _ u' y' hu' hy';exact ⟨h4, h5.mono (λ _ h => h) hF⟩
            . rw [if_neg hin] at hu' hy'
              have := hc i u' y' (by simpa using hu') hy';exact ⟨this.1, this.2.mono (λ _ h => h) hF⟩
    | _ => rw [hm] at h; exact h.elim
  | @rp k s i j hN =>
    simp only [zb9, Pg.getB, zam] at h;have hblk := hs.mem.blk k
    cases hm : m k with
    | row t' s' es =>
      rw [hm] at hblk h
      cases hcs : sx.cells with
      | none => simp only [hcs] at h; exact h.elim
      | some cs =>
        simp only [hcs] at h
        cases hds : zaM ti.csz cs with
        | none => simp only [hds] at h; exact h.elim
        | some ds =>
          simp only [hds, Pg.ex, cond, Pg.ret] at h;obtain ⟨el, ⟨rfl, hel⟩, ⟨h1, h2, h3⟩, q0, rfl, h⟩ := h
          rcases hblk with hblk | ⟨_, cur, ⟨zz, hh, hzz⟩, hsz, hle, hmx, hlen, hcell⟩
          . rw [hblk.1] at hN; cases hN
          rcases hy with hy | hy
          . subst hy; simp [SV.cells] at hcs
          obtain ⟨hcd, hi⟩ := zaR hy hcs h3;have hdl := zaV hds;have hels := hlen el (zri hel);have hil : i < es.length := (zrf.1 hel).1;have hrow : co (g.C k) + (i + 1) * s <= cur.size := Nat.le_trans (Nat.add_le_add_left (Nat.mul_le_mul_right _ (by omega)) _) hsz
          have hol : co (g.C k) + i * s + j + u.cells.toList.length <= cur.size := by rw [hcd.1, <- hdl]; rw [Nat.add_mul] at hrow; omega
          have hal : zac g m k := by simp [zac, hm, hN]
          have hwc : (el.withCells (zaF el.cells j ds)).cells = zaF el.cells j ds := by
            refine ze8 (zaI _ _ _) λ d hd => ?_;obtain ⟨q, hq⟩ := List.mem_iff_getElem?.1 hd;rw [zaH _ _ _ _ (by omega)] at hq
            split at hq
            . have hlt : q - j < cs.length := by rw [<- hdl]; exact (zrf.1 hq).1
              obtain ⟨s', hs'⟩ := zb2 hds (zrg hlt) hq;exact zf9 (List.all_eq_true.1 h3 _ (List.getElem_mem hlt)) hs'
            . obtain ⟨u', _, h5, h6⟩ := hcell i q el d hel hq
              cases h6 <;> first | rfl | simp [Value.oneCell'] at h5
          refine ze7 (bl := .row t' s (es.set i (el.withCells (zaF el.cells j ds)))) hs ho hal hh (hrun _ (zbO hT hh hzz (by rw [hcd.1, <- hdl, h1]) hol λ i u hu => (hcd.2 i u _ hu (zrg (by rw [<- hcd.1]; exact (zrf.1 hu).1))).1)) (.inr ⟨hN, _, ⟨zz, setRow_heap w _ _ _ _ _ hh, by have := zbu cur.toList u.cells.toList (co (g.C k) + i * s + j) (by simpa using hol); rw [List.size_toArray, this, Array.length_toList]; exact hzz⟩, ?_, by simpa using hle, hmx, ?_, ?_⟩) (by simp) (by simp [Blk.ids]) h
          . have := zbu cur.toList u.cells.toList (co (g.C k) + i * s + j) (by simpa using hol)
            rw [List.size_toArray, this, Array.length_toList]; exact hsz
          . intro d hd
            rcases List.mem_or_eq_of_mem_set hd with hd | rfl
            . exact hlen d hd
            . rw [hwc, zaI, hels]
          . intro i' q el' d hel' hd
            have hF : ∀ b, g.F b -> (w.setRow (g.β k) ((cur.toList.take (co (g.C k) + i * s + j) ++ u.cells.toList ++ cur.toList.drop (co (g.C k) + i * s + j + u.cells.toList.length)).toArray)).heap[b]? = w.heap[b]? := λ b hb => setRow_other w _ b _ λ e => hs.mem.hot k hal (e ▸ hb)
            have conv : ∀ p : Nat, ((cur.toList.take (co (g.C k) + i * s + j) ++ u.cells.toList ++ cur.toList.drop (co (g.C k) + i * s + j + u.cells.toList.length)).toArray)[p]? = if co (g.C k) + i * s + j <= p /\ p < co (g.C k) + i * s + j + ds.length then u.cells.toList[p - (co (g.C k) + i * s + j)]? else cur[p]? := by
              intro p;rw [List.getElem?_toArray, zbT _ _ _ _ (by simpa using hol), hcd.1, hdl];simp
            by_cases hii : i' = i
            . subst hii
              rw [List.getElem?_set_self hil] at hel';simp only [Option.some.injEq] at hel';subst hel';rw [hwc, zaH _ _ _ _ (by omega)] at hd;by_cases hin : j <= q /\ q < j + ds.length
              . rw [if_pos hin] at hd
                have hlt : q - j < u.cells.toList.length := by rw [hcd.1, <- hdl]; omega
                have hlt' : q - j < cs.length := by omega
                refine ⟨u.cells.toList[q - j], ?_, (hcd.2 _ _ _ (zrg hlt) (zrg hlt')).1, (zbe (λ i u y hu hy => .inr (hcd.2 i u y hu hy).2) hcd.1 hds _ _ d (zrg hlt) hd).mono (λ _ h => h) hF⟩;rw [conv, if_pos (by omega), <- zrg hlt]
                congr 1; omega
              . rw [if_neg hin] at hd
                obtain ⟨u', h4, h5, h6⟩ := hcell i' q el d hel hd;exact ⟨u', by rw [conv, if_neg (by omega)]; exact h4, h5, h6.mono (λ _ h => h) hF⟩
            . rw [List.getElem?_set_ne (Ne.symm hii)] at hel'
              obtain ⟨u', h4, h5, h6⟩ := hcell i' q el' d hel' hd;refine ⟨u', ?_, h5, h6.mono (λ _ h => h) hF⟩
              have hq : q < s := by rw [<- hlen el' (zri hel')]; exact (zrf.1 hd).1
              rw [conv, if_neg ?_]
              . exact h4
              . rintro ⟨ha, hb⟩
                rcases Nat.lt_or_gt_of_ne hii with hlt | hgt
                . have : (i' + 1) * s <= i * s := Nat.mul_le_mul_right _ hlt
                  rw [Nat.add_mul] at this; omega
                . have : (i + 1) * s <= i' * s := Nat.mul_le_mul_right _ hgt
                  rw [Nat.add_mul] at this; omega
    | _ => rw [hm] at h; exact h.elim
  | _ => exact h.elim
end
end Go.Vc
