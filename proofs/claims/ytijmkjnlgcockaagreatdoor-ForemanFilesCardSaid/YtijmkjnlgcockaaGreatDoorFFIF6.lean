/-
  A library for proofs about Go functions by symbolic evaluation,and plain Lean functions that the walked Go functions compute (written by a program of this claim).
-/
import Derived.Test.YtijmkjnlgcockaaGreatDoorFFIF5
set_option linter.unusedVariables false
set_option linter.unnecessarySimpa false
set_option linter.unusedSimpArgs false
namespace Go.Vc
open Go.Proofs
inductive Ln where
 | stone (a n:Nat)
 | edition (e:Nat)
 | draw (a e:Nat)
 | paper (e n:Nat)
 | print (a n k:Nat)
 | close (e:Nat)
 | claim (c e n:Nat)
 | deliver (c e n:Nat)
 | grind (a:Nat)
 deriving DecidableEq
abbrev Nm:=Nat->Nat->ByteArray
def nm0:Nm:=λ k i=>strC ((match k,i with
 | 0,0=>[97]|0,1=>[98]|0,_=>[99]
 | 1,0=>[109,97,112]|1,_=>[111,100,101]
 | _,0=>[97,110,110]|_,1=>[98,111,98]|_,_=>[99,121]))
def num (n:Nat):ByteArray:=⟨(digs 7 n).toArray⟩
def sp:ByteArray:=strC [32]
def txt (t:Nm):Ln->ByteArray
 | .stone a n=>strC [115,116,111,110,101,32]++t 0 a++sp++num n
 | .edition e=>strC [101,100,105,116,105,111,110,32]++t 1 e
 | .draw a e=>strC [100,114,97,119,32]++t 0 a++sp++t 1 e
 | .paper e n=>strC [112,97,112,101,114,32]++t 1 e++sp++num n
 | .print a n k=>strC [112,114,105,110,116,32]++t 0 a++sp++num n++sp++num k
 | .close e=>strC [99,108,111,115,101,32]++t 1 e
 | .claim c e n=>strC [99,108,97,105,109,32]++t 2 c++sp++t 1 e++sp++num n
 | .deliver c e n=>strC [100,101,108,105,118,101,114,32]++t 2 c++sp++t 1 e++sp++num n
 | .grind a=>strC [103,114,105,110,100,32]++t 0 a
def ord (t:Nm):Ln->I97
 | .stone a n=>.c199 ⟨t 0 a,n⟩
 | .edition e=>.c201 ⟨t 1 e⟩
 | .draw a e=>.c203 ⟨t 0 a,t 1 e⟩
 | .paper e n=>.c205 ⟨t 1 e,n⟩
 | .print a n k=>.c207 ⟨t 0 a,n,k⟩
 | .close e=>.c209 ⟨t 1 e⟩
 | .claim c e n=>.c211 ⟨t 2 c,t 1 e,n⟩
 | .deliver c e n=>.c213 ⟨⟨t 2 c,t 1 e,n⟩⟩
 | .grind a=>.c215 ⟨t 0 a⟩
def Ln.ok:Ln->Prop
 | .stone a n=>a<3/\1<=n/\n<=9
 | .edition e=>e<2
 | .draw a e=>a<3/\e<2
 | .paper e n=>e<2/\1<=n/\n<=20
 | .print a n k=>a<3/\1<=n/\n<=9/\k<=2
 | .close e=>e<2
 | .claim c e n=>c<3/\e<2/\1<=n/\n<=9
 | .deliver c e n=>c<3/\e<2/\1<=n/\n<=9
 | .grind a=>a<3
def zx:List Ln :=
 let A:=List.range 3;let E:=List.range 2;let M:=(List.range 9).map (· + 1);let K:=List.range 3
 A.flatMap (λ a=>M.map λ n=>.stone a n)++(E.map .edition++(A.flatMap (λ a=>E.map λ e=>.draw a e)++(E.flatMap (λ e=>((List.range 20).map (· + 1)).map λ n=>.paper e n) ++
 (A.flatMap (λ a=>M.flatMap λ n=>K.map λ k=>.print a n k)++(E.map .close++(A.flatMap (λ c=>E.flatMap λ e=>M.map λ n=>.claim c e n)++(A.flatMap (λ c=>E.flatMap λ e=>M.map λ n=>.deliver c e n)++A.map .grind)))))))
theorem zsF {l:Ln}(h:l.ok):l∈zx:=by
 have hM:∀ n,1<=n->n<=9->∃ m,m<9/\m+1=n:=λ n h1 h2=>⟨n-1,by omega,by omega⟩;have hP:∀ n,1<=n->n<=20->∃ m,m<20/\m+1=n:=λ n h1 h2=>⟨n-1,by omega,by omega⟩;unfold zx
 cases l <;> simp only[Ln.ok] at h <;> simp only[List.mem_append,List.mem_flatMap,List.mem_map,List.mem_range,reduceCtorEq,and_false,exists_false,false_or,or_false,Ln.stone.injEq,Ln.edition.injEq,Ln.draw.injEq,Ln.paper.injEq,Ln.print.injEq,Ln.close.injEq,Ln.claim.injEq,Ln.deliver.injEq,Ln.grind.injEq]
 case stone a n=>simp_all
 case edition e=>grind
 case draw a e=>simp_all
 case paper e n=>simp_all
 case print a n k=>exact⟨a,h.1,n,hM n h.2.1 h.2.2.1,k,by omega,rfl,rfl,rfl⟩
 case close e=>grind
 case claim c e n=>exact⟨c,h.1,e,h.2.1,n,hM n h.2.2.1 h.2.2.2,rfl,rfl,rfl⟩
 case deliver c e n=>exact⟨c,h.1,e,h.2.1,n,hM n h.2.2.1 h.2.2.2,rfl,rfl,rfl⟩
 grind
def zxa (t:Nm)(l:Ln):Bool:=match f79 198 (txt t l) with
 | some (o,e)=>decide (o=ord t l)&&decide (e=0)
 | none=>false
theorem zsG:zx.all (zxa nm0)=true:=by kernel_rfl
theorem zuQ {t:Nm}{l:Ln}(h:zxa t l=true):f79 198 (txt t l)=some (ord t l,0):=by
 unfold zxa at h
 grind
theorem zxb {l:Ln}(h:l.ok):f79 198 (txt nm0 l)=some (ord nm0 l,0):=zuQ (List.all_eq_true.1 zsG l (zsF h))
end Go.Vc
