/-
  A library for proofs about Go functions by symbolic evaluation,and plain Lean functions that the walked Go functions compute (written by a program of this claim).
-/
import Derived.Test.YtijmkjnlgcockaaGreatDoorVc3
import Derived.Test.YtijmkjnlgcockaaGreatDoorProg
import Derived.Test.YtijmkjnlgcockaaGreatDoorVc4
import Derived.Shelf.Strings.Builder1
import Derived.Shelf.Utf8.RuneCount
import Derived.Shelf.Strconv.Atoi
import Derived.Shelf.Strconv.Itoa0
import Derived.Shelf.Strconv.Itoa1
import Derived.Shelf.LaysM
import Derived.Shelf.Strconv.Itoa2
import Derived.Shelf.Strconv.Itoa3
import Derived.Shelf.Strings.Search1
import Derived.Shelf.Strings.Search2
import Derived.Shelf.Strings.Search3
import Derived.Shelf.Strings.Count
import Derived.Shelf.Strings.Shaped
import Derived.Shelf.Strings.LastIndex
import Derived.Shelf.Strings.Prefix
import Derived.Shelf.Strings.Split
import Derived.Shelf.Strings.SplitShaped
import Derived.Shelf.Unicode.Decode
import Derived.Shelf.Strings.RuneCount
import Derived.Shelf.Strings.Explode
import Derived.Shelf.Unicode.DecodeSlow
import Derived.Shelf.Unicode.DecodeAny
import Derived.Ground.Names2Prog
import Derived.Shelf.Slices.Clone
import Derived.Ground.SlgnProg
import Derived.Shelf.SlicesE.Clone
import Derived.Lib.SplitLaws
import Derived.Lib.CutLaws
import Derived.Lib.Builder
import Derived.Laws.Externs
set_option linter.unusedVariables false
set_option linter.unnecessarySimpa false
set_option linter.unusedSimpArgs false
namespace Go.Vc
abbrev zr1 : Nat := 101000101
abbrev zr2 : Nat := 101000106
abbrev zr3 : Nat := 101000100
abbrev zr4 : Nat := 101000102
abbrev zr5 : Nat := 101000104
abbrev zr6 : Nat := 404000103000000007
abbrev zr7 : Nat := 1103000102000000
open Go.Proofs
set_option maxRecDepth 20000
def tyF : Option TI := some ⟨.fn,1,8,false,[0],[.nilFunc],[],false,0⟩
def ty1 : Option TI := some ⟨.ptr,1,8,false,[0],[.pointer none],[],false,0⟩
def ty2 : Option TI := some ⟨.iface,1,16,false,[0],[.nilIface],[],false,0⟩
def ty3 : Option TI := some ⟨(.struct [(0,1,false)]),1,16,true,[0],[.string ⟨#[]⟩],[],false,0⟩
def ty4 : Option TI := some ⟨(.int .i64),1,8,false,[0],[.int .i64 0],[],false,0⟩
def ty5 : Option TI := some ⟨(.int .u64),1,8,false,[0],[.int .u64 0],[],false,0⟩
def ty6 : Option TI := some ⟨(.struct [(0,1,false),(1,1,false),(2,1,false),(3,1,false),(4,1,false)]),5,40,true,[0,0,0,0,0],[.int .i64 0, .int .i64 0, .int .i64 0, .int .i64 0, .int .i64 0],[],false,0⟩
def ty7 : Option TI := some ⟨(.struct [(0,1,false),(1,1,false)]),2,32,true,[0,1],[.pointer none, .slice none 0 0],[],false,0⟩
def ty8 : Option TI := some ⟨(.struct [(0,1,false),(1,1,false),(2,1,false)]),3,64,true,[0,1,1],[.string ⟨#[]⟩, .slice none 0 0, .slice none 0 0],[],false,0⟩
def ty9 : Option TI := some ⟨(.struct [(0,1,false),(1,1,false),(2,1,false)]),3,72,true,[4,7,4],[.slice none 0 0, .slice none 0 0, .slice none 0 0],[],false,0⟩
def ty10 : Option TI := some ⟨(.struct [(0,1,false),(1,1,false),(2,1,false),(3,1,false)]),4,48,true,[0,0,0,0],[.string ⟨#[]⟩, .int .i64 0, .string ⟨#[]⟩, .int .i64 0],[],false,0⟩
def ty11 : Option TI := some ⟨(.struct [(0,1,false),(1,1,false),(2,1,false),(3,1,false),(4,1,false),(5,1,false),(6,1,false)]),7,80,true,[0,0,1,0,0,0,0],[.string ⟨#[]⟩, .bool false, .slice none 0 0, .int .i64 0, .int .i64 0, .int .i64 0, .int .i64 0],[],false,0⟩
def ty12 : Option TI := some ⟨(.struct [(0,1,false),(1,1,false),(2,1,false),(3,1,false),(4,1,false)]),5,72,true,[1,1,0,0,0],[.slice none 0 0, .slice none 0 0, .int .i64 0, .bool false, .map none],[],false,0⟩
def ty13 : Option TI := some ⟨(.struct [(0,1,false),(1,1,false),(2,1,false),(3,1,false)]),4,48,true,[0,0,0,0],[.string ⟨#[]⟩, .string ⟨#[]⟩, .int .i64 0, .int .i64 0],[],false,0⟩
def ty14 : Option TI := some ⟨(.struct [(0,1,false),(1,1,false),(2,1,false)]),3,24,true,[0,0,0],[.map none, .map none, .map none],[],false,0⟩
def ty15 : Option TI := some ⟨(.struct [(0,1,false),(1,1,false)]),2,32,true,[0,1],[.bool false, .slice none 0 0],[],false,0⟩
def ty16 : Option TI := some ⟨(.struct [(0,1,false),(1,1,false)]),2,24,true,[0,0],[.string ⟨#[]⟩, .int .i64 0],[],false,0⟩
def ty17 : Option TI := some ⟨(.struct [(0,1,false),(1,1,false),(2,1,false)]),3,24,true,[0,0,0],[.int .i64 0, .pointer none, .int .i64 0],[],false,0⟩
def ty18 : Option TI := some ⟨(.struct [(0,1,false),(1,1,false),(2,1,false),(3,1,false),(4,1,false),(5,1,false),(6,1,false),(7,1,false),(8,1,false)]),9,96,true,[0,0,1,0,0,0,0,0,0],[.string ⟨#[]⟩, .bool false, .slice none 0 0, .int .i64 0, .int .i64 0, .int .i64 0, .int .i64 0, .map none, .int .i64 0],[],false,0⟩
def ty19 : Option TI := some ⟨(.struct [(0,1,false),(1,1,false),(2,1,false)]),3,48,true,[0,0,0],[.string ⟨#[]⟩, .string ⟨#[]⟩, .nilIface],[],false,0⟩
def ty20 : Option TI := some ⟨(.struct [(0,1,false),(1,1,false)]),2,2,true,[0,0],[.int .u8 0, .int .u8 0],[],false,0⟩
def tyN : Tree (Option TI) := .node .leaf none .leaf
def tyL : Tree (Option TI) := .node .leaf tyF .leaf
def zah : Tree (Option TI) :=
 (.node (.node (.node (.node (.node (.node (.node (.node tyL tyF tyN) tyF (.node tyN tyF (.node .leaf (some ⟨(.arr 0 1 false),0,0,true,[],[],[],false,0⟩) .leaf))) tyF (.node (.node tyN tyF tyN) tyF (.node tyN none tyN))) ty1 (.node (.node (.node tyL tyF tyN) tyF (.node tyN tyF (.node .leaf (some ⟨(.struct [(0,1,false),(1,1,false),(2,1,false),(3,1,false),(4,1,false),(5,1,false),(6,1,false),(7,1,false),(8,1,false),(9,1,false),(10,1,false)]),11,48,true,(List.replicate 11 0),[.int .u64 0, .int .u64 0, .int .u32 0, .int .u8 0, .int .u8 0, .int .u8 0, .int .u8 0, .nilFunc, .pointer none, .int .i32 0, .int .i32 0],[],false,0⟩) .leaf))) tyF (.node (.node tyN tyF (.node .leaf ty1 .leaf)) tyF (.node tyL ty8 .leaf)))) none (.node (.node (.node (.node .leaf ty8 .leaf) tyF tyN) tyF (.node tyL tyF tyL)) ty1 (.node (.node tyL tyF (.node .leaf (some ⟨(.slice 43 1 false),1,24,false,[1],[.slice none 0 0],[],false,0⟩) .leaf)) (some ⟨(.slice 112 4 true),1,24,false,[4],[.slice none 0 0],[],false,0⟩) (.node tyL (some ⟨(.int .u16),1,2,false,[0],[.int .u16 0],[],false,0⟩) tyL)))) ty4 (.node (.node (.node (.node (.node .leaf (some ⟨.ptr,1,8,false,[0],[.pointer none],[],false,5⟩) .leaf) (some ⟨(.slice 5 1 false),1,24,false,[1],[.slice none 0 0],[],false,0⟩) tyL) (some ⟨(.slice 112 4 true),1,24,false,[4],[.slice none 0 0],[("tusche/tuschelaw14.lines", 26)],false,0⟩) (.node (.node .leaf (some ⟨(.slice 153 4 true),1,24,false,[4],[.slice none 0 0],[],false,0⟩) .leaf) tyF (.node .leaf (some ⟨(.slice 155 7 true),1,24,false,[7],[.slice none 0 0],[],false,0⟩) .leaf))) ty1 (.node (.node (.node .leaf (some ⟨(.slice 162 4 true),1,24,false,[4],[.slice none 0 0],[],false,0⟩) .leaf) (some ⟨(.mp 9 77),1,8,false,[0],[.map none],[],false,0⟩) (.node .leaf ty9 .leaf)) tyF (.node (.node .leaf ty9 .leaf) (some ⟨(.mp 9 84),1,8,false,[0],[.map none],[],false,0⟩) tyL))) none (.node (.node (.node tyL none (.node .leaf ty10 .leaf)) (some ⟨(.mp 9 9),1,8,false,[0],[.map none],[],false,0⟩) (.node (.node .leaf ty10 .leaf) tyF (.node .leaf ty11 .leaf))) none (.node (.node (.node .leaf ty11 .leaf) ty1 tyN) (some ⟨(.slice 22 1 false),1,24,false,[1],[.slice none 0 0],[],false,0⟩) (.node tyL (some ⟨(.mp 9 3),1,8,false,[0],[.map none],[],false,0⟩) tyL))))) tyF (.node (.node (.node (.node (.node tyL ty12 tyL) tyF (.node (.node .leaf ty13 .leaf) ty12 (.node .leaf ty13 .leaf))) none (.node (.node tyL tyF tyL) tyF (.node tyL tyF tyL))) (some ⟨.str,1,16,false,[0],[.string ⟨#[]⟩],[],false,0⟩) (.node (.node (.node tyN none tyL) none (.node tyL (some ⟨(.arr 2 1 false),2,32,true,[0,0],[.string ⟨#[]⟩, .string ⟨#[]⟩],[],false,0⟩) tyL)) ty2 (.node (.node tyL none tyN) tyF (.node tyL tyF tyL)))) (some ⟨.bool,1,1,false,[0],[.bool false],[],false,0⟩) (.node (.node (.node (.node tyN tyF tyL) (some ⟨(.slice 3 1 false),1,24,false,[1],[.slice none 0 0],[],false,0⟩) (.node tyL (some ⟨(.arr 2 1 false),2,16,true,[0,0],[.int .i64 0, .int .i64 0],[],false,0⟩) tyL)) (some ⟨(.int .i32),1,4,false,[0],[.int .i32 0],[],false,0⟩) (.node (.node tyN tyF tyL) none (.node (.node .leaf (some ⟨(.arr 24 1 false),24,24,true,(List.replicate 24 0),(List.replicate 24 (.int .u8 0)),[],false,0⟩) .leaf) (some ⟨(.mp 9 113),1,8,false,[0],[.map none],[],false,0⟩) (.node .leaf ty5 .leaf)))) none (.node (.node (.node tyL (some ⟨(.mp 9 114),1,8,false,[0],[.map none],[],false,0⟩) tyL) tyF (.node tyN (some ⟨(.mp 9 4),1,8,false,[0],[.map none],[],false,0⟩) tyL)) (some ⟨(.slice 9 1 false),1,24,false,[1],[.slice none 0 0],[],false,0⟩) (.node (.node tyL ty14 tyL) ty6 (.node tyL ty14 tyL)))))) none (.node (.node (.node (.node (.node (.node tyN ty15 tyN) ty6 (.node tyL ty15 (.node .leaf ty1 .leaf))) tyF (.node (.node tyL ty2 tyL) none (.node tyL ty2 (.node .leaf ty16 .leaf)))) none (.node (.node (.node (.node .leaf (some ⟨(.struct [(0,1,false),(1,1,false)]),2,24,true,[0,0],[.string ⟨#[]⟩, .int .i64 0],[("tusche/foreman.do", 197),("tusche/foreman.wrong", 198)],false,0⟩) .leaf) none (.node .leaf ty3 .leaf)) tyF (.node (.node .leaf (some ⟨(.struct [(0,1,false)]),1,16,true,[0],[.string ⟨#[]⟩],[("tusche/foreman.do", 199),("tusche/foreman.wrong", 200)],false,0⟩) .leaf) tyF (.node .leaf (some ⟨(.struct [(0,1,false),(1,1,false)]),2,32,true,[0,0],[.string ⟨#[]⟩, .string ⟨#[]⟩],[],false,0⟩) .leaf))) ty1 (.node (.node (.node .leaf (some ⟨(.struct [(0,1,false),(1,1,false)]),2,32,true,[0,0],[.string ⟨#[]⟩, .string ⟨#[]⟩],[("tusche/foreman.do", 201),("tusche/foreman.wrong", 202)],false,0⟩) .leaf) tyF (.node .leaf ty16 .leaf)) tyF (.node (.node .leaf (some ⟨(.struct [(0,1,false),(1,1,false)]),2,24,true,[0,0],[.string ⟨#[]⟩, .int .i64 0],[("tusche/foreman.do", 203),("tusche/foreman.wrong", 204)],false,0⟩) .leaf) tyF (.node .leaf (some ⟨(.struct [(0,1,false),(1,1,false),(2,1,false)]),3,32,true,[0,0,0],[.string ⟨#[]⟩, .int .i64 0, .int .i64 0],[],false,0⟩) .leaf))))) (some ⟨(.int .u8),1,1,false,[0],[.int .u8 0],[],false,0⟩) (.node (.node (.node (.node (.node .leaf (some ⟨(.struct [(0,1,false),(1,1,false),(2,1,false)]),3,32,true,[0,0,0],[.string ⟨#[]⟩, .int .i64 0, .int .i64 0],[("tusche/foreman.do", 205),("tusche/foreman.wrong", 206)],false,0⟩) .leaf) tyF (.node .leaf ty3 .leaf)) none (.node (.node .leaf (some ⟨(.struct [(0,1,false)]),1,16,true,[0],[.string ⟨#[]⟩],[("tusche/foreman.do", 207),("tusche/foreman.wrong", 208)],false,0⟩) .leaf) ty1 (.node .leaf (some ⟨(.struct [(0,1,false),(1,1,false),(2,1,false)]),3,40,true,[0,0,0],[.string ⟨#[]⟩, .string ⟨#[]⟩, .int .i64 0],[],false,0⟩) .leaf))) tyF (.node (.node (.node .leaf (some ⟨(.struct [(0,1,false),(1,1,false),(2,1,false)]),3,40,true,[0,0,0],[.string ⟨#[]⟩, .string ⟨#[]⟩, .int .i64 0],[("tusche/foreman.do", 209),("tusche/foreman.wrong", 210)],false,0⟩) .leaf) ty7 (.node .leaf (some ⟨(.struct [(0,3,true)]),3,40,true,[0,0,0],[.string ⟨#[]⟩, .string ⟨#[]⟩, .int .i64 0],[],false,0⟩) .leaf)) tyF (.node (.node .leaf (some ⟨(.struct [(0,3,true)]),3,40,true,[0,0,0],[.string ⟨#[]⟩, .string ⟨#[]⟩, .int .i64 0],[("tusche/foreman.do", 211),("tusche/foreman.wrong", 212)],false,0⟩) .leaf) (some ⟨(.struct [(0,1,false),(1,1,false)]),2,32,true,[0,1],[.pointer none, .slice none 0 0],[],true,0⟩) (.node .leaf ty3 .leaf)))) ty5 (.node (.node (.node (.node .leaf (some ⟨(.struct [(0,1,false)]),1,16,true,[0],[.string ⟨#[]⟩],[("tusche/foreman.do", 214),("tusche/foreman.wrong", 215)],false,0⟩) .leaf) ty2 tyL) tyF (.node tyL ty2 tyL)) ty1 (.node (.node tyL none tyL) tyF (.node tyL tyF tyL))))) ty4 (.node (.node (.node (.node (.node tyL tyF tyL) none (.node tyL (some ⟨(.arr 4 1 false),4,4,true,[0,0,0,0],[.int .u8 0, .int .u8 0, .int .u8 0, .int .u8 0],[],false,0⟩) (.node .leaf (some ⟨(.arr 20 1 false),20,160,true,(List.replicate 20 0),[.int .u64 0, .int .u64 0, .int .u64 0, .int .u64 0, .int .u64 0, .int .u64 0, .int .u64 0, .int .u64 0, .int .u64 0, .int .u64 0, .int .u64 0, .int .u64 0, .int .u64 0, .int .u64 0, .int .u64 0, .int .u64 0, .int .u64 0, .int .u64 0, .int .u64 0, .int .u64 0],[],false,0⟩) .leaf))) tyF (.node (.node (.node .leaf (some ⟨(.int .u32),1,4,false,[0],[.int .u32 0],[],false,0⟩) .leaf) ty1 (.node .leaf (some ⟨(.arr 65 1 false),65,65,true,(List.replicate 65 0),(List.replicate 65 (.int .u8 0)),[],false,0⟩) .leaf)) tyF (.node (.node .leaf ty5 .leaf) ty1 tyL))) none (.node (.node (.node tyN ty17 tyL) none (.node tyL ty17 tyN)) ty4 (.node (.node tyL ty18 (.node .leaf ty19 .leaf)) tyF (.node (.node .leaf ty19 .leaf) ty18 tyL)))) none (.node (.node (.node (.node tyL none tyL) tyF (.node tyL tyF (.node .leaf (some ⟨(.arr 10 1 false),10,10,true,(List.replicate 10 0),[.bool false, .bool false, .bool false, .bool false, .bool false, .bool false, .bool false, .bool false, .bool false, .bool false],[],false,0⟩) .leaf))) tyF (.node (.node tyL tyF tyL) ty1 (.node (.node .leaf ty1 .leaf) ty6 (.node .leaf ty3 .leaf)))) none (.node (.node (.node (.node .leaf ty3 .leaf) none (.node .leaf (some ⟨(.arr 32 1 false),32,32,true,(List.replicate 32 0),(List.replicate 32 (.int .u8 0)),[],false,0⟩) .leaf)) ty7 (.node (.node .leaf (some ⟨(.arr 64 1 false),64,64,true,(List.replicate 64 0),(List.replicate 64 (.int .u8 0)),[],false,0⟩) .leaf) tyF (.node .leaf (some ⟨(.arr 256 1 false),256,256,true,(List.replicate 256 0),(List.replicate 256 (.int .u8 0)),[],false,0⟩) .leaf))) tyF (.node (.node (.node .leaf ty20 .leaf) tyF (.node .leaf ty20 .leaf)) ty7 (.node (.node .leaf (some ⟨(.arr 16 2 true),32,32,true,(List.replicate 32 0),(List.replicate 32 (.int .u8 0)),[],false,0⟩) .leaf) tyF tyN)))))))
theorem tyOK : TyOK Tryz.prog zah := ty_ok (by kernel_rfl)
end Go.Vc
namespace Go.Vc
open Go.Proofs
structure Claiming where
 customer : ByteArray
 edition : ByteArray
 n : Int
 deriving DecidableEq,Inhabited
def Claiming.d (x : Claiming) : D := .agg [strN x.customer,strN x.edition,iN x.n]
structure NewStone where
 name : ByteArray
 thick : Int
 deriving DecidableEq,Inhabited
def NewStone.d (x : NewStone) : D := .agg [strN x.name,iN x.thick]
structure NewEdition where
 name : ByteArray
 deriving DecidableEq,Inhabited
def NewEdition.d (x : NewEdition) : D := .agg [strN x.name]
structure Drawing where
 stone : ByteArray
 edition : ByteArray
 deriving DecidableEq,Inhabited
def Drawing.d (x : Drawing) : D := .agg [strN x.stone,strN x.edition]
structure Paper where
 edition : ByteArray
 n : Int
 deriving DecidableEq,Inhabited
def Paper.d (x : Paper) : D := .agg [strN x.edition,iN x.n]
structure Printing where
 stone : ByteArray
 good : Int
 spoilt : Int
 deriving DecidableEq,Inhabited
def Printing.d (x : Printing) : D := .agg [strN x.stone,iN x.good,iN x.spoilt]
structure Closing where
 edition : ByteArray
 deriving DecidableEq,Inhabited
def Closing.d (x : Closing) : D := .agg [strN x.edition]
structure Delivery where
 claiming : Claiming
 deriving DecidableEq,Inhabited
def Delivery.d (x : Delivery) : D := .agg [strN x.claiming.customer,strN x.claiming.edition,iN x.claiming.n]
structure Grinding where
 stone : ByteArray
 deriving DecidableEq,Inhabited
def Grinding.d (x : Grinding) : D := .agg [strN x.stone]
structure A4u8N where
 e0 : Int
 e1 : Int
 e2 : Int
 e3 : Int
 deriving DecidableEq,Inhabited
def A4u8N.of (l : List Int) : Option A4u8N := match l with
 | [a0,a1,a2,a3]=>some ⟨a0,a1,a2,a3⟩
 | _=>none
theorem A4u8N.of_step {ρ : Type} {r : ρ} {l : List Int} {A : A4u8N -> Option ρ} {K : List D -> Prop} (h : ∀ x,A x = some r -> K [u8N x.e0,u8N x.e1,u8N x.e2,u8N x.e3]) (hF : (A4u8N.of l).bind A = some r) : ∃ cs,zdv 4 ((l.map u8N).drop 0) = some cs /\ K cs := by
 obtain ⟨x,hx,hA⟩ := bind_some hF;unfold A4u8N.of at hx
 split at hx
 .cases hx;exact ⟨_,rfl,h _ hA⟩
 .cases hx
def zbN (l : List Int) : D := .sl 1 (l.map iN)
structure Edition where
 name : ByteArray
 closed : Bool
 places : List Int
 ground : Int
 paper : Int
 delivered : Int
 spoilt : Int
 deriving DecidableEq,Inhabited
def Edition.d (x : Edition) : D := .agg [strN x.name,bN x.closed,zbN x.places,iN x.ground,iN x.paper,iN x.delivered,iN x.spoilt]
structure A2iN where
 e0 : Int
 e1 : Int
 deriving DecidableEq,Inhabited
def A2iN.d (x : A2iN) : D := .agg [iN x.e0,iN x.e1]
def A2iN.of (l : List Int) : Option A2iN := match l with
 | [a0,a1]=>some ⟨a0,a1⟩
 | _=>none
theorem A2iN.of_step {ρ : Type} {r : ρ} {l : List Int} {A : A2iN -> Option ρ} {K : List D -> Prop} (h : ∀ x,A x = some r -> K [iN x.e0,iN x.e1]) (hF : (A2iN.of l).bind A = some r) : ∃ cs,zdv 2 ((l.map iN).drop 0) = some cs /\ K cs := by
 obtain ⟨x,hx,hA⟩ := bind_some hF;unfold A2iN.of at hx
 split at hx
 .cases hx;exact ⟨_,rfl,h _ hA⟩
 .cases hx
structure Stone where
 name : ByteArray
 thick : Int
 on : ByteArray
 place : Int
 deriving DecidableEq,Inhabited
def Stone.d (x : Stone) : D := .agg [strN x.name,iN x.thick,strN x.on,iN x.place]
structure ClaimS where
 customer : ByteArray
 edition : ByteArray
 claimed : Int
 got : Int
 deriving DecidableEq,Inhabited
def ClaimS.d (x : ClaimS) : D := .agg [strN x.customer,strN x.edition,iN x.claimed,iN x.got]
def zoF (l : List Stone) : D := .sl 4 (l.map Stone.d)
def zlH (l : List Edition) : D := .sl 7 (l.map Edition.d)
def zn (l : List ClaimS) : D := .sl 4 (l.map ClaimS.d)
structure StateS where
 stones : List Stone
 editions : List Edition
 claims : List ClaimS
 deriving DecidableEq,Inhabited
def StateS.d (x : StateS) : D := .agg [zoF x.stones,zlH x.editions,zn x.claims]
def zbA (l : List ByteArray) : D := .sl 1 (l.map strN)
structure Order where
 what : ByteArray
 names : List ByteArray
 n : List Int
 deriving DecidableEq,Inhabited
def Order.d (x : Order) : D := .agg [strN x.what,zbA x.names,zbN x.n]
structure Tally where
 Paper : Int
 Delivered : Int
 Spoilt : Int
 Lost : Int
 Rest : Int
 deriving DecidableEq,Inhabited
def Tally.d (x : Tally) : D := .agg [iN x.Paper,iN x.Delivered,iN x.Spoilt,iN x.Lost,iN x.Rest]
def zaA (l : List (List Int)) : D := .sl 1 (l.map zbN)
structure StoneM where
 thick : Int
 of : Option Nat
 place : Int
 deriving DecidableEq,Inhabited
def StoneM.m (x : StoneM) : List MC := [.d (iN x.thick), .p 0 x.of, .d (iN x.place)]
def StoneM.pt (x : StoneM) : D := .pt (zcY x.m)
structure EditionM where
 name : ByteArray
 closed : Bool
 places : List Int
 from_ : Int
 paper : Int
 delivered : Int
 spoilt : Int
 owed : List (ByteArray × Int)
 open_ : Int
 deriving DecidableEq,Inhabited
def EditionM.m (x : EditionM) : List MC := [.d (strN x.name), .d (bN x.closed), .r 3 1 (List.map iN x.places), .d (iN x.from_), .d (iN x.paper), .d (iN x.delivered), .d (iN x.spoilt), .m (encM strN iN x.owed), .d (iN x.open_)]
def EditionM.pt (x : EditionM) : D := .pt (zcY x.m)
inductive I97 where
 | nil
 | c199 (x : NewStone)
 | c201 (x : NewEdition)
 | c203 (x : Drawing)
 | c205 (x : Paper)
 | c207 (x : Printing)
 | c209 (x : Closing)
 | c211 (x : Claiming)
 | c213 (x : Delivery)
 | c215 (x : Grinding)
 deriving DecidableEq,Inhabited
def I97.d : I97 -> D
 | .nil=>.v .nilIface
 | .c199 x=>.ifc 199 (NewStone.d x)
 | .c201 x=>.ifc 201 (NewEdition.d x)
 | .c203 x=>.ifc 203 (Drawing.d x)
 | .c205 x=>.ifc 205 (Paper.d x)
 | .c207 x=>.ifc 207 (Printing.d x)
 | .c209 x=>.ifc 209 (Closing.d x)
 | .c211 x=>.ifc 211 (Claiming.d x)
 | .c213 x=>.ifc 213 (Delivery.d x)
 | .c215 x=>.ifc 215 (Grinding.d x)
theorem I97.fo {x : I97} {K : SV -> Prop} (h : K (.dat x.d)) : zhP (SV.ofD x.d) K := by cases x <;> exact h
theorem I97.fp {x : I97} {K : SV -> Prop} (h : K (.dat x.d)) : zhP (.dat x.d) K := by cases x <;> exact h
def I97.on {β : Type} (x : I97) (a : Option β) (f199 : NewStone -> Option β) (f201 : NewEdition -> Option β) (f203 : Drawing -> Option β) (f205 : Paper -> Option β) (f207 : Printing -> Option β) (f209 : Closing -> Option β) (f211 : Claiming -> Option β) (f213 : Delivery -> Option β) (f215 : Grinding -> Option β) : Option β := match x with
 | .nil=>a
 | .c199 y=>f199 y
 | .c201 y=>f201 y
 | .c203 y=>f203 y
 | .c205 y=>f205 y
 | .c207 y=>f207 y
 | .c209 y=>f209 y
 | .c211 y=>f211 y
 | .c213 y=>f213 y
 | .c215 y=>f215 y
theorem I97.on_step {β : Type} {x : I97} {a : Option β} {f199 : NewStone -> Option β} {f201 : NewEdition -> Option β} {f203 : Drawing -> Option β} {f205 : Paper -> Option β} {f207 : Printing -> Option β} {f209 : Closing -> Option β} {f211 : Claiming -> Option β} {f213 : Delivery -> Option β} {f215 : Grinding -> Option β} {r : β} {P : Prop} (h0 : x = .nil -> a = some r -> P) (h199 : ∀ y,x = .c199 y -> f199 y = some r -> P) (h201 : ∀ y,x = .c201 y -> f201 y = some r -> P) (h203 : ∀ y,x = .c203 y -> f203 y = some r -> P) (h205 : ∀ y,x = .c205 y -> f205 y = some r -> P) (h207 : ∀ y,x = .c207 y -> f207 y = some r -> P) (h209 : ∀ y,x = .c209 y -> f209 y = some r -> P) (h211 : ∀ y,x = .c211 y -> f211 y = some r -> P) (h213 : ∀ y,x = .c213 y -> f213 y = some r -> P) (h215 : ∀ y,x = .c215 y -> f215 y = some r -> P) (hF : I97.on x a f199 f201 f203 f205 f207 f209 f211 f213 f215 = some r) : P := by
 cases x with
 | nil=>exact h0 rfl hF
 | c199 y=>exact h199 y rfl hF
 | c201 y=>exact h201 y rfl hF
 | c203 y=>exact h203 y rfl hF
 | c205 y=>exact h205 y rfl hF
 | c207 y=>exact h207 y rfl hF
 | c209 y=>exact h209 y rfl hF
 | c211 y=>exact h211 y rfl hF
 | c213 y=>exact h213 y rfl hF
 | c215 y=>exact h215 y rfl hF
abbrev LS := List (ByteArray × StoneM)
abbrev LE := List (ByteArray × EditionM)
abbrev LC := List (ByteArray × Bool)
abbrev LB := List ByteArray
abbrev rW (x : LB) : Blk := .row 9 1 (List.map strN x)
abbrev sW (k : List Nat) (x : LS) : Blk := .fam k (encF strN StoneM.m x) []
abbrev eW (x : LE) : Blk := .fam [] (encF strN EditionM.m x) []
abbrev mW (x : LC) : Blk := .mp (encM strN bN x)
end Go.Vc
namespace Go.Proofs
open Go.Shelf
def Tryz.laysM171_ren : Go.Shelf.Ren := ⟨fun | 171=>30 | 243=>60 | 246=>87 | 283=>120 | 284=>121 | 285=>122 | 286=>123 | 129=>150 | 317=>149 | 318=>151 | 319=>152 | 320=>153 | 337=>167 | 338=>168 | n=>n,fun | 3=>3 | 9=>9 | 2=>2 | 4=>4 | 171=>181 | 0=>0 | 53=>182 | 37=>71 | 5=>5 | 173=>185 | 212=>226 | 51=>227 | 20=>20 | 213=>228 | 46=>229 | 232=>248 | 233=>249 | n=>n,fun | 17=>0 | 18=>4 | 19=>5 | n=>n⟩
theorem Tryz.laysM171 : Go.Proofs.LaysM.n171 Tryz.prog Tryz.laysM171_ren := {
  mixed := by kernel_rfl
  f129 := Tryz.func150.trans (congrArg some (by kernel_rfl))
  f171 := Tryz.func30.trans (congrArg some (by kernel_rfl))
  f243 := Tryz.func60.trans (congrArg some (by kernel_rfl))
  f246 := Tryz.func87.trans (congrArg some (by kernel_rfl))
  f283 := Tryz.func120.trans (congrArg some (by kernel_rfl))
  f284 := Tryz.func121.trans (congrArg some (by kernel_rfl))
  f285 := Tryz.func122.trans (congrArg some (by kernel_rfl))
  f286 := Tryz.func123.trans (congrArg some (by kernel_rfl))
  f317 := Tryz.func149.trans (congrArg some (by kernel_rfl))
  f318 := Tryz.func151.trans (congrArg some (by kernel_rfl))
  f319 := Tryz.func152.trans (congrArg some (by kernel_rfl))
  f320 := Tryz.func153.trans (congrArg some (by kernel_rfl))
  f337 := Tryz.func167.trans (congrArg some (by kernel_rfl))
  f338 := Tryz.func168.trans (congrArg some (by kernel_rfl))
  t0 := Tryz.underlying0
  a0 := Tryz.isAgg0
  z0 := Tryz.sizeOf0
  v0 := Tryz.zeroValue0
  t2 := Tryz.underlying2
  a2 := Tryz.isAgg2
  z2 := Tryz.sizeOf2
  v2 := Tryz.zeroValue2
  t3 := Tryz.underlying3
  a3 := Tryz.isAgg3
  z3 := Tryz.sizeOf3
  v3 := Tryz.zeroValue3
  t4 := Tryz.underlying4
  a4 := Tryz.isAgg4
  z4 := Tryz.sizeOf4
  v4 := Tryz.zeroValue4
  t5 := Tryz.underlying5
  a5 := Tryz.isAgg5
  z5 := Tryz.sizeOf5
  v5 := Tryz.zeroValue5
  t9 := Tryz.underlying9
  a9 := Tryz.isAgg9
  z9 := Tryz.sizeOf9
  v9 := Tryz.zeroValue9
  t20 := Tryz.underlying20
  a20 := Tryz.isAgg20
  z20 := Tryz.sizeOf20
  v20 := Tryz.zeroValue20
  t37 := Tryz.underlying71
  a37 := Tryz.isAgg71
  z37 := Tryz.sizeOf71
  v37 := Tryz.zeroValue71
  t46 := Tryz.underlying229
  a46 := Tryz.isAgg229
  z46 := Tryz.sizeOf229
  v46 := Tryz.zeroValue229
  t51 := Tryz.underlying227
  a51 := Tryz.isAgg227
  z51 := Tryz.sizeOf227
  v51 := Tryz.zeroValue227
  t53 := Tryz.underlying182
  a53 := Tryz.isAgg182
  z53 := Tryz.sizeOf182
  v53 := Tryz.zeroValue182
  t171 := Tryz.underlying181
  a171 := Tryz.isAgg181
  z171 := Tryz.sizeOf181
  v171 := Tryz.zeroValue181
  t173 := Tryz.underlying185
  a173 := Tryz.isAgg185
  z173 := Tryz.sizeOf185
  v173 := Tryz.zeroValue185
  t212 := Tryz.underlying226
  a212 := Tryz.isAgg226
  z212 := Tryz.sizeOf226
  v212 := Tryz.zeroValue226
  t213 := Tryz.underlying228
  a213 := Tryz.isAgg228
  z213 := Tryz.sizeOf228
  t232 := Tryz.underlying248
  a232 := Tryz.isAgg248
  z232 := Tryz.sizeOf248
  v232 := Tryz.zeroValue248
  t233 := Tryz.underlying249
  a233 := Tryz.isAgg249
  z233 := Tryz.sizeOf249
  v233 := Tryz.zeroValue249
  g17 := by kernel_rfl
  g18 := by kernel_rfl
  g19 := by kernel_rfl
  i0 := by kernel_rfl
  i2 := by kernel_rfl
  i3 := by kernel_rfl
  i4 := by kernel_rfl
  i5 := by kernel_rfl
  i9 := by kernel_rfl
  i20 := by kernel_rfl
  i37 := by kernel_rfl
  i46 := by kernel_rfl
  i51 := by kernel_rfl
  i53 := by kernel_rfl
  i171 := by kernel_rfl
  i173 := by kernel_rfl
  i212 := by kernel_rfl
  i232 := by kernel_rfl
  i233 := by kernel_rfl
  m17 := by kernel_rfl
  m18 := by kernel_rfl
  m19 := by kernel_rfl }
open Go.RowKit Go.Sort Go.Lib in
theorem Tryz.strconv_Itoa (n : Int) (h0 : -9223372036854775808 <= n) (h1 : n <= 9223372036854775807) (w : World) (htab : Lib.TabIs Tryz.prog w "internal/strconv.uint64pow10" .u64 Lib.pow10Tab) :
  Calls Tryz.prog 30 #[.int .i64 n] w λ e w' => e = .returned (.string ⟨(Lib.itoa n).toArray⟩) /\ ∃ k os,w' = grow (w.drewN k) os := Any.strconv_Itoa Tryz.laysM171 n h0 h1 w htab
def Tryz.lays146_ren : Go.Shelf.Ren := ⟨fun | 146=>73 | 221=>98 | 268=>127 | 138=>128 | 143=>129 | 195=>154 | 197=>155 | 218=>156 | 219=>157 | 260=>169 | 217=>170 | 225=>171 | 224=>172 | 267=>173 | 266=>177 | 314=>178 | n=>n,fun | 9=>9 | 31=>22 | 3=>3 | 4=>4 | 0=>0 | 105=>231 | 21=>21 | 5=>5 | 46=>229 | 119=>250 | 139=>253 | 138=>252 | 146=>254 | 51=>227 | n=>n,fun | 1=>1 | 3=>6 | 4=>7 | n=>n⟩
theorem Tryz.lays146 : Go.Proofs.Lays.n146 Tryz.prog Tryz.lays146_ren := {
  mixed := by kernel_rfl
  f138 := Tryz.func128.trans (congrArg some (by kernel_rfl))
  f143 := Tryz.func129.trans (congrArg some (by kernel_rfl))
  f146 := Tryz.func73.trans (congrArg some (by kernel_rfl))
  f195 := Tryz.func154.trans (congrArg some (by kernel_rfl))
  f197 := Tryz.func155.trans (congrArg some (by kernel_rfl))
  f217 := Tryz.func170.trans (congrArg some (by kernel_rfl))
  f218 := Tryz.func156.trans (congrArg some (by kernel_rfl))
  f219 := Tryz.func157.trans (congrArg some (by kernel_rfl))
  f221 := Tryz.func98.trans (congrArg some (by kernel_rfl))
  f224 := Tryz.func172.trans (congrArg some (by kernel_rfl))
  f225 := Tryz.func171.trans (congrArg some (by kernel_rfl))
  f260 := Tryz.func169.trans (congrArg some (by kernel_rfl))
  f266 := Tryz.func177.trans (congrArg some (by kernel_rfl))
  f267 := Tryz.func173.trans (congrArg some (by kernel_rfl))
  f268 := Tryz.func127.trans (congrArg some (by kernel_rfl))
  f314 := Tryz.func178.trans (congrArg some (by kernel_rfl))
  t0 := Tryz.underlying0
  a0 := Tryz.isAgg0
  z0 := Tryz.sizeOf0
  v0 := Tryz.zeroValue0
  t3 := Tryz.underlying3
  a3 := Tryz.isAgg3
  z3 := Tryz.sizeOf3
  v3 := Tryz.zeroValue3
  t4 := Tryz.underlying4
  a4 := Tryz.isAgg4
  z4 := Tryz.sizeOf4
  v4 := Tryz.zeroValue4
  t5 := Tryz.underlying5
  a5 := Tryz.isAgg5
  z5 := Tryz.sizeOf5
  v5 := Tryz.zeroValue5
  t9 := Tryz.underlying9
  a9 := Tryz.isAgg9
  z9 := Tryz.sizeOf9
  v9 := Tryz.zeroValue9
  t21 := Tryz.underlying21
  a21 := Tryz.isAgg21
  z21 := Tryz.sizeOf21
  v21 := Tryz.zeroValue21
  t31 := Tryz.underlying22
  a31 := Tryz.isAgg22
  z31 := Tryz.sizeOf22
  v31 := Tryz.zeroValue22
  t46 := Tryz.underlying229
  a46 := Tryz.isAgg229
  z46 := Tryz.sizeOf229
  v46 := Tryz.zeroValue229
  t51 := Tryz.underlying227
  a51 := Tryz.isAgg227
  z51 := Tryz.sizeOf227
  v51 := Tryz.zeroValue227
  t105 := Tryz.underlying231
  a105 := Tryz.isAgg231
  z105 := Tryz.sizeOf231
  v105 := Tryz.zeroValue231
  t119 := Tryz.underlying250
  a119 := Tryz.isAgg250
  z119 := Tryz.sizeOf250
  t138 := Tryz.underlying252
  a138 := Tryz.isAgg252
  z138 := Tryz.sizeOf252
  v138 := Tryz.zeroValue252
  t139 := Tryz.underlying253
  a139 := Tryz.isAgg253
  z139 := Tryz.sizeOf253
  v139 := Tryz.zeroValue253
  t146 := Tryz.underlying254
  a146 := Tryz.isAgg254
  z146 := Tryz.sizeOf254
  v146 := Tryz.zeroValue254
  g1 := by kernel_rfl
  g3 := by kernel_rfl
  g4 := by kernel_rfl }
open Go.RowKit Go.Lib in
theorem Tryz.strings_Split (s sep : ByteArray) (m : Int) (w : World) (hs : s.size < 4294967281) (hm : w.cell? ⟨1,0,none⟩ = some (.int .i64 m)) (h1 : 1 <= sep.size) :
  Calls Tryz.prog 73 #[.string s, .string sep] w λ e w' =>
   e = .returned (.slice (some ⟨w.heap.size,0,none⟩) (Lib.countB s sep + 1) (Lib.countB s sep + 1)) /\ w' = w.alloc (.cells ((Lib.splitB sep 0 (Lib.countB s sep) s).map Value.string).toArray 9) := Any.strings_Split Tryz.lays146 (by kernel_rfl) s sep m w hs hm h1
def Tryz.laysM146_ren : Go.Shelf.Ren := ⟨fun | 146=>73 | 221=>98 | 268=>127 | 138=>128 | 143=>129 | 195=>154 | 197=>155 | 218=>156 | 219=>157 | 260=>169 | 217=>170 | 225=>171 | 224=>172 | 267=>173 | 266=>177 | 314=>178 | n=>n,fun | 9=>9 | 31=>22 | 3=>3 | 4=>4 | 0=>0 | 105=>231 | 21=>21 | 5=>5 | 46=>229 | 119=>250 | 139=>253 | 138=>252 | 146=>254 | 51=>227 | n=>n,fun | 1=>1 | 3=>6 | 4=>7 | n=>n⟩
theorem Tryz.laysM146 : Go.Proofs.LaysM.n146 Tryz.prog Tryz.laysM146_ren := {
  mixed := by kernel_rfl
  f138 := Tryz.func128.trans (congrArg some (by kernel_rfl))
  f143 := Tryz.func129.trans (congrArg some (by kernel_rfl))
  f146 := Tryz.func73.trans (congrArg some (by kernel_rfl))
  f195 := Tryz.func154.trans (congrArg some (by kernel_rfl))
  f197 := Tryz.func155.trans (congrArg some (by kernel_rfl))
  f217 := Tryz.func170.trans (congrArg some (by kernel_rfl))
  f218 := Tryz.func156.trans (congrArg some (by kernel_rfl))
  f219 := Tryz.func157.trans (congrArg some (by kernel_rfl))
  f221 := Tryz.func98.trans (congrArg some (by kernel_rfl))
  f224 := Tryz.func172.trans (congrArg some (by kernel_rfl))
  f225 := Tryz.func171.trans (congrArg some (by kernel_rfl))
  f260 := Tryz.func169.trans (congrArg some (by kernel_rfl))
  f266 := Tryz.func177.trans (congrArg some (by kernel_rfl))
  f267 := Tryz.func173.trans (congrArg some (by kernel_rfl))
  f268 := Tryz.func127.trans (congrArg some (by kernel_rfl))
  f314 := Tryz.func178.trans (congrArg some (by kernel_rfl))
  t0 := Tryz.underlying0
  a0 := Tryz.isAgg0
  z0 := Tryz.sizeOf0
  v0 := Tryz.zeroValue0
  t3 := Tryz.underlying3
  a3 := Tryz.isAgg3
  z3 := Tryz.sizeOf3
  v3 := Tryz.zeroValue3
  t4 := Tryz.underlying4
  a4 := Tryz.isAgg4
  z4 := Tryz.sizeOf4
  v4 := Tryz.zeroValue4
  t5 := Tryz.underlying5
  a5 := Tryz.isAgg5
  z5 := Tryz.sizeOf5
  v5 := Tryz.zeroValue5
  t9 := Tryz.underlying9
  a9 := Tryz.isAgg9
  z9 := Tryz.sizeOf9
  v9 := Tryz.zeroValue9
  t21 := Tryz.underlying21
  a21 := Tryz.isAgg21
  z21 := Tryz.sizeOf21
  v21 := Tryz.zeroValue21
  t31 := Tryz.underlying22
  a31 := Tryz.isAgg22
  z31 := Tryz.sizeOf22
  v31 := Tryz.zeroValue22
  t46 := Tryz.underlying229
  a46 := Tryz.isAgg229
  z46 := Tryz.sizeOf229
  v46 := Tryz.zeroValue229
  t51 := Tryz.underlying227
  a51 := Tryz.isAgg227
  z51 := Tryz.sizeOf227
  v51 := Tryz.zeroValue227
  t105 := Tryz.underlying231
  a105 := Tryz.isAgg231
  z105 := Tryz.sizeOf231
  v105 := Tryz.zeroValue231
  t119 := Tryz.underlying250
  a119 := Tryz.isAgg250
  z119 := Tryz.sizeOf250
  t138 := Tryz.underlying252
  a138 := Tryz.isAgg252
  z138 := Tryz.sizeOf252
  v138 := Tryz.zeroValue252
  t139 := Tryz.underlying253
  a139 := Tryz.isAgg253
  z139 := Tryz.sizeOf253
  v139 := Tryz.zeroValue253
  t146 := Tryz.underlying254
  a146 := Tryz.isAgg254
  z146 := Tryz.sizeOf254
  v146 := Tryz.zeroValue254
  g1 := by kernel_rfl
  g3 := by kernel_rfl
  g4 := by kernel_rfl
  i0 := by kernel_rfl
  i3 := by kernel_rfl
  i4 := by kernel_rfl
  i5 := by kernel_rfl
  i9 := by kernel_rfl
  i21 := by kernel_rfl
  i31 := by kernel_rfl
  i46 := by kernel_rfl
  i51 := by kernel_rfl
  i105 := by kernel_rfl
  i138 := by kernel_rfl
  i139 := by kernel_rfl
  i146 := by kernel_rfl
  m1 := by kernel_rfl
  s1_3 := fun w h => Go.Proofs.cell_of_shapedOpen_int (zero := #[.int .i64 0]) (t := 3) h (of_decide_eq_true (by kernel_rfl)) (by kernel_rfl) rfl (by kernel_rfl) (by kernel_rfl) Tryz.underlying3
  m3 := by kernel_rfl
  m4 := by kernel_rfl }
end Go.Proofs
namespace Go.Vc
open Go.Proofs Go.RowKit
def digs : Nat -> Nat -> List UInt8
 | 0,_=>[]
 | f + 1,u=>if u < 10 then [UInt8.ofNat (48 + u)] else digs f (u / 10) ++ [UInt8.ofNat (48 + u % 10)]
theorem zpM : ∀ f u,u < 10 ^ (f + 1) -> digs (f + 1) u = Lib.decDigits u := by
 intro f
 induction f with
 | zero =>
  intro u h;rw [Lib.decDigits,digs]
  have : u < 10 := by simpa using h
  rw [if_pos this,dif_pos this]
 | succ f ih =>
  intro u h;rw [Lib.decDigits,digs];by_cases h1 : u < 10
  .rw [if_pos h1,dif_pos h1]
  .rw [if_neg h1,dif_neg h1,ih (u / 10) (by rw [Nat.pow_succ] at h;omega)]
theorem zoG : ∀ f u,(digs f u).length <= f := by
 intro f
 induction f with
 | zero=>intro u;simp [digs]
 | succ f ih =>
  intro u;rw [digs]
  split
  .simp
  .have := ih (u / 10);simp;omega
def zcy (c : UInt8) : List UInt8 -> List (List UInt8)
 | []=>[[]]
 | b :: l=>bif b == c then [] :: zcy c l else match zcy c l with
  | []=>[[b]]
  | x :: r=>(b :: x) :: r
theorem zlI (c : UInt8) : ∀ l,(zcy c l).length <= l.length + 1 /\ ∀ x,x ∈ zcy c l -> x.length <= l.length := by
 intro l
 induction l with
 | nil=>simp [zcy]
 | cons b l ih =>
  unfold zcy
  cases hb : b == c
  .dsimp only [cond_false]
   split
   .simp
   .rename_i x r h
    rw [h] at ih;refine ⟨by simpa using Nat.le_succ_of_le ih.1, ?_⟩;intro y hy
    rcases List.mem_cons.1 hy with rfl | hy
    .have := ih.2 x (by simp);simp;exact this
    .have := ih.2 y (by simp [hy]);simp;omega
  .dsimp only [cond_true]
   refine ⟨by simpa using ih.1, ?_⟩;intro y hy
   rcases List.mem_cons.1 hy with rfl | hy
   .simp
   .have := ih.2 y hy;simp;omega
theorem zdH (c : UInt8) : ∀ l,(Lib.index l [c] = -1 -> zcy c l = [l]) /\ ∀ i : Nat,Lib.index l [c] = i -> i < l.length /\ zcy c l = l.take i :: zcy c (l.drop (i + 1)) := by
 intro l
 induction l with
 | nil =>
  refine ⟨λ _=>rfl,λ i h=>?_⟩;simp [Lib.index] at h
 | cons b l ih =>
  have hp : ([c] : List UInt8).isPrefixOf (b :: l) = (c == b) := by simp [List.isPrefixOf]
  by_cases hb : b = c
  .subst hb
   have hix : Lib.index (b :: l) [b] = 0 := by rw [Lib.index,hp];simp
   refine ⟨λ h=>by rw [hix] at h;exact absurd h (by decide),λ i h=>?_⟩;rw [hix] at h
   obtain rfl : i = 0 := by omega
   refine ⟨by simp, ?_⟩;rw [zcy];simp
  .have hcb : (c == b) = false := by simpa using Ne.symm hb
   have hbc : (b == c) = false := by simpa using hb
   have hix : Lib.index (b :: l) [c] = if Lib.index l [c] == -1 then -1 else Lib.index l [c] + 1 := by rw [Lib.index,hp,hcb];simp
   have hs : zcy c (b :: l) = match zcy c l with | []=>[[b]] | x :: r=>(b :: x) :: r := by rw [zcy,hbc];rfl
   by_cases hm : Lib.index l [c] = -1
   .rw [if_pos (by simpa using hm)] at hix
    refine ⟨λ _=>by rw [hs,ih.1 hm],λ i h=>by rw [hix] at h;omega⟩
   .rw [if_neg (by simpa using hm)] at hix
    have hge := Lib.index_ge l [c];refine ⟨λ h=>by rw [hix] at h;omega,λ i h=>?_⟩;rw [hix] at h;obtain ⟨j,rfl⟩ : ∃ j,i = j + 1 := ⟨i - 1,by omega⟩;obtain ⟨h1,h2⟩ := ih.2 j (by omega);refine ⟨by simpa using h1, ?_⟩;rw [hs,h2];simp
theorem zqI {a b : ByteArray} (h : a.data.toList = b.data.toList) : a = b := ByteArray.ext (Array.ext' h)
theorem zlJ (c : UInt8) : ∀ (n : Nat) (s : ByteArray),s.size <= n -> Lib.splitB ⟨#[c]⟩ 0 (Lib.countB s ⟨#[c]⟩) s = (zcy c s.data.toList).map λ l=>⟨l.toArray⟩ := by
 intro n
 induction n with
 | zero =>
  intro s hn
  rcases Lib.indexB_cases s ⟨#[c]⟩ with hix | ⟨i,hix,hr⟩
  .have hi : Lib.index s.data.toList [c] = -1 := hix
   rw [Lib.splitB_miss _ _ _ _ hix,(zdH c _).1 hi];rfl
  .have : (⟨#[c]⟩ : ByteArray).size = 1 := rfl
   omega
 | succ n ih =>
  intro s hn
  rcases Lib.indexB_cases s ⟨#[c]⟩ with hix | ⟨i,hix,hr⟩
  .have hi : Lib.index s.data.toList [c] = -1 := hix
   rw [Lib.splitB_miss _ _ _ _ hix,(zdH c _).1 hi];rfl
  .have h1 : (⟨#[c]⟩ : ByteArray).size = 1 := rfl
   have hi : Lib.index s.data.toList [c] = i := hix;have hc := Lib.countB_hit s ⟨#[c]⟩ i (Nat.le_refl 1) hix;have hlen : s.data.toList.length = s.size := rfl
   have hrest : (s.extract (i + 1) s.size).data.toList = s.data.toList.drop (i + 1) := by
    rw [ByteArray.data_extract,Array.toList_extract,List.extract_eq_take_drop,<- hlen];exact List.take_of_length_le (by simp)
   have hfirst : (s.extract 0 i).data.toList = s.data.toList.take i := by
    rw [ByteArray.data_extract,Array.toList_extract,List.extract_eq_take_drop];simp
   rw [hc,Nat.add_comm 1,Lib.splitB_hit _ _ _ _ _ hix,((zdH c _).2 i hi).2,h1,ih _ (by rw [ByteArray.size_extract];omega),hrest,List.map_cons,Nat.add_zero]
   congr 1
   exact zqI hfirst
section
variable {P : Program} {w : World}
theorem zqJ {b : Nat} (hb : P.globalNamed "internal/strconv.uint64pow10" = some b) (hg : Glb P w) : LX P w := by
 obtain ⟨o,ho,h⟩ := hg b (λ o=>∀ w2 : World,w2.heap[b]? = some o -> LX P w2) (λ w' _ hx=>by
  unfold LX Lib.TabIs World.var? at hx;rw [hb] at hx
  cases ho : w'.heap[b]? with
  | none=>simp [ho] at hx
  | some o =>
   refine ⟨o,rfl,λ w2 h2=>?_⟩;unfold LX Lib.TabIs World.var?;rw [hb];simp only [Option.bind_some,h2] at hx ⊢
   simpa [ho] using hx)
 exact h w ho
theorem zoH (w : World) (k : Nat) (os : Array Obj) : Ext w (Go.Sort.grow (w.drewN k) os) := by
 refine ⟨rfl,rfl,rfl, ?_,λ b hb=>?_⟩
 .simp [Go.Sort.grow]
 .show (w.heap ++ os)[b]? = _
  rw [Array.getElem?_append_left hb]
end
theorem zoI : Tryz.prog.globalNamed "internal/strconv.uint64pow10" = some (Tryz.prog.globalNamed "internal/strconv.uint64pow10").get! := by kernel_rfl
theorem zqK {F : Nat -> Prop} {w : World} {v : Value} {n : Int} (h : Rd F w v (iN n)) : v = .int .i64 n /\ IntKind.i64.min <= n /\ n <= IntKind.i64.max := by
 cases h with | v hp=>exact ⟨rfl,hp⟩
end Go.Vc
namespace Go.Vc
open Go.Proofs Go.RowKit
theorem zna : (Tryz.prog.info? 106).map (·.size) = some 2 := by kernel_rfl
theorem zpN : liesAt Tryz.prog Tryz.prog.depth 106 (2 / Tryz.prog.cellsOf 106) 0 106 1 = true := by kernel_rfl
set_option maxHeartbeats 1000000 in
set_option maxRecDepth 100000 in
theorem zpO (b : Nat) (w : World) (h0 : w.cell? ⟨b,0,none⟩ = some (.pointer (some ⟨b,0,none⟩))) :
  Calls Tryz.prog 82 #[.pointer (some ⟨b,0,none⟩)] w λ e w' => e = .returned (.tuple #[]) /\ w' = w := by
 obtain ⟨j,hj,_⟩ := Option.map_eq_some_iff.1 zna
 go_enter Tryz.func82,Tryz.ntmps82
 go_wp2
 rw [Lib.run_neq_ptr_same w _ Tryz.underlying104 hj]
 go_wp2
 go_end0
 exact ⟨rfl,rfl⟩
set_option maxHeartbeats 1000000 in
set_option maxRecDepth 100000 in
theorem zoJ (b : Nat) (w : World) (h0 : w.cell? ⟨b,0,none⟩ = some (.pointer none)) (hsh : w.shape? b = some (106,2)) (hfz : w.frozen? ⟨b,0,none⟩ = false) :
  Calls Tryz.prog 82 #[.pointer (some ⟨b,0,none⟩)] w λ e w' => e = .returned (.tuple #[]) /\ w' = w.setCell ⟨b,0,none⟩ (.pointer (some ⟨b,0,none⟩)) := by
 obtain ⟨j,hj,hjs⟩ := Option.map_eq_some_iff.1 zna
 go_enter Tryz.func82,Tryz.ntmps82
 go_wp2
 rw [Lib.run_to_unsafe w ⟨b,0,none⟩ Tryz.underlying104 Tryz.underlying175 hj (by rw [hjs];decide) hsh (Nat.zero_lt_succ 1)];simp only [Result.andThen];rw [Oper.upon_value]
 go_wp2
 rw [run_callFunc_extern Tryz.func115 (by kernel_rfl) (by kernel_rfl) (by kernel_rfl) (e := Extern.AbiNoEscape.same) (by kernel_rfl)];rw [Lib.run_noEscape];simp only [Result.andThen];rw [Oper.upon_value]
 go_wp2
 rw [Lib.run_from_unsafe w ⟨b,0,none⟩ Tryz.underlying175 Tryz.underlying104 hj hsh zpN];simp only [Result.andThen];rw [Oper.upon_value]
 go_wp2
 go_end0
 exact ⟨rfl,rfl⟩
def copyPg (T : TypeId) (xs : List SV) (id : Nat) : Pg := match xs with
 | [.ptr k 0]=>Pg.getB k fun
  | .box [.slf k' t',x]=>when_ (Nat.beq k' k && Nat.beq t' T) (Pg.ret ⟨.tup [],[]⟩)
  | _=>Pg.fail
 | _=>Pg.fail
theorem Local.copyPg (T : TypeId) (xs : List SV) (id : Nat) : Local (copyPg T xs id) := by
 unfold Vc.copyPg
 split
 .refine Local.getB λ x=>?_
  split
  .exact Local.when_ (Local.ret _)
  .exact Local.fail
 .exact Local.fail
theorem ziK {w : World} {b : Nat} {vs : List Value} {t : TypeId} {u v : Value} (h : w.heap[b]? = some (.cells (u :: vs).toArray t (0,0))) : (w.setCell ⟨b,0,none⟩ v).heap[b]? = some (.cells (v :: vs).toArray t (0,0)) := by
 unfold World.setCell;show (w.heap.modify _ _)[b]? = _;rw [Array.getElem?_modify,if_pos rfl,h];simp
theorem zev {w : World} {b i : Nat} {v : Value} (h : i ≠ b) : (w.setCell ⟨b,0,none⟩ v).heap[i]? = w.heap[i]? := by
 unfold World.setCell;show (w.heap.modify _ _)[i]? = _;rw [Array.getElem?_modify,if_neg (Ne.symm h)]
theorem zpP : CallOK Tryz.prog 82 (copyPg 106) := by
 intro fr hfr nt g e m a w xs vs id l K hs hp hl hx hb hpg;unfold copyPg at hpg
 split at hpg
 .rename_i k
  simp only [Pg.getB,zas] at hpg;have hblk := hs.mem.blk k
  cases hm : m k with
  | box cs =>
   rw [hm] at hblk hpg
   have key : ∃ x,cs = [.slf k 106,x] /\ K ⟨.tup [],[]⟩ (.b k :: l) := by
    match cs,hpg with
    | [.slf k' t',x],hpg =>
     obtain ⟨h1,h2⟩ := zai hpg;simp only [Bool.and_eq_true] at h1;obtain rfl := Nat.eq_of_beq_eq_true h1.1;obtain rfl := Nat.eq_of_beq_eq_true h1.2;exact ⟨x,rfl,h2⟩
   obtain ⟨x,rfl,hK⟩ := key;clear hpg
   match vs,hl with
   | [v],_ =>
   have hv := hx 0 v _ rfl rfl
   have hv' : v = .pointer (some ⟨g.β k,0,none⟩) := by
    rcases hv with hv | hv
    .cases hv
    .cases hv;rfl
   subst hv';obtain ⟨us,t,r1,r2,r3,r4⟩ := hblk;obtain rfl : 106 = t := r4 k 106 rfl
   match us,r2 with
   | [u0,u1],_ =>
   have hal : zab g m k := by simp [zab,hm]
   have hfin : ∀ w' : World,SR fr nt g e m a w' -> ∃ v δ l' g',(Ending.returned (.tuple #[])) = .returned v /\ K δ l' /\ SR fr nt g' e (mApp δ.wr m) a w' /\ DenO g' w' v δ.val /\ ∀ k,k ∈ δ.val.ids -> mApp δ.wr m k ≠ .unborn :=
    λ w' h=>⟨_,_,_,g,rfl,hK,h, .inr (Den.tup (vs := []) rfl (by simp)),by simp [SV.ids,SV.idsL]⟩
   cases (r3 0 u0 _ rfl rfl).2 with
   | slfP =>
    refine (zpO (g.β k) w (by simp [World.cell?,r1])).mono ?_;rintro en w' ⟨rfl,rfl⟩;exact hfin _ hs
   | slfN =>
    refine (zoJ (g.β k) w (by simp [World.cell?,r1]) (by simp [World.shape?,r1]) (by simp [World.frozen?,r1])).mono ?_;rintro en w' ⟨rfl,rfl⟩;refine hfin _ ?_;have hF : ∀ b,g.F b -> (w.setCell ⟨g.β k,0,none⟩ (.pointer (some ⟨g.β k,0,none⟩))).heap[b]? = w.heap[b]? := λ b hb=>zev λ h=>hs.mem.hot k hal (h ▸ hb)
    have h2 := hs.setB (k := k) (w' := w.setCell ⟨g.β k,0,none⟩ (.pointer (some ⟨g.β k,0,none⟩))) (b := .box [.slf k 106,x]) hal (λ i hi=>zev hi) (by simp [World.setCell]) rfl rfl rfl
     ⟨[.pointer (some ⟨g.β k,0,none⟩),u1],106,ziK r1,rfl,λ i u y hu hy=>by
      match i,hu,hy with
      | 0,hu,hy =>
       simp only [List.getElem?_cons_zero,Option.some.injEq] at hu hy;subst hu;subst hy;exact ⟨rfl, .slfP⟩
      | i + 1,hu,hy =>
       have := r3 (i + 1) u y (by simpa using hu) (by simpa using hy)
       exact ⟨this.1,this.2.mono (λ _ h=>h) hF λ _ _=>⟨rfl,rfl,rfl,List.prefix_rfl⟩⟩,r4⟩ (by simp) (λ i hi=>hs.bornM k i (by rw [hm];exact hi))
    have em : mApp [(k, .box [.slf k 106,x])] m = m := by
     funext j;rw [za];by_cases hj : k = j
     .subst hj;rw [if_pos rfl,hm]
     .rw [if_neg hj];rfl
    rw [em] at h2;exact h2
  | _=>rw [hm] at hpg;exact hpg.elim
 .exact hpg.elim
theorem zkP {T : Tree (Option TI)} {l : List Ent} (hc : zcu Tryz.prog 82) (h : CtxOK Tryz.prog (zar T l)) : CtxOK Tryz.prog (zar T ((82,true,copyPg 106) :: l)) :=
 zeM hc zpP (λ _ xs id=>Local.copyPg 106 xs id) h
end Go.Vc
namespace Go.Vc
open Go.Proofs
variable {N id : Nat} {ρ : Type} {q : ρ} {xs : List SV} {m : Nat -> Blk} {l : List Loc} {ds : List D} {K : Dl -> List Loc -> Prop} {k0 k1 k2 k3 k4 k5 k6 k7 k8 k9 k10 k11 k12 k13 k14 k15 m0 m1 m2 m3 m4 m5 : Nat}
def f73 (N : Nat) (a0 : ByteArray) (a1 : ByteArray) : Option (LB) :=
 match N with | 0=>none | _ + 1=>(if a0.size <= 1000000 /\ a1.size = 1 then some ((zcy (a1.data.toList.headD 0) a0.data.toList).map λ l=>⟨l.toArray⟩) else none)
def G73 (ds : List D) (d : D) : Prop := ∃ (N : Nat) (a0 : ByteArray) (a1 : ByteArray) (r : LB),ds = [strN a0,strN a1] /\ f73 N a0 a1 = some r /\ d = zbA r
theorem G73.step {a0 a1} {A : _ -> Option ρ} {K : D -> Prop} (hd : ds = [strN a0,strN a1]) (h : ∀ r,A r = some q -> K (zbA r)) (hF : (f73 N a0 a1).bind A = some q) : ∃ d,G73 ds d /\ K d := by
 obtain ⟨r,hr,hA⟩ := bind_some hF;exact ⟨_,⟨N,a0,a1,r,hd,hr,rfl⟩,h r hA⟩
theorem P73 : PureOK Tryz.prog 73 G73 := by
 rintro w Z vs ds d hZ hl hr hg ⟨N,a0,a1,r,rfl,hF,rfl⟩
 rcases N with _ | N
 .cases hF
 simp only [f73] at hF
 split at hF
 .rename_i h
  cases hF
  obtain ⟨v,u,rfl,h1,h2⟩ := zqF hl hr;obtain ⟨rfl,l1⟩ := zoY h1;obtain ⟨rfl,l2⟩ := zoY h2;obtain ⟨c,rfl⟩ := Lib.one_byte a1 h.2;obtain ⟨m,hm⟩ := zpJ hg Go.Proofs.Tryz.laysM146.s1_3;refine (Go.Proofs.Tryz.strings_Split a0 ⟨#[c]⟩ m w (by omega) hm (Nat.le_refl 1)).mono ?_;rintro e w' ⟨rfl,rfl⟩;have hs := zlJ c a0.size a0 (Nat.le_refl _);have hn := Lib.splitB_all ⟨#[c]⟩ (Nat.le_refl 1) 0 _ a0 rfl;rw [hs] at hn ⊢;obtain ⟨b1,b2⟩ := zlI c a0.data.toList;have hz : a0.data.toList.length = a0.size := rfl;generalize hq : (zcy c a0.data.toList).map (λ l=>(⟨l.toArray⟩ : ByteArray)) = q at hn ⊢
  have hql : q.length = (zcy c a0.data.toList).length := by rw [<- hq];simp
  have hp : ∀ x,x ∈ q.map Value.string -> pl x /\ x.oneCell' = true := by
   intro x hx;obtain ⟨y,hy,rfl⟩ := List.mem_map.1 hx;rw [<- hq] at hy;obtain ⟨l,hl,rfl⟩ := List.mem_map.1 hy;refine ⟨?_,rfl⟩;have := b2 l hl;show ByteArray.size _ <= maxLen;simp only [ByteArray.size,List.size_toArray,maxLen];omega
  have ho := zqG (w := w.alloc (.cells (q.map Value.string).toArray 9)) (t := 9) (v := .slice (some ⟨w.heap.size,0,none⟩) (Lib.countB a0 ⟨#[c]⟩ + 1) (Lib.countB a0 ⟨#[c]⟩ + 1)) (n := Lib.countB a0 ⟨#[c]⟩ + 1) (xs := q.map Value.string) (b0 := w.heap.size)
   ⟨by simpa using hn, .inr ⟨w.heap.size,_,_,rfl,Nat.le_refl _,zb2 w _,Nat.le_refl _,by simp only [maxLen];omega,by simpa using hn,by rw [Nat.mul_one,<- hn];exact List.take_of_length_le (by simp)⟩⟩ hp
  refine ⟨_,rfl,Ext.alloc w _, ?_⟩;have := ho.mono (F' := λ b=>Z b ∨ (w.heap.size <= b /\ b < (w.alloc (.cells (q.map Value.string).toArray 9)).heap.size)) (λ b hb=>.inr hb) (λ _ _=>rfl);rw [List.map_map] at this;subst hq;exact this
 .cases hF
def zfP (n2 : Int) : Option (Int × Bool) :=
 some (n2,true)
def zhx : Lp (Int) Unit (Int × Bool) := lp0 ⟨[2],[],[],[]⟩ (λ n2=>[.dat (iN n2)]) (λ _=>[]) (λ n2=>zfP n2)
instance Ef105_c9 {n2} : IsLp 0 1 (zfP n2) (zhx) n2 := ⟨rfl⟩
instance Cf105_c9 : IsCut 1 (zfP) (zhx) 9 := ⟨⟩
def znb (r4 : Int -> Nat -> Option (Int × Bool)) (a0 : ByteArray) (k0 : Int -> Option (Int × Bool)) (n2 : Int) (p301 : Nat) : Option (Int × Bool) :=
 bif decide (p301 < ByteArray.size a0) then ((some (zgt a0 p301)).bind λ x1 =>
 bif decide (x1.1 < (48 : Int)) then (some ((0 : Int),false))
 else (bif decide ((57 : Int) < x1.1) then (some ((0 : Int),false))
 else (r4 (W ((W ((10 : Int) * n2)) + (Wk .i32 (x1.1 - (48 : Int))))) x1.2)))
 else (k0 n2)
def ziL (a0 : ByteArray) (k0 : Int -> Option (Int × Bool)) : Nat -> Int -> Nat -> Option (Int × Bool)
 | 0,_,_=>none
 | n + 1,n2,p301=>znb (ziL a0 k0 n) a0 k0 n2 p301
def znc (a0 : ByteArray) (k0 : Int -> Option (Int × Bool)) : Lp (Nat × Int × Nat) Unit (Int × Bool) := lp0 ⟨[2,23],[301],[],[]⟩ (λ (_,n2,_)=>[.dat (iN n2), .ptr 301 0]) (λ (_,_,p301)=>[.sit a0 p301]) (λ (n,n2,p301)=>ziL a0 k0 n n2 p301)
instance Ef105_4 {a0 k0 n n2 p301} : IsLp 0 2 (ziL a0 k0 n n2 p301) (znc a0 k0) (n,n2,p301) := ⟨rfl⟩
def zeQ (a0 : ByteArray) (N : Nat) : Option (Int × Bool) :=
 zbM zfP λ k0 =>
 ziL a0 k0 N (0 : Int) 0
def zhy (a0 : ByteArray) (N : Nat) : Lp (Unit) Unit (Int × Bool) := lp0 ⟨[0,2],[],[],[]⟩ (λ _=>[.dat (strN a0), .dat (iN (0 : Int))]) (λ _=>[]) (λ _=>zeQ a0 N)
instance Ef105_c3 {a0 N} : IsLp 0 0 (zeQ a0 N) (zhy a0 N) () := ⟨rfl⟩
instance Cf105_c3 {a0 N} : IsCut 0 (zeQ a0 N) (zhy a0 N) 3 := ⟨⟩
def f105 (N : Nat) (a0 : ByteArray) : Option (Int × Bool) :=
 zbM (zeQ a0 N) λ k1 =>
 bif decide (a0 = zgI) then (some ((0 : Int),false))
 else (bif decide ((8 : Int) < (ByteArray.size a0 : Int)) then (some ((0 : Int),false))
 else ((idxS a0 (0 : Int)).bind λ x2 =>
 bif decide (x2 = (48 : Int)) then (bif decide (¬ a0 = (strC [48])) then (some ((0 : Int),false))
 else k1)
 else k1))
def G105 (ds : List D) (d : D) : Prop := ∃ (N : Nat) (a0 : ByteArray) (r : Int × Bool),ds = [strN a0] /\ f105 N a0 = some r /\ d = .tup [iN r.1,bN r.2]
theorem G105.lend {a0} {A : _ -> Option ρ} {K : D -> Prop} (hd : ds = [strN a0]) (h : ∀ r,A r = some q -> K (.tup [iN r.1,bN r.2])) (hF : (f105 N a0).bind A = some q) : ∃ d,(G105 ds d /\ d.flatB = true) /\ K d := by
 obtain ⟨r,hr,hA⟩ := bind_some hF;exact ⟨_,⟨⟨N,a0,r,hd,hr,rfl⟩,rfl⟩,h r hA⟩
set_option maxRecDepth 20000 in
set_option maxHeartbeats 4000000 in
theorem P105 : PureOK Tryz.prog 105 G105 := by
 refine zaE (c := zar zah []) rfl tyOK (zac) [[0],[0]] 1 Tryz.func105 rfl rfl (by decide) (by kernel_rfl) ?_;rintro ds d ⟨N,a0,r,rfl,hF,rfl⟩ hok;clear hok;refine ⟨rfl, ?_⟩;show vc _ _ _ _ ⟨[(0, .dat (strN a0))],[]⟩ _;unfold f105 at hF
 repeat' (first
 | ((with_reducible first | refine q0 _ _ ?_ | refine q1 _ _ _ _ ?_ | refine q2 _ _ _ ?_);clear Q q0 q1 q2)
 | ((with_reducible first | refine zaI ?hx (λ Q q0 q1 q2=>?_));(case hx=>exact rfl);conv=>whnf)
 | ((with_reducible first | refine zbT ?hx ?_ | refine zbw ?hx ?_ | refine zbf ?hx ?_ | refine zbv ?hx ?_);(case hx=>exact rfl))
 | ((with_reducible refine zc5 ?_);(first | ((first | refine zcB rfl ?hy (λ Q q0 q1 q2=>?_) | refine zb4 rfl ?hy (λ Q q0 q1 q2=>?_));(case hy=>first | assumption | exact notT (by assumption) | exact rfl);conv=>whnf) | ((first | refine zb3 rfl ?hy ?_ | refine zbQ rfl ?hy ?_);(case hy=>first | assumption | exact notF (by assumption) | exact rfl)) | (revert hF;(with_reducible first | refine zcC ?hx ?_ ?_ | refine zb5 ?hx ?_ ?_);(case hx=>exact rfl);(intro hc hF Q q0 q1 q2;conv=>whnf);rotate_left;(intro hc hF);rotate_right) | (revert hF;(with_reducible first | refine zcD ?hx ?_ ?_ | refine zb6 ?hx ?_ ?_);(case hx=>exact rfl);(intro hc hF);rotate_left;(intro hc hF Q q0 q1 q2;conv=>whnf);rotate_right)))
 | ((with_reducible refine zaP ?_);(first | ((refine zbb rfl ?hy ?_);(case hy=>first | assumption | exact notT (by assumption) | exact rfl)) | ((refine zbc rfl ?hy ?_);(case hy=>first | assumption | exact notF (by assumption) | exact rfl)) | (revert hF;(with_reducible refine zbP ?hx ?_ ?_);(case hx=>exact rfl);all_goals (intro hc hF))))
 | ((with_reducible refine zay ?_);(first | ((with_reducible refine hR _ ?_);clear R hR) | ((with_reducible refine hL _ ?_);clear L hL)))
 | ((with_reducible first | refine zaK ?_);conv=>whnf)
 | (with_reducible first | refine zaB ?_ | refine zax ?_ | refine zaH ?_ | refine zaM ?_ | refine zak (λ R hR=>?_) | refine zaj ?_ | refine zan ?_ | refine zbO ?_ | refine zav ?_ | refine zap ?_ | refine zaW ?_ | refine zaN ?_)
 | ((with_reducible refine zaz [9,3] ?hx ?_);(case hx=>exact rfl))
 | ((with_reducible replace hF := isE hF);(dsimp only [zhx,znc,zhy,ziL] at hF);first | ((with_reducible replace hF := chkE (e := zeQ ..) hF);rewrite [zeQ] at hF) | rewrite [zfP] at hF | rewrite [znb] at hF)
 | ((with_reducible refine zbn ?_);(with_reducible replace hF := zcA 1 hF);((refine Lp.cutI hF rfl rfl ?_ ?_) <;> clear hF);(intro hF);rotate_left;(rintro _ hF);rotate_right)
 | ((with_reducible refine zbd ?_);(with_reducible replace hF := toLp 0 1 hF);exact Lp.headI hF () ⟨_,rfl,rfl,rfl,rfl⟩ rfl)
 | ((with_reducible refine zbr ?_);(with_reducible replace hF := toLp 0 2 hF);((refine Lp.loopI hF () rfl ⟨_,rfl,rfl,rfl,rfl⟩ rfl (λ _=>rfl) ?_);clear hF);(rintro n ⟨_,_⟩ hF))
 | ((with_reducible refine zbs ?_);(with_reducible replace hF := toLp 0 2 hF);exact Lp.backI hF () ⟨_,rfl,rfl,rfl,rfl⟩ rfl)
 | ((with_reducible refine zbn ?_);(with_reducible replace hF := zcA 0 hF);((refine Lp.cutI hF rfl rfl ?_ ?_) <;> clear hF);(intro hF);rotate_left;(rintro _ hF);rotate_right)
 | ((with_reducible refine zbd ?_);(with_reducible replace hF := toLp 0 0 hF);exact Lp.headI hF () ⟨_,rfl,rfl,rfl,rfl⟩ rfl)
 | ((with_reducible have hI := zm9 hF);clear hI;revert hF;(refine ziC ?_);intro x hF;conv=>whnf)
 | (revert hF;(refine zfM ?_);intro x hF;conv=>whnf)
 | ((with_reducible refine zcq ?_);conv=>whnf)
 | ((with_reducible refine zcR ?hx ?_);(case hx=>first | exact rfl | assumption | exact notT (by assumption));conv=>whnf)
 | ((with_reducible refine zbZ ?hx ?_);(case hx=>first | exact rfl | assumption | exact notF (by assumption));conv=>whnf)
 | (revert hF;(with_reducible refine zbj ?_ ?_) <;> (intro hc hF;conv=>whnf))
 | ((refine ⟨?hx,trivial⟩);(case hx=>(cases hF;exact rfl)))
 | with_reducible refine zbe ?_)
def zgM (a0 : ByteArray) : Option (Bool) :=
 bif decide (¬ a0 = zgI) then (some (decide ((ByteArray.size a0 : Int) <= (9 : Int))))
 else (some (false))
def zj2 (a0 : ByteArray) : Lp (Unit) Unit (Bool) := lp0 ⟨[0],[],[],[]⟩ (λ _=>[.dat (strN a0)]) (λ _=>[]) (λ _=>zgM a0)
instance Ef88_c6 {a0} : IsLp 0 0 (zgM a0) (zj2 a0) () := ⟨rfl⟩
instance Cf88_c6 {a0} : IsCut 0 (zgM a0) (zj2 a0) 6 := ⟨⟩
def zoZ (r2 : Nat -> Option (Bool)) (a0 : ByteArray) (k0 : Option (Bool)) (p101 : Nat) : Option (Bool) :=
 bif decide (p101 < ByteArray.size a0) then ((some (zgt a0 p101)).bind λ x1 =>
 bif decide (x1.1 < (97 : Int)) then (some (false))
 else (bif decide ((122 : Int) < x1.1) then (some (false))
 else (r2 x1.2)))
 else k0
def znd (a0 : ByteArray) (k0 : Option (Bool)) : Nat -> Nat -> Option (Bool)
 | 0,_=>none
 | n + 1,p101=>zoZ (znd a0 k0 n) a0 k0 p101
def zo0 (a0 : ByteArray) (k0 : Option (Bool)) : Lp (Nat × Nat) Unit (Bool) := lp0 ⟨[0,6],[101],[],[]⟩ (λ (_,_)=>[.dat (strN a0), .ptr 101 0]) (λ (_,p101)=>[.sit a0 p101]) (λ (n,p101)=>znd a0 k0 n p101)
instance Ef88_2 {a0 k0 n p101} : IsLp 0 1 (znd a0 k0 n p101) (zo0 a0 k0) (n,p101) := ⟨rfl⟩
def f88 (N : Nat) (a0 : ByteArray) : Option (Bool) :=
 zbM (zgM a0) λ k0 =>
 znd a0 k0 N 0
def G88 (ds : List D) (d : D) : Prop := ∃ (N : Nat) (a0 : ByteArray) (r : Bool),ds = [strN a0] /\ f88 N a0 = some r /\ d = bN r
theorem G88.lend {a0} {A : _ -> Option ρ} {K : D -> Prop} (hd : ds = [strN a0]) (h : ∀ r,A r = some q -> K (bN r)) (hF : (f88 N a0).bind A = some q) : ∃ d,(G88 ds d /\ d.flatB = true) /\ K d := by
 obtain ⟨r,hr,hA⟩ := bind_some hF;exact ⟨_,⟨⟨N,a0,r,hd,hr,rfl⟩,rfl⟩,h r hA⟩
set_option maxRecDepth 20000 in
set_option maxHeartbeats 4000000 in
theorem P88 : PureOK Tryz.prog 88 G88 := by
 refine zaE (c := zar zah []) rfl tyOK (zac) [[0]] 1 Tryz.func88 rfl rfl (by decide) (by kernel_rfl) ?_;rintro ds d ⟨N,a0,r,rfl,hF,rfl⟩ hok;clear hok;refine ⟨rfl, ?_⟩;show vc _ _ _ _ ⟨[(0, .dat (strN a0))],[]⟩ _;unfold f88 at hF
 repeat' (first
 | ((with_reducible first | refine q0 _ _ ?_ | refine q1 _ _ _ _ ?_ | refine q2 _ _ _ ?_);clear Q q0 q1 q2)
 | ((with_reducible first | refine zaI ?hx (λ Q q0 q1 q2=>?_));(case hx=>exact rfl);conv=>whnf)
 | ((with_reducible first | refine zbT ?hx ?_ | refine zbw ?hx ?_ | refine zbf ?hx ?_ | refine zbv ?hx ?_);(case hx=>exact rfl))
 | ((with_reducible refine zc5 ?_);(first | ((first | refine zcB rfl ?hy (λ Q q0 q1 q2=>?_) | refine zb4 rfl ?hy (λ Q q0 q1 q2=>?_));(case hy=>first | assumption | exact notT (by assumption) | exact rfl);conv=>whnf) | ((first | refine zb3 rfl ?hy ?_ | refine zbQ rfl ?hy ?_);(case hy=>first | assumption | exact notF (by assumption) | exact rfl)) | (revert hF;(with_reducible first | refine zcC ?hx ?_ ?_ | refine zb5 ?hx ?_ ?_);(case hx=>exact rfl);(intro hc hF Q q0 q1 q2;conv=>whnf);rotate_left;(intro hc hF);rotate_right) | (revert hF;(with_reducible first | refine zcD ?hx ?_ ?_ | refine zb6 ?hx ?_ ?_);(case hx=>exact rfl);(intro hc hF);rotate_left;(intro hc hF Q q0 q1 q2;conv=>whnf);rotate_right)))
 | ((with_reducible refine zaP ?_);(first | ((refine zbb rfl ?hy ?_);(case hy=>first | assumption | exact notT (by assumption) | exact rfl)) | ((refine zbc rfl ?hy ?_);(case hy=>first | assumption | exact notF (by assumption) | exact rfl)) | (revert hF;(with_reducible refine zbP ?hx ?_ ?_);(case hx=>exact rfl);all_goals (intro hc hF))))
 | ((with_reducible refine zay ?_);(first | ((with_reducible refine hR _ ?_);clear R hR) | ((with_reducible refine hL _ ?_);clear L hL)))
 | (with_reducible first | refine zaB ?_ | refine zax ?_ | refine zaH ?_ | refine zaM ?_ | refine zak (λ R hR=>?_) | refine zaj ?_ | refine zan ?_ | refine zbO ?_ | refine zav ?_ | refine zap ?_ | refine zaW ?_ | refine zaN ?_)
 | ((with_reducible refine zaz [6] ?hx ?_);(case hx=>exact rfl))
 | ((with_reducible replace hF := isE hF);(dsimp only [zj2,zo0,znd] at hF);first | ((with_reducible replace hF := chkE (e := zgM ..) hF);rewrite [zgM] at hF) | rewrite [zoZ] at hF)
 | ((with_reducible refine zbn ?_);(with_reducible replace hF := zcA 0 hF);((refine Lp.cutI hF rfl rfl ?_ ?_) <;> clear hF);(intro hF);rotate_left;(rintro _ hF);rotate_right)
 | ((with_reducible refine zbd ?_);(with_reducible replace hF := toLp 0 0 hF);exact Lp.headI hF () ⟨_,rfl,rfl,rfl,rfl⟩ rfl)
 | ((with_reducible refine zbr ?_);(with_reducible replace hF := toLp 0 1 hF);((refine Lp.loopI hF () rfl ⟨_,rfl,rfl,rfl,rfl⟩ rfl (λ _=>rfl) ?_);clear hF);(rintro n _ hF))
 | ((with_reducible refine zbs ?_);(with_reducible replace hF := toLp 0 1 hF);exact Lp.backI hF () ⟨_,rfl,rfl,rfl,rfl⟩ rfl)
 | (revert hF;(refine zfM ?_);intro x hF;conv=>whnf)
 | ((with_reducible refine zcq ?_);conv=>whnf)
 | ((with_reducible refine zcR ?hx ?_);(case hx=>first | exact rfl | assumption | exact notT (by assumption));conv=>whnf)
 | ((with_reducible refine zbZ ?hx ?_);(case hx=>first | exact rfl | assumption | exact notF (by assumption));conv=>whnf)
 | (revert hF;(with_reducible refine zbj ?_ ?_) <;> (intro hc hF;conv=>whnf))
 | ((refine ⟨?hx,trivial⟩);(case hx=>(cases hF;exact rfl)))
 | with_reducible refine zbe ?_)
def f108 (N : Nat) (a0 : LB) (a1 : A2iN) : Option (I97) :=
 (ix a0 (0 : Int)).bind λ x1 =>
 bif decide (x1 = (strC [115,116,111,110,101])) then ((ix a0 (1 : Int)).bind λ x2 =>
 some ((I97.c199 (NewStone.mk x2 a1.e0))))
 else (bif decide (x1 = (strC [101,100,105,116,105,111,110])) then ((ix a0 (1 : Int)).bind λ x3 =>
 some ((I97.c201 (NewEdition.mk x3))))
 else (bif decide (x1 = (strC [100,114,97,119])) then ((ix a0 (1 : Int)).bind λ x4 =>
 (ix a0 (2 : Int)).bind λ x5 =>
 some ((I97.c203 (Drawing.mk x4 x5))))
 else (bif decide (x1 = (strC [112,97,112,101,114])) then ((ix a0 (1 : Int)).bind λ x6 =>
 some ((I97.c205 (Paper.mk x6 a1.e0))))
 else (bif decide (x1 = (strC [112,114,105,110,116])) then ((ix a0 (1 : Int)).bind λ x7 =>
 some ((I97.c207 (Printing.mk x7 a1.e0 a1.e1))))
 else (bif decide (x1 = (strC [99,108,111,115,101])) then ((ix a0 (1 : Int)).bind λ x8 =>
 some ((I97.c209 (Closing.mk x8))))
 else (bif decide (x1 = (strC [99,108,97,105,109])) then ((ix a0 (1 : Int)).bind λ x9 =>
 (ix a0 (2 : Int)).bind λ x10 =>
 some ((I97.c211 (Claiming.mk x9 x10 a1.e0))))
 else (bif decide (x1 = (strC [100,101,108,105,118,101,114])) then ((ix a0 (1 : Int)).bind λ x11 =>
 (ix a0 (2 : Int)).bind λ x12 =>
 some ((I97.c213 (Delivery.mk (Claiming.mk x11 x12 a1.e0)))))
 else ((ix a0 (1 : Int)).bind λ x13 =>
 some ((I97.c215 (Grinding.mk x13)))))))))))
def G108 (ds : List D) (d : D) : Prop := ∃ (N : Nat) (a0 : LB) (a1 : A2iN) (r : I97),ds = [zbA a0,A2iN.d a1] /\ f108 N a0 a1 = some r /\ d = I97.d r
theorem G108.step {a0 a1} {A : _ -> Option ρ} {K : D -> Prop} (hd : ds = [zbA a0,A2iN.d a1]) (h : ∀ r,A r = some q -> K (I97.d r)) (hF : (f108 N a0 a1).bind A = some q) : ∃ d,G108 ds d /\ K d := by
 obtain ⟨r,hr,hA⟩ := bind_some hF;exact ⟨_,⟨N,a0,a1,r,hd,hr,rfl⟩,h r hA⟩
set_option maxRecDepth 20000 in
set_option maxHeartbeats 4000000 in
theorem P108 : PureOK Tryz.prog 108 G108 := by
 refine zaE (c := zar zah []) rfl tyOK (zac) [[0]] 2 Tryz.func108 rfl rfl (by decide) (by kernel_rfl) ?_;rintro ds d ⟨N,a0,a1,r,rfl,hF,rfl⟩ hok;clear hok;refine ⟨rfl, ?_⟩;show vc _ _ _ _ ⟨[(0, .dat (zbA a0)),(1, .dat (A2iN.d a1))],[]⟩ _;unfold f108 at hF
 repeat' (first
 | ((with_reducible first | refine q0 _ _ ?_ | refine q1 _ _ _ _ ?_ | refine q2 _ _ _ ?_);clear Q q0 q1 q2)
 | ((with_reducible first | refine zaI ?hx (λ Q q0 q1 q2=>?_) | refine za2 ?hx (λ Q q0 q1 q2=>?_));(case hx=>exact rfl);conv=>whnf)
 | ((with_reducible refine zaP ?_);(first | ((refine zbb rfl ?hy ?_);(case hy=>first | assumption | exact notT (by assumption) | exact rfl)) | ((refine zbc rfl ?hy ?_);(case hy=>first | assumption | exact notF (by assumption) | exact rfl)) | (revert hF;(with_reducible refine zbP ?hx ?_ ?_);(case hx=>exact rfl);all_goals (intro hc hF))))
 | ((with_reducible refine zay ?_);(first | ((with_reducible refine hR _ ?_);clear R hR) | ((with_reducible refine hL _ ?_);clear L hL)))
 | ((with_reducible refine zaR ?_);(with_reducible refine hR _ _ ?hx ?_);(case hx=>kernel_rfl);clear R hR)
 | ((with_reducible first | refine zaK ?_ | refine idx2 (by assumption) ?_ | refine idx3 (by assumption) ?_);conv=>whnf)
 | (with_reducible first | refine zaB ?_ | refine zax ?_ | refine zaH ?_ | refine zaM ?_ | refine zak (λ R hR=>?_) | refine zaj ?_ | refine zan ?_ | refine zbO ?_ | refine zav ?_ | refine zap ?_)
 | ((with_reducible refine zaz [] ?hx ?_);(case hx=>exact rfl))
 | ((with_reducible refine za4 ?hx (λ R L hL hR=>?_));(case hx=>exact rfl))
 | (revert hF;(with_reducible refine idx1 ?hn ?_);(case hn=>first | exact rfl | exact (List.length_map _) | assumption | omega | simp);intro x hx hF;conv=>whnf)
 | ((refine ⟨?hx,trivial⟩);(case hx=>(cases hF;exact rfl)))
 | ((refine ⟨?hx, ?_⟩);(case hx=>decide);conv=>whnf)
 | with_reducible refine zbe ?_)
def zpQ (self : NewStone -> LS -> LE -> LC -> Option (Int)) (N : Nat) (s0 : NewStone) (s1 : LS) (s2 : LE) (s3 : LC) : Option (Int) :=
 onO (zbF s0.name s1) ((lenM s1).bind λ x2 =>
 bif decide ((x2 : Int) = (8 : Int)) then (some ((2 : Int)))
 else (some ((0 : Int)))) λ x1 =>
 some ((6 : Int))
def f198 : Nat -> NewStone -> LS -> LE -> LC -> Option (Int)
 | 0,_,_,_,_=>none
 | N + 1,s0,s1,s2,s3=>zpQ (f198 N) N s0 s1 s2 s3
def Af198 (s0 : NewStone) (s1 : LS) (s2 : LE) (s3 : LC) : List SV := [.dat (.agg [strN s0.name,iN s0.thick]), .ptr 0 0]
def Bf198 (s0 : NewStone) (s1 : LS) (s2 : LE) (s3 : LC) : List Blk := [.box [.mp 1, .mp 2, .mp 3],(sW [2] s1),(eW s2),(mW s3)]
def Rf198 (y : Int) : List SV := [.dat (iN y)]
def zqL (s0 : NewStone) (s1 : LS) (s2 : LE) (s3 : LC) (y : Int) : List Blk := [.box [.mp 1, .mp 2, .mp 3],(sW [2] s1),(eW s2),(mW s3)]
def zqM (y : Int) : List Blk := []
def ziM : Spec (NewStone × LS × LE × LC) (Int) := ⟨4,[],λ x=>Af198 x.1 x.2.1 x.2.2.1 x.2.2.2,λ x=>Bf198 x.1 x.2.1 x.2.2.1 x.2.2.2,λ _ y=>Rf198 y,λ x y=>zqL x.1 x.2.1 x.2.2.1 x.2.2.2 y,λ _ y=>zqM y⟩
def H198 (N : Nat) (x : NewStone × LS × LE × LC) (y : Int) : Prop := f198 N x.1 x.2.1 x.2.2.1 x.2.2.2 = some y
def G198 (x : NewStone × LS × LE × LC) (y : Int) : Prop := ∃ N,H198 N x y
theorem G198.step {s1 s2 s3} {s0 : NewStone} {A : _ -> Option ρ} (ha : xs = [.dat (.agg [strN s0.name,iN s0.thick]), .ptr k0 0]) (b0 : m k0 = .box [.mp k1, .mp k2, .mp k3]) (b1 : m k1 = (sW [k2] s1)) (b2 : m k2 = (eW s2)) (b3 : m k3 = (mW s3)) (hu : True) (hn : za6 [k0,k1,k2,k3] = true) (h : ∀ y,A y = some q -> K ⟨.dat (iN y),[(k0, .box [.mp k1, .mp k2, .mp k3]),(k1,(sW [k2] s1)),(k2,(eW s2)),(k3,(mW s3))]⟩ ([Loc.b k0,Loc.b k1,Loc.b k2,Loc.b k3] ++ l)) (hF : (f198 N s0 s1 s2 s3).bind A = some q) : effPg ziM (G198) xs id (λ _=>SV.no) m l K := by
 obtain ⟨y,hy,hA⟩ := bind_some hF;exact zaU [k0,k1,k2,k3] (s0,s1,s2,s3) y _ ⟨N,hy⟩ rfl hn ha (by simp only [List.map_cons,List.map_nil,b0,b1,b2,b3];rfl) rfl rfl rfl (h y hA)
def zqN : Ann := ⟨[0],[0,1,2,3],[],[]⟩
def zpR : Ann := ⟨[0],[0,1,2,3],[],[]⟩
set_option maxRecDepth 20000 in
set_option maxHeartbeats 4000000 in
theorem Q198 (N : Nat) : CallOK Tryz.prog 198 (effPg ziM (H198 N)) := by
 induction N with
 | zero=>exact zaX λ x y h=>(by cases (show (none : Option (Int)) = some y from h))
 | succ N ih =>
  refine zaF (c := zar zah [(198,true,effPg ziM (H198 N))]) rfl tyOK (zao (zaa Tryz.func198 rfl rfl) ih (zac)) 1000 zqN zpR Tryz.func198 rfl rfl (by kernel_rfl) rfl rfl rfl rfl rfl rfl rfl rfl (λ _=>rfl) (λ _=>rfl) (λ _ _=>⟨rfl,rfl⟩) ?_;rintro ⟨s0,s1,s2,s3⟩ y hF;have hF : zpQ (f198 N) N s0 s1 s2 s3 = some y := hF;show vc _ _ _ _ ⟨[(0, .dat (.agg [strN s0.name,iN s0.thick])),(1, .ptr 0 0)],[(0, .box [.mp 1, .mp 2, .mp 3]),(1,(sW [2] s1)),(2,(eW s2)),(3,(mW s3))]⟩ _;unfold zpQ at hF
  repeat' (first
 | ((with_reducible first | refine q0 _ _ ?_ | refine q1 _ _ _ _ ?_ | refine q2 _ _ _ ?_);clear Q q0 q1 q2)
 | ((with_reducible first | refine zaI ?hx (λ Q q0 q1 q2=>?_) | refine za2 ?hx (λ Q q0 q1 q2=>?_));(case hx=>exact rfl);conv=>whnf)
 | ((with_reducible refine zaP ?_);(first | ((refine zbb rfl ?hy ?_);(case hy=>first | assumption | exact notT (by assumption) | exact rfl)) | ((refine zbc rfl ?hy ?_);(case hy=>first | assumption | exact notF (by assumption) | exact rfl)) | (revert hF;(with_reducible refine zbP ?hx ?_ ?_);(case hx=>exact rfl);all_goals (intro hc hF))))
 | ((with_reducible refine zay ?_);(first | ((with_reducible refine hR _ ?_);clear R hR) | ((with_reducible refine hL _ ?_);clear L hL)))
 | ((with_reducible refine zaR ?_);(with_reducible refine hR _ _ ?hx ?_);(case hx=>kernel_rfl);clear R hR)
 | (with_reducible first | refine zaB ?_ | refine zax ?_ | refine zaH ?_ | refine zaM ?_ | refine zak (λ R hR=>?_) | refine zaj ?_ | refine zan ?_ | refine zbO ?_ | refine zav ?_ | refine zap ?_)
 | ((with_reducible refine zaz [] ?hx ?_);(case hx=>exact rfl))
 | ((with_reducible refine za4 ?hx (λ R L hL hR=>?_));(case hx=>exact rfl))
 | (cases hF;(refine Or.inl ?_);(conv=>whnf);exact ⟨rfl,rfl,rfl⟩)
 | (revert hF;(refine zaG (eK := strN) (eM := StoneM.m) zaD ?hk ?hd ?he ?_ ?_);(case hk=>exact λ _=>rfl);(case hd=>exact rfl);(case he=>exact rfl);(intro hl hF;conv=>whnf);rotate_left;(intro i hl hF;conv=>whnf);rotate_right)
 | (revert hF;(refine ziF rfl ?_);intro x hF;conv=>whnf)
 | with_reducible refine zbe ?_)
theorem P198 : CallOK Tryz.prog 198 (effPg ziM G198) := zbE Q198
def zpS (self : NewEdition -> LS -> LE -> LC -> Option (Int)) (N : Nat) (s0 : NewEdition) (s1 : LS) (s2 : LE) (s3 : LC) : Option (Int) :=
 onO (zbF s0.name s2) ((lenM s2).bind λ x2 =>
 bif decide ((x2 : Int) = (5 : Int)) then (some ((2 : Int)))
 else (some ((0 : Int)))) λ x1 =>
 some ((6 : Int))
def f200 : Nat -> NewEdition -> LS -> LE -> LC -> Option (Int)
 | 0,_,_,_,_=>none
 | N + 1,s0,s1,s2,s3=>zpS (f200 N) N s0 s1 s2 s3
def Af200 (s0 : NewEdition) (s1 : LS) (s2 : LE) (s3 : LC) : List SV := [.dat (.agg [strN s0.name]), .ptr 0 0]
def Bf200 (s0 : NewEdition) (s1 : LS) (s2 : LE) (s3 : LC) : List Blk := [.box [.mp 1, .mp 2, .mp 3],(sW [2] s1),(eW s2),(mW s3)]
def Rf200 (y : Int) : List SV := [.dat (iN y)]
def zqO (s0 : NewEdition) (s1 : LS) (s2 : LE) (s3 : LC) (y : Int) : List Blk := [.box [.mp 1, .mp 2, .mp 3],(sW [2] s1),(eW s2),(mW s3)]
def zqP (y : Int) : List Blk := []
def ziN : Spec (NewEdition × LS × LE × LC) (Int) := ⟨4,[],λ x=>Af200 x.1 x.2.1 x.2.2.1 x.2.2.2,λ x=>Bf200 x.1 x.2.1 x.2.2.1 x.2.2.2,λ _ y=>Rf200 y,λ x y=>zqO x.1 x.2.1 x.2.2.1 x.2.2.2 y,λ _ y=>zqP y⟩
def H200 (N : Nat) (x : NewEdition × LS × LE × LC) (y : Int) : Prop := f200 N x.1 x.2.1 x.2.2.1 x.2.2.2 = some y
def G200 (x : NewEdition × LS × LE × LC) (y : Int) : Prop := ∃ N,H200 N x y
theorem G200.step {s1 s2 s3} {s0 : NewEdition} {A : _ -> Option ρ} (ha : xs = [.dat (.agg [strN s0.name]), .ptr k0 0]) (b0 : m k0 = .box [.mp k1, .mp k2, .mp k3]) (b1 : m k1 = (sW [k2] s1)) (b2 : m k2 = (eW s2)) (b3 : m k3 = (mW s3)) (hu : True) (hn : za6 [k0,k1,k2,k3] = true) (h : ∀ y,A y = some q -> K ⟨.dat (iN y),[(k0, .box [.mp k1, .mp k2, .mp k3]),(k1,(sW [k2] s1)),(k2,(eW s2)),(k3,(mW s3))]⟩ ([Loc.b k0,Loc.b k1,Loc.b k2,Loc.b k3] ++ l)) (hF : (f200 N s0 s1 s2 s3).bind A = some q) : effPg ziN (G200) xs id (λ _=>SV.no) m l K := by
 obtain ⟨y,hy,hA⟩ := bind_some hF;exact zaU [k0,k1,k2,k3] (s0,s1,s2,s3) y _ ⟨N,hy⟩ rfl hn ha (by simp only [List.map_cons,List.map_nil,b0,b1,b2,b3];rfl) rfl rfl rfl (h y hA)
def zqQ : Ann := ⟨[0],[0,1,2,3],[],[]⟩
def zpT : Ann := ⟨[0],[0,1,2,3],[],[]⟩
set_option maxRecDepth 20000 in
set_option maxHeartbeats 4000000 in
theorem Q200 (N : Nat) : CallOK Tryz.prog 200 (effPg ziN (H200 N)) := by
 induction N with
 | zero=>exact zaX λ x y h=>(by cases (show (none : Option (Int)) = some y from h))
 | succ N ih =>
  refine zaF (c := zar zah [(200,true,effPg ziN (H200 N))]) rfl tyOK (zao (zaa Tryz.func200 rfl rfl) ih (zac)) 1000 zqQ zpT Tryz.func200 rfl rfl (by kernel_rfl) rfl rfl rfl rfl rfl rfl rfl rfl (λ _=>rfl) (λ _=>rfl) (λ _ _=>⟨rfl,rfl⟩) ?_;rintro ⟨s0,s1,s2,s3⟩ y hF;have hF : zpS (f200 N) N s0 s1 s2 s3 = some y := hF;show vc _ _ _ _ ⟨[(0, .dat (.agg [strN s0.name])),(1, .ptr 0 0)],[(0, .box [.mp 1, .mp 2, .mp 3]),(1,(sW [2] s1)),(2,(eW s2)),(3,(mW s3))]⟩ _;unfold zpS at hF
  repeat' (first
 | ((with_reducible first | refine q0 _ _ ?_ | refine q1 _ _ _ _ ?_ | refine q2 _ _ _ ?_);clear Q q0 q1 q2)
 | ((with_reducible first | refine zaI ?hx (λ Q q0 q1 q2=>?_) | refine za2 ?hx (λ Q q0 q1 q2=>?_));(case hx=>exact rfl);conv=>whnf)
 | ((with_reducible refine zaP ?_);(first | ((refine zbb rfl ?hy ?_);(case hy=>first | assumption | exact notT (by assumption) | exact rfl)) | ((refine zbc rfl ?hy ?_);(case hy=>first | assumption | exact notF (by assumption) | exact rfl)) | (revert hF;(with_reducible refine zbP ?hx ?_ ?_);(case hx=>exact rfl);all_goals (intro hc hF))))
 | ((with_reducible refine zay ?_);(first | ((with_reducible refine hR _ ?_);clear R hR) | ((with_reducible refine hL _ ?_);clear L hL)))
 | ((with_reducible refine zaR ?_);(with_reducible refine hR _ _ ?hx ?_);(case hx=>kernel_rfl);clear R hR)
 | (with_reducible first | refine zaB ?_ | refine zax ?_ | refine zaH ?_ | refine zaM ?_ | refine zak (λ R hR=>?_) | refine zaj ?_ | refine zan ?_ | refine zbO ?_ | refine zav ?_ | refine zap ?_)
 | ((with_reducible refine zaz [] ?hx ?_);(case hx=>exact rfl))
 | ((with_reducible refine za4 ?hx (λ R L hL hR=>?_));(case hx=>exact rfl))
 | (cases hF;(refine Or.inl ?_);(conv=>whnf);exact ⟨rfl,rfl,rfl⟩)
 | (revert hF;(refine zaG (eK := strN) (eM := EditionM.m) zaD ?hk ?hd ?he ?_ ?_);(case hk=>exact λ _=>rfl);(case hd=>exact rfl);(case he=>exact rfl);(intro hl hF;conv=>whnf);rotate_left;(intro i hl hF;conv=>whnf);rotate_right)
 | (revert hF;(refine ziF rfl ?_);intro x hF;conv=>whnf)
 | with_reducible refine zbe ?_)
theorem P200 : CallOK Tryz.prog 200 (effPg ziN G200) := zbE Q200
def zpU (self : Drawing -> LS -> LE -> LC -> Option (Int)) (N : Nat) (s0 : Drawing) (s1 : LS) (s2 : LE) (s3 : LC) : Option (Int) :=
 onO (zbF s0.stone s1) (onO (zbF s0.edition s2) (some ((5 : Int))) λ x2 =>
 some ((5 : Int))) λ x1 =>
 onO (zbF s0.edition s2) (some ((5 : Int))) λ x3 =>
 (getF s1 x1).bind λ x4 =>
 onO x4.of ((getF s2 x3).bind λ x6 =>
 bif x6.closed then (some ((21 : Int)))
 else (some ((0 : Int)))) λ x5 =>
 some ((20 : Int))
def f202 : Nat -> Drawing -> LS -> LE -> LC -> Option (Int)
 | 0,_,_,_,_=>none
 | N + 1,s0,s1,s2,s3=>zpU (f202 N) N s0 s1 s2 s3
def Af202 (s0 : Drawing) (s1 : LS) (s2 : LE) (s3 : LC) : List SV := [.dat (.agg [strN s0.stone,strN s0.edition]), .ptr 0 0]
def Bf202 (s0 : Drawing) (s1 : LS) (s2 : LE) (s3 : LC) : List Blk := [.box [.mp 1, .mp 2, .mp 3],(sW [2] s1),(eW s2),(mW s3)]
def Rf202 (y : Int) : List SV := [.dat (iN y)]
def zqR (s0 : Drawing) (s1 : LS) (s2 : LE) (s3 : LC) (y : Int) : List Blk := [.box [.mp 1, .mp 2, .mp 3],(sW [2] s1),(eW s2),(mW s3)]
def zqS (y : Int) : List Blk := []
def ziO : Spec (Drawing × LS × LE × LC) (Int) := ⟨4,[],λ x=>Af202 x.1 x.2.1 x.2.2.1 x.2.2.2,λ x=>Bf202 x.1 x.2.1 x.2.2.1 x.2.2.2,λ _ y=>Rf202 y,λ x y=>zqR x.1 x.2.1 x.2.2.1 x.2.2.2 y,λ _ y=>zqS y⟩
def H202 (N : Nat) (x : Drawing × LS × LE × LC) (y : Int) : Prop := f202 N x.1 x.2.1 x.2.2.1 x.2.2.2 = some y
def G202 (x : Drawing × LS × LE × LC) (y : Int) : Prop := ∃ N,H202 N x y
theorem G202.step {s1 s2 s3} {s0 : Drawing} {A : _ -> Option ρ} (ha : xs = [.dat (.agg [strN s0.stone,strN s0.edition]), .ptr k0 0]) (b0 : m k0 = .box [.mp k1, .mp k2, .mp k3]) (b1 : m k1 = (sW [k2] s1)) (b2 : m k2 = (eW s2)) (b3 : m k3 = (mW s3)) (hu : True) (hn : za6 [k0,k1,k2,k3] = true) (h : ∀ y,A y = some q -> K ⟨.dat (iN y),[(k0, .box [.mp k1, .mp k2, .mp k3]),(k1,(sW [k2] s1)),(k2,(eW s2)),(k3,(mW s3))]⟩ ([Loc.b k0,Loc.b k1,Loc.b k2,Loc.b k3] ++ l)) (hF : (f202 N s0 s1 s2 s3).bind A = some q) : effPg ziO (G202) xs id (λ _=>SV.no) m l K := by
 obtain ⟨y,hy,hA⟩ := bind_some hF;exact zaU [k0,k1,k2,k3] (s0,s1,s2,s3) y _ ⟨N,hy⟩ rfl hn ha (by simp only [List.map_cons,List.map_nil,b0,b1,b2,b3];rfl) rfl rfl rfl (h y hA)
def zqT : Ann := ⟨[0],[0,1,2,3],[],[]⟩
def zpV : Ann := ⟨[0],[0,1,2,3],[],[]⟩
set_option maxRecDepth 20000 in
set_option maxHeartbeats 4000000 in
theorem Q202 (N : Nat) : CallOK Tryz.prog 202 (effPg ziO (H202 N)) := by
 induction N with
 | zero=>exact zaX λ x y h=>(by cases (show (none : Option (Int)) = some y from h))
 | succ N ih =>
  refine zaF (c := zar zah [(202,true,effPg ziO (H202 N))]) rfl tyOK (zao (zaa Tryz.func202 rfl rfl) ih (zac)) 1000 zqT zpV Tryz.func202 rfl rfl (by kernel_rfl) rfl rfl rfl rfl rfl rfl rfl rfl (λ _=>rfl) (λ _=>rfl) (λ _ _=>⟨rfl,rfl⟩) ?_;rintro ⟨s0,s1,s2,s3⟩ y hF;have hF : zpU (f202 N) N s0 s1 s2 s3 = some y := hF;show vc _ _ _ _ ⟨[(0, .dat (.agg [strN s0.stone,strN s0.edition])),(1, .ptr 0 0)],[(0, .box [.mp 1, .mp 2, .mp 3]),(1,(sW [2] s1)),(2,(eW s2)),(3,(mW s3))]⟩ _;unfold zpU at hF
  repeat' (first
 | ((with_reducible first | refine q0 _ _ ?_ | refine q1 _ _ _ _ ?_ | refine q2 _ _ _ ?_);clear Q q0 q1 q2)
 | ((with_reducible first | refine zaI ?hx (λ Q q0 q1 q2=>?_) | refine za2 ?hx (λ Q q0 q1 q2=>?_));(case hx=>exact rfl);conv=>whnf)
 | ((with_reducible first | refine zbT ?hx ?_ | refine zbw ?hx ?_ | refine zcF ?hx ?_ | refine zcf ?hx ?_ | refine zbf ?hx ?_ | refine zbv ?hx ?_);(case hx=>exact rfl))
 | ((with_reducible refine zaP ?_);(first | ((refine zbb rfl ?hy ?_);(case hy=>first | assumption | exact notT (by assumption) | exact rfl)) | ((refine zbc rfl ?hy ?_);(case hy=>first | assumption | exact notF (by assumption) | exact rfl)) | (revert hF;(with_reducible refine zbP ?hx ?_ ?_);(case hx=>exact rfl);all_goals (intro hc hF))))
 | ((with_reducible refine zay ?_);(first | ((with_reducible refine hR _ ?_);clear R hR) | ((with_reducible refine hL _ ?_);clear L hL)))
 | ((with_reducible refine zaR ?_);(with_reducible refine hR _ _ ?hx ?_);(case hx=>kernel_rfl);clear R hR)
 | (with_reducible first | refine zaB ?_ | refine zax ?_ | refine zaH ?_ | refine zaM ?_ | refine zak (λ R hR=>?_) | refine zaj ?_ | refine zan ?_ | refine zbO ?_ | refine zav ?_ | refine zap ?_)
 | ((with_reducible refine zaz [] ?hx ?_);(case hx=>exact rfl))
 | ((with_reducible refine za4 ?hx (λ R L hL hR=>?_));(case hx=>exact rfl))
 | (cases hF;(refine Or.inl ?_);(conv=>whnf);exact ⟨rfl,rfl,rfl⟩)
 | (revert hF;(refine zaG (eK := strN) (eM := StoneM.m) zaD ?hk ?hd ?he ?_ ?_);(case hk=>exact λ _=>rfl);(case hd=>exact rfl);(case he=>exact rfl);(intro hl hF;conv=>whnf);rotate_left;(intro i hl hF;conv=>whnf);rotate_right)
 | (revert hF;(refine zaG (eK := strN) (eM := EditionM.m) zaD ?hk ?hd ?he ?_ ?_);(case hk=>exact λ _=>rfl);(case hd=>exact rfl);(case he=>exact rfl);(intro hl hF;conv=>whnf);rotate_left;(intro i hl hF;conv=>whnf);rotate_right)
 | ((refine zaO rfl (by assumption) (by exact rfl) ?_);conv=>whnf)
 | ((with_reducible have hG := za7 hF);clear hF;(obtain ⟨⟨x,hx,hF⟩⟩ := hG);first | ((refine zaO rfl hx (by exact rfl) ?_);conv=>whnf) | skip)
 | (revert hF;(refine zdg ?_ ?_);(intro ho hF;conv=>whnf);rotate_left;(intro j ho hF;conv=>whnf);rotate_right)
 | ((with_reducible refine zcR ?hx ?_);(case hx=>first | exact rfl | assumption | exact notT (by assumption));conv=>whnf)
 | ((with_reducible refine zbZ ?hx ?_);(case hx=>first | exact rfl | assumption | exact notF (by assumption));conv=>whnf)
 | with_reducible refine zbe ?_)
theorem P202 : CallOK Tryz.prog 202 (effPg ziO G202) := zbE Q202
def zpW (self : Paper -> LS -> LE -> LC -> Option (Int)) (N : Nat) (s0 : Paper) (s1 : LS) (s2 : LE) (s3 : LC) : Option (Int) :=
 onO (zbF s0.edition s2) (some ((5 : Int))) λ x1 =>
 (getF s2 x1).bind λ x2 =>
 bif decide ((0 : Int) < x2.from_) then (some ((21 : Int)))
 else (bif decide ((5000 : Int) < (W (x2.paper + s0.n))) then (some ((16 : Int)))
 else (some ((0 : Int))))
def f204 : Nat -> Paper -> LS -> LE -> LC -> Option (Int)
 | 0,_,_,_,_=>none
 | N + 1,s0,s1,s2,s3=>zpW (f204 N) N s0 s1 s2 s3
def Af204 (s0 : Paper) (s1 : LS) (s2 : LE) (s3 : LC) : List SV := [.dat (.agg [strN s0.edition,iN s0.n]), .ptr 0 0]
def Bf204 (s0 : Paper) (s1 : LS) (s2 : LE) (s3 : LC) : List Blk := [.box [.mp 1, .mp 2, .mp 3],(sW [2] s1),(eW s2),(mW s3)]
def Rf204 (y : Int) : List SV := [.dat (iN y)]
def zqU (s0 : Paper) (s1 : LS) (s2 : LE) (s3 : LC) (y : Int) : List Blk := [.box [.mp 1, .mp 2, .mp 3],(sW [2] s1),(eW s2),(mW s3)]
def zqV (y : Int) : List Blk := []
def ziP : Spec (Paper × LS × LE × LC) (Int) := ⟨4,[],λ x=>Af204 x.1 x.2.1 x.2.2.1 x.2.2.2,λ x=>Bf204 x.1 x.2.1 x.2.2.1 x.2.2.2,λ _ y=>Rf204 y,λ x y=>zqU x.1 x.2.1 x.2.2.1 x.2.2.2 y,λ _ y=>zqV y⟩
def H204 (N : Nat) (x : Paper × LS × LE × LC) (y : Int) : Prop := f204 N x.1 x.2.1 x.2.2.1 x.2.2.2 = some y
def G204 (x : Paper × LS × LE × LC) (y : Int) : Prop := ∃ N,H204 N x y
theorem G204.step {s1 s2 s3} {s0 : Paper} {A : _ -> Option ρ} (ha : xs = [.dat (.agg [strN s0.edition,iN s0.n]), .ptr k0 0]) (b0 : m k0 = .box [.mp k1, .mp k2, .mp k3]) (b1 : m k1 = (sW [k2] s1)) (b2 : m k2 = (eW s2)) (b3 : m k3 = (mW s3)) (hu : True) (hn : za6 [k0,k1,k2,k3] = true) (h : ∀ y,A y = some q -> K ⟨.dat (iN y),[(k0, .box [.mp k1, .mp k2, .mp k3]),(k1,(sW [k2] s1)),(k2,(eW s2)),(k3,(mW s3))]⟩ ([Loc.b k0,Loc.b k1,Loc.b k2,Loc.b k3] ++ l)) (hF : (f204 N s0 s1 s2 s3).bind A = some q) : effPg ziP (G204) xs id (λ _=>SV.no) m l K := by
 obtain ⟨y,hy,hA⟩ := bind_some hF;exact zaU [k0,k1,k2,k3] (s0,s1,s2,s3) y _ ⟨N,hy⟩ rfl hn ha (by simp only [List.map_cons,List.map_nil,b0,b1,b2,b3];rfl) rfl rfl rfl (h y hA)
def zqW : Ann := ⟨[0],[0,1,2,3],[],[]⟩
def zpX : Ann := ⟨[0],[0,1,2,3],[],[]⟩
set_option maxRecDepth 20000 in
set_option maxHeartbeats 4000000 in
theorem Q204 (N : Nat) : CallOK Tryz.prog 204 (effPg ziP (H204 N)) := by
 induction N with
 | zero=>exact zaX λ x y h=>(by cases (show (none : Option (Int)) = some y from h))
 | succ N ih =>
  refine zaF (c := zar zah [(204,true,effPg ziP (H204 N))]) rfl tyOK (zao (zaa Tryz.func204 rfl rfl) ih (zac)) 1000 zqW zpX Tryz.func204 rfl rfl (by kernel_rfl) rfl rfl rfl rfl rfl rfl rfl rfl (λ _=>rfl) (λ _=>rfl) (λ _ _=>⟨rfl,rfl⟩) ?_;rintro ⟨s0,s1,s2,s3⟩ y hF;have hF : zpW (f204 N) N s0 s1 s2 s3 = some y := hF;show vc _ _ _ _ ⟨[(0, .dat (.agg [strN s0.edition,iN s0.n])),(1, .ptr 0 0)],[(0, .box [.mp 1, .mp 2, .mp 3]),(1,(sW [2] s1)),(2,(eW s2)),(3,(mW s3))]⟩ _;unfold zpW at hF
  repeat' (first
 | ((with_reducible first | refine q0 _ _ ?_ | refine q1 _ _ _ _ ?_ | refine q2 _ _ _ ?_);clear Q q0 q1 q2)
 | ((with_reducible first | refine zaI ?hx (λ Q q0 q1 q2=>?_) | refine za2 ?hx (λ Q q0 q1 q2=>?_));(case hx=>exact rfl);conv=>whnf)
 | ((with_reducible refine zaP ?_);(first | ((refine zbb rfl ?hy ?_);(case hy=>first | assumption | exact notT (by assumption) | exact rfl)) | ((refine zbc rfl ?hy ?_);(case hy=>first | assumption | exact notF (by assumption) | exact rfl)) | (revert hF;(with_reducible refine zbP ?hx ?_ ?_);(case hx=>exact rfl);all_goals (intro hc hF))))
 | ((with_reducible refine zay ?_);(first | ((with_reducible refine hR _ ?_);clear R hR) | ((with_reducible refine hL _ ?_);clear L hL)))
 | ((with_reducible refine zaR ?_);(with_reducible refine hR _ _ ?hx ?_);(case hx=>kernel_rfl);clear R hR)
 | ((with_reducible first | refine zaK ?_);conv=>whnf)
 | (with_reducible first | refine zaB ?_ | refine zax ?_ | refine zaH ?_ | refine zaM ?_ | refine zak (λ R hR=>?_) | refine zaj ?_ | refine zan ?_ | refine zbO ?_ | refine zav ?_ | refine zap ?_)
 | ((with_reducible refine zaz [] ?hx ?_);(case hx=>exact rfl))
 | ((with_reducible refine za4 ?hx (λ R L hL hR=>?_));(case hx=>exact rfl))
 | (cases hF;(refine Or.inl ?_);(conv=>whnf);exact ⟨rfl,rfl,rfl⟩)
 | (revert hF;(refine zaG (eK := strN) (eM := EditionM.m) zaD ?hk ?hd ?he ?_ ?_);(case hk=>exact λ _=>rfl);(case hd=>exact rfl);(case he=>exact rfl);(intro hl hF;conv=>whnf);rotate_left;(intro i hl hF;conv=>whnf);rotate_right)
 | ((refine zaO rfl (by assumption) (by exact rfl) ?_);conv=>whnf)
 | ((with_reducible have hG := za7 hF);clear hF;(obtain ⟨⟨x,hx,hF⟩⟩ := hG);first | ((refine zaO rfl hx (by exact rfl) ?_);conv=>whnf) | skip)
 | with_reducible refine zbe ?_)
theorem P204 : CallOK Tryz.prog 204 (effPg ziP G204) := zbE Q204
def zpY (self : Printing -> LS -> LE -> LC -> Option (Int)) (N : Nat) (s0 : Printing) (s1 : LS) (s2 : LE) (s3 : LC) : Option (Int) :=
 onO (zbF s0.stone s1) (some ((5 : Int))) λ x1 =>
 (getF s1 x1).bind λ x2 =>
 onO x2.of (some ((1 : Int))) λ x3 =>
 bif decide ((W (s0.good + s0.spoilt)) = (0 : Int)) then (some ((1 : Int)))
 else ((getF s2 x3).bind λ x4 =>
 (ix x4.places x2.place).bind λ x5 =>
 (some ()).bind λ _ =>
 bif decide (x5 < (W (s0.good + s0.spoilt))) then (some ((16 : Int)))
 else (some ((0 : Int))))
def f206 : Nat -> Printing -> LS -> LE -> LC -> Option (Int)
 | 0,_,_,_,_=>none
 | N + 1,s0,s1,s2,s3=>zpY (f206 N) N s0 s1 s2 s3
def Af206 (s0 : Printing) (s1 : LS) (s2 : LE) (s3 : LC) : List SV := [.dat (.agg [strN s0.stone,iN s0.good,iN s0.spoilt]), .ptr 0 0]
def Bf206 (s0 : Printing) (s1 : LS) (s2 : LE) (s3 : LC) : List Blk := [.box [.mp 1, .mp 2, .mp 3],(sW [2] s1),(eW s2),(mW s3)]
def Rf206 (y : Int) : List SV := [.dat (iN y)]
def zqX (s0 : Printing) (s1 : LS) (s2 : LE) (s3 : LC) (y : Int) : List Blk := [.box [.mp 1, .mp 2, .mp 3],(sW [2] s1),(eW s2),(mW s3)]
def zqY (y : Int) : List Blk := []
def ziQ : Spec (Printing × LS × LE × LC) (Int) := ⟨4,[],λ x=>Af206 x.1 x.2.1 x.2.2.1 x.2.2.2,λ x=>Bf206 x.1 x.2.1 x.2.2.1 x.2.2.2,λ _ y=>Rf206 y,λ x y=>zqX x.1 x.2.1 x.2.2.1 x.2.2.2 y,λ _ y=>zqY y⟩
def H206 (N : Nat) (x : Printing × LS × LE × LC) (y : Int) : Prop := f206 N x.1 x.2.1 x.2.2.1 x.2.2.2 = some y
def G206 (x : Printing × LS × LE × LC) (y : Int) : Prop := ∃ N,H206 N x y
theorem G206.step {s1 s2 s3} {s0 : Printing} {A : _ -> Option ρ} (ha : xs = [.dat (.agg [strN s0.stone,iN s0.good,iN s0.spoilt]), .ptr k0 0]) (b0 : m k0 = .box [.mp k1, .mp k2, .mp k3]) (b1 : m k1 = (sW [k2] s1)) (b2 : m k2 = (eW s2)) (b3 : m k3 = (mW s3)) (hu : True) (hn : za6 [k0,k1,k2,k3] = true) (h : ∀ y,A y = some q -> K ⟨.dat (iN y),[(k0, .box [.mp k1, .mp k2, .mp k3]),(k1,(sW [k2] s1)),(k2,(eW s2)),(k3,(mW s3))]⟩ ([Loc.b k0,Loc.b k1,Loc.b k2,Loc.b k3] ++ l)) (hF : (f206 N s0 s1 s2 s3).bind A = some q) : effPg ziQ (G206) xs id (λ _=>SV.no) m l K := by
 obtain ⟨y,hy,hA⟩ := bind_some hF;exact zaU [k0,k1,k2,k3] (s0,s1,s2,s3) y _ ⟨N,hy⟩ rfl hn ha (by simp only [List.map_cons,List.map_nil,b0,b1,b2,b3];rfl) rfl rfl rfl (h y hA)
def zqZ : Ann := ⟨[0],[0,1,2,3],[],[]⟩
def zpZ : Ann := ⟨[0],[0,1,2,3],[],[]⟩
set_option maxRecDepth 20000 in
set_option maxHeartbeats 4000000 in
theorem Q206 (N : Nat) : CallOK Tryz.prog 206 (effPg ziQ (H206 N)) := by
 induction N with
 | zero=>exact zaX λ x y h=>(by cases (show (none : Option (Int)) = some y from h))
 | succ N ih =>
  refine zaF (c := zar zah [(206,true,effPg ziQ (H206 N))]) rfl tyOK (zao (zaa Tryz.func206 rfl rfl) ih (zac)) 1000 zqZ zpZ Tryz.func206 rfl rfl (by kernel_rfl) rfl rfl rfl rfl rfl rfl rfl rfl (λ _=>rfl) (λ _=>rfl) (λ _ _=>⟨rfl,rfl⟩) ?_;rintro ⟨s0,s1,s2,s3⟩ y hF;have hF : zpY (f206 N) N s0 s1 s2 s3 = some y := hF;show vc _ _ _ _ ⟨[(0, .dat (.agg [strN s0.stone,iN s0.good,iN s0.spoilt])),(1, .ptr 0 0)],[(0, .box [.mp 1, .mp 2, .mp 3]),(1,(sW [2] s1)),(2,(eW s2)),(3,(mW s3))]⟩ _;unfold zpY at hF
  repeat' (first
 | ((with_reducible first | refine q0 _ _ ?_ | refine q1 _ _ _ _ ?_ | refine q2 _ _ _ ?_);clear Q q0 q1 q2)
 | ((with_reducible first | refine zaI ?hx (λ Q q0 q1 q2=>?_) | refine za2 ?hx (λ Q q0 q1 q2=>?_));(case hx=>exact rfl);conv=>whnf)
 | ((with_reducible first | refine zbT ?hx ?_ | refine zbw ?hx ?_ | refine zcF ?hx ?_ | refine zcf ?hx ?_ | refine zbf ?hx ?_ | refine zbv ?hx ?_);(case hx=>exact rfl))
 | ((with_reducible refine zaP ?_);(first | ((refine zbb rfl ?hy ?_);(case hy=>first | assumption | exact notT (by assumption) | exact rfl)) | ((refine zbc rfl ?hy ?_);(case hy=>first | assumption | exact notF (by assumption) | exact rfl)) | (revert hF;(with_reducible refine zbP ?hx ?_ ?_);(case hx=>exact rfl);all_goals (intro hc hF))))
 | ((with_reducible have hG := zcT hF);(refine zdG 2 1611 rfl rfl rfl (by first | exact zal | exact za8 (by decide) zal) (by assumption) (by exact rfl) ?_);(have hF := hG);clear hG;dsimp only [St.settledF];(first | ((with_reducible refine hR _ ?_);clear R hR) | ((with_reducible refine hL _ ?_);clear L hL)))
 | ((with_reducible refine zay ?_);(first | ((with_reducible refine hR _ ?_);clear R hR) | ((with_reducible refine hL _ ?_);clear L hL)))
 | ((with_reducible refine zaR ?_);(with_reducible refine hR _ _ ?hx ?_);(case hx=>kernel_rfl);clear R hR)
 | ((with_reducible first | refine zaK ?_ | refine idx2 (by assumption) ?_ | refine idx3 (by assumption) ?_);conv=>whnf)
 | (with_reducible first | refine zaB ?_ | refine zax ?_ | refine zaH ?_ | refine zaM ?_ | refine zak (λ R hR=>?_) | refine zaj ?_ | refine zan ?_ | refine zbO ?_ | refine zav ?_ | refine zap ?_)
 | ((with_reducible refine zaz [] ?hx ?_);(case hx=>exact rfl))
 | ((with_reducible refine za4 ?hx (λ R L hL hR=>?_));(case hx=>exact rfl))
 | (cases hF;(refine Or.inl ?_);(conv=>whnf);exact ⟨rfl,rfl,rfl⟩)
 | (revert hF;(refine zaG (eK := strN) (eM := StoneM.m) zaD ?hk ?hd ?he ?_ ?_);(case hk=>exact λ _=>rfl);(case hd=>exact rfl);(case he=>exact rfl);(intro hl hF;conv=>whnf);rotate_left;(intro i hl hF;conv=>whnf);rotate_right)
 | ((refine zaO rfl (by assumption) (by exact rfl) ?_);conv=>whnf)
 | ((with_reducible have hG := za7 hF);clear hF;(obtain ⟨⟨x,hx,hF⟩⟩ := hG);first | ((refine zaO rfl hx (by exact rfl) ?_);conv=>whnf) | skip)
 | ((refine Or.inr ?_);(conv=>whnf);(refine zdU (by first | exact zal | exact za8 (by decide) zal) ?_);conv=>whnf)
 | (revert hF;(refine zdg ?_ ?_);(intro ho hF;conv=>whnf);rotate_left;(intro j ho hF;conv=>whnf);rotate_right)
 | ((refine zeu (by assumption) ?_);conv=>whnf)
 | (revert hF;(with_reducible refine idx1 ?hn ?_);(case hn=>first | exact rfl | exact (List.length_map _) | assumption | omega | simp);intro x hx hF;conv=>whnf)
 | ((with_reducible refine zeO ?hn ?_);(case hn=>first | exact rfl | assumption | omega);conv=>whnf)
 | ((with_reducible refine zcR ?hx ?_);(case hx=>first | exact rfl | assumption | exact notT (by assumption));conv=>whnf)
 | ((with_reducible refine zbZ ?hx ?_);(case hx=>first | exact rfl | assumption | exact notF (by assumption));conv=>whnf)
 | with_reducible refine zbe ?_)
theorem P206 : CallOK Tryz.prog 206 (effPg ziQ G206) := zbE Q206
def zp0 (self : Closing -> LS -> LE -> LC -> Option (Int)) (N : Nat) (s0 : Closing) (s1 : LS) (s2 : LE) (s3 : LC) : Option (Int) :=
 onO (zbF s0.edition s2) (some ((5 : Int))) λ x1 =>
 (getF s2 x1).bind λ x2 =>
 bif x2.closed then (some ((21 : Int)))
 else ((some ()).bind λ _ =>
 bif decide ((List.length x2.places : Int) = (1 : Int)) then (some ((1 : Int)))
 else (some ((0 : Int))))
def f208 : Nat -> Closing -> LS -> LE -> LC -> Option (Int)
 | 0,_,_,_,_=>none
 | N + 1,s0,s1,s2,s3=>zp0 (f208 N) N s0 s1 s2 s3
def Af208 (s0 : Closing) (s1 : LS) (s2 : LE) (s3 : LC) : List SV := [.dat (.agg [strN s0.edition]), .ptr 0 0]
def Bf208 (s0 : Closing) (s1 : LS) (s2 : LE) (s3 : LC) : List Blk := [.box [.mp 1, .mp 2, .mp 3],(sW [2] s1),(eW s2),(mW s3)]
def Rf208 (y : Int) : List SV := [.dat (iN y)]
def zq0 (s0 : Closing) (s1 : LS) (s2 : LE) (s3 : LC) (y : Int) : List Blk := [.box [.mp 1, .mp 2, .mp 3],(sW [2] s1),(eW s2),(mW s3)]
def zq1 (y : Int) : List Blk := []
def ziR : Spec (Closing × LS × LE × LC) (Int) := ⟨4,[],λ x=>Af208 x.1 x.2.1 x.2.2.1 x.2.2.2,λ x=>Bf208 x.1 x.2.1 x.2.2.1 x.2.2.2,λ _ y=>Rf208 y,λ x y=>zq0 x.1 x.2.1 x.2.2.1 x.2.2.2 y,λ _ y=>zq1 y⟩
def H208 (N : Nat) (x : Closing × LS × LE × LC) (y : Int) : Prop := f208 N x.1 x.2.1 x.2.2.1 x.2.2.2 = some y
def G208 (x : Closing × LS × LE × LC) (y : Int) : Prop := ∃ N,H208 N x y
theorem G208.step {s1 s2 s3} {s0 : Closing} {A : _ -> Option ρ} (ha : xs = [.dat (.agg [strN s0.edition]), .ptr k0 0]) (b0 : m k0 = .box [.mp k1, .mp k2, .mp k3]) (b1 : m k1 = (sW [k2] s1)) (b2 : m k2 = (eW s2)) (b3 : m k3 = (mW s3)) (hu : True) (hn : za6 [k0,k1,k2,k3] = true) (h : ∀ y,A y = some q -> K ⟨.dat (iN y),[(k0, .box [.mp k1, .mp k2, .mp k3]),(k1,(sW [k2] s1)),(k2,(eW s2)),(k3,(mW s3))]⟩ ([Loc.b k0,Loc.b k1,Loc.b k2,Loc.b k3] ++ l)) (hF : (f208 N s0 s1 s2 s3).bind A = some q) : effPg ziR (G208) xs id (λ _=>SV.no) m l K := by
 obtain ⟨y,hy,hA⟩ := bind_some hF;exact zaU [k0,k1,k2,k3] (s0,s1,s2,s3) y _ ⟨N,hy⟩ rfl hn ha (by simp only [List.map_cons,List.map_nil,b0,b1,b2,b3];rfl) rfl rfl rfl (h y hA)
def zq2 : Ann := ⟨[0],[0,1,2,3],[],[]⟩
def zp1 : Ann := ⟨[0],[0,1,2,3],[],[]⟩
set_option maxRecDepth 20000 in
set_option maxHeartbeats 4000000 in
theorem Q208 (N : Nat) : CallOK Tryz.prog 208 (effPg ziR (H208 N)) := by
 induction N with
 | zero=>exact zaX λ x y h=>(by cases (show (none : Option (Int)) = some y from h))
 | succ N ih =>
  refine zaF (c := zar zah [(208,true,effPg ziR (H208 N))]) rfl tyOK (zao (zaa Tryz.func208 rfl rfl) ih (zac)) 1000 zq2 zp1 Tryz.func208 rfl rfl (by kernel_rfl) rfl rfl rfl rfl rfl rfl rfl rfl (λ _=>rfl) (λ _=>rfl) (λ _ _=>⟨rfl,rfl⟩) ?_;rintro ⟨s0,s1,s2,s3⟩ y hF;have hF : zp0 (f208 N) N s0 s1 s2 s3 = some y := hF;show vc _ _ _ _ ⟨[(0, .dat (.agg [strN s0.edition])),(1, .ptr 0 0)],[(0, .box [.mp 1, .mp 2, .mp 3]),(1,(sW [2] s1)),(2,(eW s2)),(3,(mW s3))]⟩ _;unfold zp0 at hF
  repeat' (first
 | ((with_reducible first | refine q0 _ _ ?_ | refine q1 _ _ _ _ ?_ | refine q2 _ _ _ ?_);clear Q q0 q1 q2)
 | ((with_reducible first | refine zaI ?hx (λ Q q0 q1 q2=>?_) | refine za2 ?hx (λ Q q0 q1 q2=>?_));(case hx=>exact rfl);conv=>whnf)
 | ((with_reducible refine zaP ?_);(first | ((refine zbb rfl ?hy ?_);(case hy=>first | assumption | exact notT (by assumption) | exact rfl)) | ((refine zbc rfl ?hy ?_);(case hy=>first | assumption | exact notF (by assumption) | exact rfl)) | (revert hF;(with_reducible refine zbP ?hx ?_ ?_);(case hx=>exact rfl);all_goals (intro hc hF))))
 | ((with_reducible have hG := zcT hF);(refine zdG 2 1603 rfl rfl rfl (by first | exact zal | exact za8 (by decide) zal) (by assumption) (by exact rfl) ?_);(have hF := hG);clear hG;dsimp only [St.settledF];(first | ((with_reducible refine hR _ ?_);clear R hR) | ((with_reducible refine hL _ ?_);clear L hL)))
 | ((with_reducible refine zay ?_);(first | ((with_reducible refine hR _ ?_);clear R hR) | ((with_reducible refine hL _ ?_);clear L hL)))
 | ((with_reducible refine zaR ?_);(with_reducible refine hR _ _ ?hx ?_);(case hx=>kernel_rfl);clear R hR)
 | (with_reducible first | refine zaB ?_ | refine zax ?_ | refine zaH ?_ | refine zaM ?_ | refine zak (λ R hR=>?_) | refine zaj ?_ | refine zan ?_ | refine zbO ?_ | refine zav ?_ | refine zap ?_)
 | ((with_reducible refine zaz [] ?hx ?_);(case hx=>exact rfl))
 | ((with_reducible refine za4 ?hx (λ R L hL hR=>?_));(case hx=>exact rfl))
 | (cases hF;(refine Or.inl ?_);(conv=>whnf);exact ⟨rfl,rfl,rfl⟩)
 | (revert hF;(refine zaG (eK := strN) (eM := EditionM.m) zaD ?hk ?hd ?he ?_ ?_);(case hk=>exact λ _=>rfl);(case hd=>exact rfl);(case he=>exact rfl);(intro hl hF;conv=>whnf);rotate_left;(intro i hl hF;conv=>whnf);rotate_right)
 | ((refine zaO rfl (by assumption) (by exact rfl) ?_);conv=>whnf)
 | ((with_reducible have hG := za7 hF);clear hF;(obtain ⟨⟨x,hx,hF⟩⟩ := hG);first | ((refine zaO rfl hx (by exact rfl) ?_);conv=>whnf) | skip)
 | ((refine Or.inr ?_);(conv=>whnf);(refine zdU (by first | exact zal | exact za8 (by decide) zal) ?_);conv=>whnf)
 | with_reducible refine zbe ?_)
theorem P208 : CallOK Tryz.prog 208 (effPg ziR G208) := zbE Q208
def ziS (n5 : Int) : Option (Int) :=
 some (n5)
def zj3 : Lp (Int) Unit (Int) := lp0 ⟨[5],[],[],[]⟩ (λ n5=>[.dat (iN n5)]) (λ _=>[]) (λ n5=>ziS n5)
instance Ef64_c7 {n5} : IsLp 0 1 (ziS n5) (zj3) n5 := ⟨rfl⟩
instance Cf64_c7 : IsCut 1 (ziS) (zj3) 7 := ⟨⟩
def zo1 (r3 : Int -> Int -> Option (Int)) (k0 : Int -> Option (Int)) (x1 : List Int) (n5 : Int) (v15 : Int) : Option (Int) :=
 bif decide (v15 < (List.length x1 : Int)) then ((ix x1 v15).bind λ x2 =>
 r3 (W (n5 + x2)) (W (v15 + (1 : Int))))
 else (k0 n5)
def zne (k0 : Int -> Option (Int)) (x1 : List Int) : Nat -> Int -> Int -> Option (Int)
 | 0,_,_=>none
 | n + 1,n5,v15=>zo1 (zne k0 x1 n) k0 x1 n5 v15
def zo2 (k0 : Int -> Option (Int)) (x1 : List Int) : Lp (Nat × Int × Int) Unit (Int) := lp0 ⟨[5,13,14,15],[],[],[]⟩ (λ (_,n5,v15)=>[.dat (iN n5), .dat (zbN x1), .dat (iN (List.length x1 : Int)), .dat (iN v15)]) (λ (_,_,_)=>[]) (λ (n,n5,v15)=>zne k0 x1 n n5 v15)
instance Ef64_3 {k0 x1 n n5 v15} : IsLp 0 2 (zne k0 x1 n n5 v15) (zo2 k0 x1) (n,n5,v15) := ⟨rfl⟩
def f64 (N : Nat) (a0 : EditionM) (a1 : Int) : Option (Int) :=
 zbM ziS λ k0 =>
 (sub a0.places a1 (List.length a0.places : Int)).bind λ x1 =>
 zne k0 x1 N (0 : Int) (0 : Int)
def G64 (ds : List D) (d : D) : Prop := ∃ (N : Nat) (a0 : EditionM) (a1 : Int) (r : Int),ds = [EditionM.pt a0,iN a1] /\ f64 N a0 a1 = some r /\ d = iN r
theorem G64.lend {a0 a1} {A : _ -> Option ρ} {K : D -> Prop} (hd : ds = [EditionM.pt a0,iN a1]) (h : ∀ r,A r = some q -> K (iN r)) (hF : (f64 N a0 a1).bind A = some q) : ∃ d,(G64 ds d /\ d.flatB = true) /\ K d := by
 obtain ⟨r,hr,hA⟩ := bind_some hF;exact ⟨_,⟨⟨N,a0,a1,r,hd,hr,rfl⟩,rfl⟩,h r hA⟩
set_option maxRecDepth 20000 in
set_option maxHeartbeats 4000000 in
theorem P64 : PureOK Tryz.prog 64 G64 := by
 refine zaE (c := zar zah []) rfl tyOK (zac) [[0]] 2 Tryz.func64 rfl rfl (by decide) (by kernel_rfl) ?_;rintro ds d ⟨N,a0,a1,r,rfl,hF,rfl⟩ hok;clear hok;refine ⟨rfl, ?_⟩;show vc _ _ _ _ ⟨[(0, .ep [strN a0.name,bN a0.closed,zbN a0.places,iN a0.from_,iN a0.paper,iN a0.delivered,iN a0.spoilt]),(1, .dat (iN a1))],[]⟩ _;unfold f64 at hF
 repeat' (first
 | ((with_reducible first | refine q0 _ _ ?_ | refine q1 _ _ _ _ ?_ | refine q2 _ _ _ ?_);clear Q q0 q1 q2)
 | ((with_reducible first | refine zaI ?hx (λ Q q0 q1 q2=>?_));(case hx=>exact rfl);conv=>whnf)
 | ((with_reducible refine zaP ?_);(first | ((refine zbb rfl ?hy ?_);(case hy=>first | assumption | exact notT (by assumption) | exact rfl)) | ((refine zbc rfl ?hy ?_);(case hy=>first | assumption | exact notF (by assumption) | exact rfl)) | (revert hF;(with_reducible refine zbP ?hx ?_ ?_);(case hx=>exact rfl);all_goals (intro hc hF))))
 | ((with_reducible refine zay ?_);(first | ((with_reducible refine hR _ ?_);clear R hR) | ((with_reducible refine hL _ ?_);clear L hL)))
 | ((with_reducible first | refine zaK ?_ | refine zbm ?_ | refine idx2 (by assumption) ?_ | refine idx3 (by assumption) ?_);conv=>whnf)
 | (with_reducible first | refine zaB ?_ | refine zax ?_ | refine zaH ?_ | refine zaM ?_ | refine zak (λ R hR=>?_) | refine zaj ?_ | refine zan ?_ | refine zbO ?_ | refine zav ?_ | refine zap ?_ | refine zaW ?_ | refine zaN ?_)
 | ((with_reducible refine zaz [7] ?hx ?_);(case hx=>exact rfl))
 | ((with_reducible replace hF := isE hF);(dsimp only [zj3,zo2,zne] at hF);first | rewrite [ziS] at hF | rewrite [zo1] at hF)
 | ((with_reducible refine zbn ?_);(with_reducible replace hF := zcA 1 hF);((refine Lp.cutI hF rfl rfl ?_ ?_) <;> clear hF);(intro hF);rotate_left;(rintro _ hF);rotate_right)
 | ((with_reducible refine zbd ?_);(with_reducible replace hF := toLp 0 1 hF);exact Lp.headI hF () ⟨_,rfl,rfl,rfl,rfl⟩ rfl)
 | ((with_reducible refine zbr ?_);(with_reducible replace hF := toLp 0 2 hF);((refine Lp.loopI hF () rfl ⟨_,rfl,rfl,rfl,rfl⟩ rfl (λ _=>rfl) ?_);clear hF);(rintro n ⟨_,_⟩ hF))
 | ((with_reducible refine zbs ?_);(with_reducible replace hF := toLp 0 2 hF);exact Lp.backI hF () ⟨_,rfl,rfl,rfl,rfl⟩ rfl)
 | (revert hF;(with_reducible refine idx1 ?hn ?_);(case hn=>first | exact rfl | exact (List.length_map _) | assumption | omega | simp);intro x hx hF;conv=>whnf)
 | ((with_reducible have hG := zhr hF);clear hF;(refine zkB hG (λ q hF=>?_));clear hG;conv=>whnf)
 | ((refine ⟨?hx,trivial⟩);(case hx=>(cases hF;exact rfl)))
 | with_reducible refine zbe ?_)
abbrev zj4 (l : List Int) : Int := W ((List.length l : Int) - (1 : Int))
abbrev zj5 (x : EditionM) : Int := zj4 x.places
def ziT : Spec (Nat × LE × EditionM) Unit := ⟨2,[],λ x=>[.po 0 x.1 0],λ x=>[.fam [] (encF strN EditionM.m x.2.1) [(x.1,2,1)], .row 3 1 (List.map iN x.2.2.places)],λ x _=>[.rp 1 1 (zj5 x.2.2).toNat 0],
 λ x _=>[.fam [] (encF strN EditionM.m x.2.1) [(x.1,2,1)], .row 3 1 (List.map iN x.2.2.places)],λ _ _=>[]⟩
def G213 (x : Nat × LE × EditionM) (y : Unit) : Prop := getF x.2.1 x.1 = some x.2.2 /\ 0 <= zj5 x.2.2 /\ zj5 x.2.2 < x.2.2.places.length
theorem G213.step {i : Nat} {es : LE} {x : EditionM} {pl : List Int} {A : _ -> Option ρ} (ha : xs = [.po k0 i 0]) (b0 : m k0 = (eW es)) (hu : m id = .unborn) (hx : getF es i = some x) (hp : x.places = pl) (hne : za6 [k0,id] = true)
  (h : ∀ y,pl[(zj4 pl).toNat]? = some y -> A y = some q -> K ⟨.rp id 1 (zj4 pl).toNat 0,[(k0, .fam [] (encF strN EditionM.m es) [(i,2,id)]),(id, .row 3 1 (List.map iN pl)),(id, .row 3 1 (List.map iN pl)),(k0, .fam [] (encF strN EditionM.m es) [(i,2,id)])]⟩ ([Loc.b k0,Loc.b id,Loc.b id,Loc.b k0] ++ l)) (hF : (ix pl (zj4 pl)).bind A = some q) : preTake 2 (effPg ziT G213) xs id (λ _=>SV.no) m l K := by
 subst hp;obtain ⟨y,hy,hA⟩ := bind_some hF;unfold ix at hy
 split at hy
 .rename_i h0
  have hlt := (List.getElem?_eq_some_iff.1 hy).1
  have h1 : zj4 x.places < x.places.length := by generalize zj4 x.places = k at *;omega
  have hk : id ≠ k0 := by
   intro e;subst e;simp [za6,memB] at hne
  obtain ⟨key,hkey⟩ := zbR.1 hx;subst ha;refine ⟨k0,i,0,[],[],_,[],3,1,List.map iN x.places,rfl,b0, ?_,hu,zal, ?_⟩
  .unfold mcAt;rw [zbW,hkey];rfl
  refine zaU (S := ziT) (G := G213) (K := λ δ l' => K ⟨δ.val,δ.wr ++ [(id, .row 3 1 (List.map iN x.places)),(k0, .fam [] (encF strN EditionM.m es) [(i,2,id)])]⟩ l') (v := .rp id 1 (zj5 x).toNat 0) [k0,id] (i,es,x) () [(k0, .fam [] (encF strN EditionM.m es) [(i,2,id)]),(id, .row 3 1 (List.map iN x.places))] (show G213 (i,es,x) () from ⟨hx,h0,h1⟩) rfl hne rfl ?_ rfl rfl rfl (h y hy hA);simp only [List.map_cons,List.map_nil,za,if_neg hk,if_pos];rfl
 .cases hy
set_option maxRecDepth 20000 in
set_option maxHeartbeats 4000000 in
theorem P213 : CallOK Tryz.prog 213 (effPg ziT G213) := by
 refine zaF (c := zar zah []) rfl tyOK (zac) 1000 ⟨[0],[0,1],[],[]⟩ ⟨[0],[0,1],[],[]⟩ Tryz.func213 rfl rfl (by kernel_rfl) rfl rfl rfl rfl rfl rfl rfl rfl (λ _=>rfl) (λ _=>rfl) (λ _ _=>⟨rfl,rfl⟩) ?_;rintro ⟨i,es,x⟩ y ⟨hx,h1,h2⟩;replace h1 : 0 <= zj5 x := h1;replace h2 : zj5 x < x.places.length := h2;unfold zj5 zj4 W at h1 h2;replace hx : getF es i = some x := hx;show vc _ _ _ _ ⟨[(0, .po 0 i 0)],[(0, .fam [] (encF strN EditionM.m es) [(i,2,1)]),(1, .row 3 1 (List.map iN x.places))]⟩ _
 repeat' (first
 | ((with_reducible first | refine q0 _ _ ?_ | refine q1 _ _ _ _ ?_ | refine q2 _ _ _ ?_);clear Q q0 q1 q2)
 | ((with_reducible first | refine zaI ?hx (λ Q q0 q1 q2=>?_) | refine za2 ?hx (λ Q q0 q1 q2=>?_));(case hx=>exact rfl);conv=>whnf)
 | ((with_reducible refine zay ?_);(first | ((with_reducible refine hR _ ?_);clear R hR) | ((with_reducible refine hL _ ?_);clear L hL)))
 | ((with_reducible refine zaR ?_);(with_reducible refine hR _ _ ?hx ?_);(case hx=>kernel_rfl);clear R hR)
 | ((with_reducible first | refine zaK ?_ | refine zbm ?_);conv=>whnf)
 | (with_reducible first | refine zaB ?_ | refine zax ?_ | refine zaH ?_ | refine zaM ?_ | refine zak (λ R hR=>?_) | refine zaj ?_ | refine zan ?_)
 | ((with_reducible refine zaz [] ?hx ?_);(case hx=>exact rfl))
 | ((with_reducible refine za4 ?hx (λ R L hL hR=>?_));(case hx=>exact rfl))
 | ((refine zaO rfl hx (by exact rfl) ?_);conv=>whnf)
 | ((refine Or.inl ⟨_,zlG, ?_⟩);conv=>whnf)
 | ((refine ⟨?h, ?_⟩;(case h=>exact ⟨h1,h2⟩));conv=>whnf)
 | ((with_reducible refine zeO ?hn ?_);(case hn=>first | exact rfl | assumption | omega);conv=>whnf)
 | ((with_reducible refine zbe ?_))
 | ((refine ⟨?h, ?_⟩;(case h=>(simp only [List.length_map];done)));conv=>whnf)
 | (show retE _ _ _ _ _ _ _ _;conv=>whnf)
 | ((refine Or.inl ?_);(conv=>whnf);exact ⟨rfl,rfl,rfl⟩))
def zp2 (self : NewStone -> LS -> LE -> LC -> Option (LS)) (N : Nat) (s0 : NewStone) (s1 : LS) (s2 : LE) (s3 : LC) : Option (LS) :=
 (insF s0.name (StoneM.mk s0.thick none (0 : Int)) s1).bind λ x1 =>
 some (x1)
def f197 : Nat -> NewStone -> LS -> LE -> LC -> Option (LS)
 | 0,_,_,_,_=>none
 | N + 1,s0,s1,s2,s3=>zp2 (f197 N) N s0 s1 s2 s3
def Af197 (s0 : NewStone) (s1 : LS) (s2 : LE) (s3 : LC) : List SV := [.dat (.agg [strN s0.name,iN s0.thick]), .ptr 0 0]
def Bf197 (s0 : NewStone) (s1 : LS) (s2 : LE) (s3 : LC) : List Blk := [.box [.mp 1, .mp 2, .mp 3],(sW [2] s1),(eW s2),(mW s3)]
def Rf197 (y : LS) : List SV := []
def zq3 (s0 : NewStone) (s1 : LS) (s2 : LE) (s3 : LC) (y : LS) : List Blk := [.box [.mp 1, .mp 2, .mp 3],(sW [2] y),(eW s2),(mW s3)]
def zq4 (y : LS) : List Blk := []
def ziU : Spec (NewStone × LS × LE × LC) (LS) := ⟨4,[],λ x=>Af197 x.1 x.2.1 x.2.2.1 x.2.2.2,λ x=>Bf197 x.1 x.2.1 x.2.2.1 x.2.2.2,λ _ y=>Rf197 y,λ x y=>zq3 x.1 x.2.1 x.2.2.1 x.2.2.2 y,λ _ y=>zq4 y⟩
def H197 (N : Nat) (x : NewStone × LS × LE × LC) (y : LS) : Prop := f197 N x.1 x.2.1 x.2.2.1 x.2.2.2 = some y
def G197 (x : NewStone × LS × LE × LC) (y : LS) : Prop := ∃ N,H197 N x y
theorem G197.step {s1 s2 s3} {s0 : NewStone} {A : _ -> Option ρ} (ha : xs = [.dat (.agg [strN s0.name,iN s0.thick]), .ptr k0 0]) (b0 : m k0 = .box [.mp k1, .mp k2, .mp k3]) (b1 : m k1 = (sW [k2] s1)) (b2 : m k2 = (eW s2)) (b3 : m k3 = (mW s3)) (hu : True) (hn : za6 [k0,k1,k2,k3] = true) (h : ∀ y,A y = some q -> K ⟨.tup [],[(k0, .box [.mp k1, .mp k2, .mp k3]),(k1,(sW [k2] y)),(k2,(eW s2)),(k3,(mW s3))]⟩ ([Loc.b k0,Loc.b k1,Loc.b k2,Loc.b k3] ++ l)) (hF : (f197 N s0 s1 s2 s3).bind A = some q) : effPg ziU (G197) xs id (λ _=>SV.no) m l K := by
 obtain ⟨y,hy,hA⟩ := bind_some hF;exact zaU [k0,k1,k2,k3] (s0,s1,s2,s3) y _ ⟨N,hy⟩ rfl hn ha (by simp only [List.map_cons,List.map_nil,b0,b1,b2,b3];rfl) rfl rfl rfl (h y hA)
def zq5 : Ann := ⟨[],[0,1,2,3],[],[]⟩
def zp3 : Ann := ⟨[],[0,1,2,3],[],[]⟩
set_option maxRecDepth 20000 in
set_option maxHeartbeats 4000000 in
theorem Q197 (N : Nat) : CallOK Tryz.prog 197 (effPg ziU (H197 N)) := by
 induction N with
 | zero=>exact zaX λ x y h=>(by cases (show (none : Option (LS)) = some y from h))
 | succ N ih =>
  refine zaF (c := zar zah [(197,true,effPg ziU (H197 N))]) rfl tyOK (zao (zaa Tryz.func197 rfl rfl) ih (zac)) 1000 zq5 zp3 Tryz.func197 rfl rfl (by kernel_rfl) rfl rfl rfl rfl rfl rfl rfl rfl (λ _=>rfl) (λ _=>rfl) (λ _ _=>⟨rfl,rfl⟩) ?_;rintro ⟨s0,s1,s2,s3⟩ y hF;have hF : zp2 (f197 N) N s0 s1 s2 s3 = some y := hF;show vc _ _ _ _ ⟨[(0, .dat (.agg [strN s0.name,iN s0.thick])),(1, .ptr 0 0)],[(0, .box [.mp 1, .mp 2, .mp 3]),(1,(sW [2] s1)),(2,(eW s2)),(3,(mW s3))]⟩ _;unfold zp2 at hF
  repeat' (first
 | ((with_reducible first | refine q0 _ _ ?_ | refine q1 _ _ _ _ ?_ | refine q2 _ _ _ ?_);clear Q q0 q1 q2)
 | ((with_reducible first | refine zaI ?hx (λ Q q0 q1 q2=>?_) | refine za2 ?hx (λ Q q0 q1 q2=>?_) | refine zby ?hx (λ Q q0 q1 q2=>?_) | refine zbC ?hx (λ Q q0 q1 q2=>?_));(case hx=>exact rfl);conv=>whnf)
 | ((with_reducible refine zay ?_);(first | ((with_reducible refine hR _ ?_);clear R hR) | ((with_reducible refine hL _ ?_);clear L hL)))
 | ((with_reducible refine zaR ?_);(with_reducible refine hR _ _ ?hx ?_);(case hx=>kernel_rfl);clear R hR)
 | (with_reducible first | refine zax ?_ | refine zaH ?_ | refine zak (λ R hR=>?_) | refine zaj ?_)
 | ((with_reducible refine zaz [] ?hx ?_);(case hx=>exact rfl))
 | ((with_reducible refine za4 ?hx (λ R L hL hR=>?_));(case hx=>exact rfl))
 | (cases hF;(refine Or.inl ?_);(conv=>whnf);exact ⟨rfl,rfl,rfl⟩)
 | ((with_reducible have hG := ziG hF);clear hF;(refine ziH (eM := StoneM.m) hG zaD ?hk ?hd ?he [.d default, .p 0 none, .d default] rfl ?_);(case hk=>exact λ _=>rfl);(case hd=>exact rfl);(case he=>exact rfl);(conv=>whnf);(refine ⟨⟨rfl,rfl,(by decide)⟩, ?_⟩);(refine zm3 hG rfl rfl rfl (λ q hq hF=>?_));clear hG;conv=>whnf)
 | with_reducible refine zbe ?_)
theorem P197 : CallOK Tryz.prog 197 (effPg ziU G197) := zbE Q197
def zp4 (self : NewEdition -> LS -> LE -> LC -> Option (LE)) (N : Nat) (s0 : NewEdition) (s1 : LS) (s2 : LE) (s3 : LC) : Option (LE) :=
 (insF s0.name (EditionM.mk s0.name false [(0 : Int)] (0 : Int) (0 : Int) (0 : Int) (0 : Int) [] (0 : Int)) s2).bind λ x1 =>
 some (x1)
def f199 : Nat -> NewEdition -> LS -> LE -> LC -> Option (LE)
 | 0,_,_,_,_=>none
 | N + 1,s0,s1,s2,s3=>zp4 (f199 N) N s0 s1 s2 s3
def Af199 (s0 : NewEdition) (s1 : LS) (s2 : LE) (s3 : LC) : List SV := [.dat (.agg [strN s0.name]), .ptr 0 0]
def Bf199 (s0 : NewEdition) (s1 : LS) (s2 : LE) (s3 : LC) : List Blk := [.box [.mp 1, .mp 2, .mp 3],(sW [2] s1),(eW s2),(mW s3)]
def Rf199 (y : LE) : List SV := []
def zq6 (s0 : NewEdition) (s1 : LS) (s2 : LE) (s3 : LC) (y : LE) : List Blk := [.box [.mp 1, .mp 2, .mp 3],(sW [2] s1),(eW y),(mW s3)]
def zq7 (y : LE) : List Blk := []
def ziV : Spec (NewEdition × LS × LE × LC) (LE) := ⟨4,[],λ x=>Af199 x.1 x.2.1 x.2.2.1 x.2.2.2,λ x=>Bf199 x.1 x.2.1 x.2.2.1 x.2.2.2,λ _ y=>Rf199 y,λ x y=>zq6 x.1 x.2.1 x.2.2.1 x.2.2.2 y,λ _ y=>zq7 y⟩
def H199 (N : Nat) (x : NewEdition × LS × LE × LC) (y : LE) : Prop := f199 N x.1 x.2.1 x.2.2.1 x.2.2.2 = some y
def G199 (x : NewEdition × LS × LE × LC) (y : LE) : Prop := ∃ N,H199 N x y
theorem G199.step {s1 s2 s3} {s0 : NewEdition} {A : _ -> Option ρ} (ha : xs = [.dat (.agg [strN s0.name]), .ptr k0 0]) (b0 : m k0 = .box [.mp k1, .mp k2, .mp k3]) (b1 : m k1 = (sW [k2] s1)) (b2 : m k2 = (eW s2)) (b3 : m k3 = (mW s3)) (hu : True) (hn : za6 [k0,k1,k2,k3] = true) (h : ∀ y,A y = some q -> K ⟨.tup [],[(k0, .box [.mp k1, .mp k2, .mp k3]),(k1,(sW [k2] s1)),(k2,(eW y)),(k3,(mW s3))]⟩ ([Loc.b k0,Loc.b k1,Loc.b k2,Loc.b k3] ++ l)) (hF : (f199 N s0 s1 s2 s3).bind A = some q) : effPg ziV (G199) xs id (λ _=>SV.no) m l K := by
 obtain ⟨y,hy,hA⟩ := bind_some hF;exact zaU [k0,k1,k2,k3] (s0,s1,s2,s3) y _ ⟨N,hy⟩ rfl hn ha (by simp only [List.map_cons,List.map_nil,b0,b1,b2,b3];rfl) rfl rfl rfl (h y hA)
def zq8 : Ann := ⟨[],[0,1,2,3],[],[]⟩
def zp5 : Ann := ⟨[],[0,1,2,3],[],[]⟩
set_option maxRecDepth 20000 in
set_option maxHeartbeats 4000000 in
theorem Q199 (N : Nat) : CallOK Tryz.prog 199 (effPg ziV (H199 N)) := by
 induction N with
 | zero=>exact zaX λ x y h=>(by cases (show (none : Option (LE)) = some y from h))
 | succ N ih =>
  refine zaF (c := zar zah [(199,true,effPg ziV (H199 N))]) rfl tyOK (zao (zaa Tryz.func199 rfl rfl) ih (zac)) 1000 zq8 zp5 Tryz.func199 rfl rfl (by kernel_rfl) rfl rfl rfl rfl rfl rfl rfl rfl (λ _=>rfl) (λ _=>rfl) (λ _ _=>⟨rfl,rfl⟩) ?_;rintro ⟨s0,s1,s2,s3⟩ y hF;have hF : zp4 (f199 N) N s0 s1 s2 s3 = some y := hF;show vc _ _ _ _ ⟨[(0, .dat (.agg [strN s0.name])),(1, .ptr 0 0)],[(0, .box [.mp 1, .mp 2, .mp 3]),(1,(sW [2] s1)),(2,(eW s2)),(3,(mW s3))]⟩ _;unfold zp4 at hF
  repeat' (first
 | ((with_reducible first | refine q0 _ _ ?_ | refine q1 _ _ _ _ ?_ | refine q2 _ _ _ ?_);clear Q q0 q1 q2)
 | ((with_reducible first | refine zaI ?hx (λ Q q0 q1 q2=>?_) | refine za2 ?hx (λ Q q0 q1 q2=>?_) | refine zby ?hx (λ Q q0 q1 q2=>?_) | refine zbC ?hx (λ Q q0 q1 q2=>?_));(case hx=>exact rfl);conv=>whnf)
 | ((with_reducible refine zay ?_);(first | ((with_reducible refine hR _ ?_);clear R hR) | ((with_reducible refine hL _ ?_);clear L hL)))
 | ((with_reducible refine zaR ?_);(with_reducible refine hR _ _ ?hx ?_);(case hx=>kernel_rfl);clear R hR)
 | (with_reducible first | refine zax ?_ | refine zaH ?_ | refine zak (λ R hR=>?_) | refine zaj ?_)
 | ((with_reducible refine zaz [] ?hx ?_);(case hx=>exact rfl))
 | ((with_reducible refine za4 ?hx (λ R L hL hR=>?_));(case hx=>exact rfl))
 | (cases hF;(refine Or.inl ?_);(conv=>whnf);exact ⟨rfl,rfl,rfl⟩)
 | ((with_reducible have hG := ziG hF);clear hF;(refine ziH (eM := EditionM.m) hG zaD ?hk ?hd ?he [.d default, .d default, .r 3 1 [], .d default, .d default, .d default, .d default, .m [], .d default] rfl ?_);(case hk=>exact λ _=>rfl);(case hd=>exact rfl);(case he=>exact rfl);(conv=>whnf);(refine ⟨⟨rfl,rfl,(by decide)⟩, ?_⟩);(refine zm3 hG rfl rfl rfl (λ q hq hF=>?_));clear hG;conv=>whnf)
 | with_reducible refine zbe ?_)
theorem P199 : CallOK Tryz.prog 199 (effPg ziV G199) := zbE Q199
def zp6 (self : Drawing -> LS -> LE -> LC -> Option (LS × LE)) (N : Nat) (s0 : Drawing) (s1 : LS) (s2 : LE) (s3 : LC) : Option (LS × LE) :=
 onO (zbF s0.stone s1) (onO (zbF s0.edition s2) none λ x2 =>
 (getF s2 x2).bind λ x3 =>
 none) λ x1 =>
 onO (zbF s0.edition s2) none λ x4 =>
 (getF s2 x4).bind λ x5 =>
 (getF s1 x1).bind λ x6 =>
 (some (setF s1 x1 ({ x6 with of := (some x4) }))).bind λ x7 =>
 (some (setF x7 x1 ({ x6 with of := (some x4),place := W ((List.length x5.places : Int) - (1 : Int)) }))).bind λ x8 =>
 (some ()).bind λ _ =>
 (app 8 x5.places [(0 : Int)]).bind λ x9 =>
 (some (setF s2 x4 ({ x5 with places := x9 }))).bind λ x10 =>
 some (x8,x10)
def f201 : Nat -> Drawing -> LS -> LE -> LC -> Option (LS × LE)
 | 0,_,_,_,_=>none
 | N + 1,s0,s1,s2,s3=>zp6 (f201 N) N s0 s1 s2 s3
def Af201 (s0 : Drawing) (s1 : LS) (s2 : LE) (s3 : LC) : List SV := [.dat (.agg [strN s0.stone,strN s0.edition]), .ptr 0 0]
def Bf201 (s0 : Drawing) (s1 : LS) (s2 : LE) (s3 : LC) : List Blk := [.box [.mp 1, .mp 2, .mp 3],(sW [2] s1),(eW s2),(mW s3)]
def Rf201 (y : LS × LE) : List SV := []
def zq9 (s0 : Drawing) (s1 : LS) (s2 : LE) (s3 : LC) (y : LS × LE) : List Blk := [.box [.mp 1, .mp 2, .mp 3],(sW [2] y.1),(eW y.2),(mW s3)]
def zr (y : LS × LE) : List Blk := []
def ziW : Spec (Drawing × LS × LE × LC) (LS × LE) := ⟨4,[],λ x=>Af201 x.1 x.2.1 x.2.2.1 x.2.2.2,λ x=>Bf201 x.1 x.2.1 x.2.2.1 x.2.2.2,λ _ y=>Rf201 y,λ x y=>zq9 x.1 x.2.1 x.2.2.1 x.2.2.2 y,λ _ y=>zr y⟩
def H201 (N : Nat) (x : Drawing × LS × LE × LC) (y : LS × LE) : Prop := f201 N x.1 x.2.1 x.2.2.1 x.2.2.2 = some y
def G201 (x : Drawing × LS × LE × LC) (y : LS × LE) : Prop := ∃ N,H201 N x y
theorem G201.step {s1 s2 s3} {s0 : Drawing} {A : _ -> Option ρ} (ha : xs = [.dat (.agg [strN s0.stone,strN s0.edition]), .ptr k0 0]) (b0 : m k0 = .box [.mp k1, .mp k2, .mp k3]) (b1 : m k1 = (sW [k2] s1)) (b2 : m k2 = (eW s2)) (b3 : m k3 = (mW s3)) (hu : True) (hn : za6 [k0,k1,k2,k3] = true) (h : ∀ y,A y = some q -> K ⟨.tup [],[(k0, .box [.mp k1, .mp k2, .mp k3]),(k1,(sW [k2] y.1)),(k2,(eW y.2)),(k3,(mW s3))]⟩ ([Loc.b k0,Loc.b k1,Loc.b k2,Loc.b k3] ++ l)) (hF : (f201 N s0 s1 s2 s3).bind A = some q) : effPg ziW (G201) xs id (λ _=>SV.no) m l K := by
 obtain ⟨y,hy,hA⟩ := bind_some hF;exact zaU [k0,k1,k2,k3] (s0,s1,s2,s3) y _ ⟨N,hy⟩ rfl hn ha (by simp only [List.map_cons,List.map_nil,b0,b1,b2,b3];rfl) rfl rfl rfl (h y hA)
def zra : Ann := ⟨[],[0,1,2,3],[],[]⟩
def zp7 : Ann := ⟨[],[0,1,2,3],[],[]⟩
set_option maxRecDepth 20000 in
set_option maxHeartbeats 4000000 in
theorem Q201 (N : Nat) : CallOK Tryz.prog 201 (effPg ziW (H201 N)) := by
 induction N with
 | zero=>exact zaX λ x y h=>(by cases (show (none : Option (LS × LE)) = some y from h))
 | succ N ih =>
  refine zaF (c := zar zah [(201,true,effPg ziW (H201 N))]) rfl tyOK (zao (zaa Tryz.func201 rfl rfl) ih (zac)) 1000 zra zp7 Tryz.func201 rfl rfl (by kernel_rfl) rfl rfl rfl rfl rfl rfl rfl rfl (λ _=>rfl) (λ _=>rfl) (λ _ _=>⟨rfl,rfl⟩) ?_;rintro ⟨s0,s1,s2,s3⟩ y hF;have hF : zp6 (f201 N) N s0 s1 s2 s3 = some y := hF;show vc _ _ _ _ ⟨[(0, .dat (.agg [strN s0.stone,strN s0.edition])),(1, .ptr 0 0)],[(0, .box [.mp 1, .mp 2, .mp 3]),(1,(sW [2] s1)),(2,(eW s2)),(3,(mW s3))]⟩ _;unfold zp6 at hF
  repeat' (first
 | ((with_reducible first | refine q0 _ _ ?_ | refine q1 _ _ _ _ ?_ | refine q2 _ _ _ ?_);clear Q q0 q1 q2)
 | ((with_reducible first | refine zaI ?hx (λ Q q0 q1 q2=>?_) | refine za2 ?hx (λ Q q0 q1 q2=>?_) | refine zby ?hx (λ Q q0 q1 q2=>?_) | refine zbC ?hx (λ Q q0 q1 q2=>?_));(case hx=>exact rfl);conv=>whnf)
 | ((with_reducible have hG := zcT hF);(refine zdG 2 1206 rfl rfl rfl (by first | exact zal | exact za8 (by decide) zal) (by assumption) (by exact rfl) ?_);(have hF := hG);clear hG;dsimp only [St.settledF];(first | ((with_reducible refine hR _ ?_);clear R hR) | ((with_reducible refine hL _ ?_);clear L hL)))
 | ((with_reducible refine zay ?_);(first | ((with_reducible refine hR _ ?_);clear R hR) | ((with_reducible refine hL _ ?_);clear L hL)))
 | ((with_reducible refine zaR ?_);(with_reducible refine hR _ _ ?hx ?_);(case hx=>kernel_rfl);clear R hR)
 | ((with_reducible first | refine zaK ?_ | refine zbm ?_);conv=>whnf)
 | (with_reducible first | refine zax ?_ | refine zaH ?_ | refine zak (λ R hR=>?_) | refine zaj ?_)
 | ((with_reducible refine zaz [] ?hx ?_);(case hx=>exact rfl))
 | ((with_reducible refine za4 ?hx (λ R L hL hR=>?_));(case hx=>exact rfl))
 | (cases hF;(refine Or.inl ?_);(conv=>whnf);exact ⟨rfl,rfl,rfl⟩)
 | (revert hF;(refine zaG (eK := strN) (eM := StoneM.m) zaD ?hk ?hd ?he ?_ ?_);(case hk=>exact λ _=>rfl);(case hd=>exact rfl);(case he=>exact rfl);(intro hl hF;conv=>whnf);rotate_left;(intro i hl hF;conv=>whnf);rotate_right)
 | (revert hF;(refine zaG (eK := strN) (eM := EditionM.m) zaD ?hk ?hd ?he ?_ ?_);(case hk=>exact λ _=>rfl);(case hd=>exact rfl);(case he=>exact rfl);(intro hl hF;conv=>whnf);rotate_left;(intro i hl hF;conv=>whnf);rotate_right)
 | ((refine zaO rfl (by assumption) (by exact rfl) ?_);conv=>whnf)
 | ((with_reducible have hG := za7 hF);clear hF;(obtain ⟨⟨x,hx,hF⟩⟩ := hG);first | ((refine zaO rfl hx (by exact rfl) ?_);conv=>whnf) | skip)
 | ((refine Or.inr ?_);(conv=>whnf);(refine zdU (by first | exact zal | exact za8 (by decide) zal) ?_);conv=>whnf)
 | ((refine zcS hF (by assumption) rfl (by exact rfl) (λ q hq hF1=>?_));clear hF;(have hF := hF1);clear hF1;conv=>whnf)
 | ((refine zm5 hF (by assumption) rfl (by first | exact rfl | assumption | omega) (by exact rfl) (by first | exact zm4.trans zkJ | exact zkJ | exact rfl) (λ q hq hF1=>?_));clear hF;(have hF := hF1);clear hF1;conv=>whnf)
 | ((with_reducible have hG := zc4 hF);clear hF;(first | ((refine zdq hG ?hn ?hs (λ q hF=>?_));(case hn=>first | exact rfl | assumption | omega);(case hs=>exact rfl)) | ((refine zdB (d := iN) hG ?hs (λ q hF=>?_));(case hs=>exact rfl)) | ((refine zdC (d := iN) hG ?ho ?hn ?hs (λ q hF=>?_));(case ho=>exact rfl);(case hn=>exact rfl);(case hs=>exact rfl)));clear hG;conv=>whnf)
 | ((refine zdr ?hn ?_);(case hn=>first | exact rfl | (simp;done) | (simp;omega));conv=>whnf)
 | with_reducible refine zbe ?_
 | (have hF : (none : Option _) = some _ := hF;cases hF))
theorem P201 : CallOK Tryz.prog 201 (effPg ziW G201) := zbE Q201
def zp8 (self : Paper -> LS -> LE -> LC -> Option (LE)) (N : Nat) (s0 : Paper) (s1 : LS) (s2 : LE) (s3 : LC) : Option (LE) :=
 onO (zbF s0.edition s2) none λ x1 =>
 (getF s2 x1).bind λ x2 =>
 (some (setF s2 x1 ({ x2 with paper := W (x2.paper + s0.n) }))).bind λ x3 =>
 (ix x2.places (0 : Int)).bind λ x4 =>
 (ix x2.places (0 : Int)).bind λ x5 =>
 (setx x2.places (0 : Int) (W (x4 + s0.n))).bind λ x6 =>
 (some (setF x3 x1 ({ x2 with places := x6,paper := W (x2.paper + s0.n) }))).bind λ x7 =>
 some (x7)
def f203 : Nat -> Paper -> LS -> LE -> LC -> Option (LE)
 | 0,_,_,_,_=>none
 | N + 1,s0,s1,s2,s3=>zp8 (f203 N) N s0 s1 s2 s3
def Af203 (s0 : Paper) (s1 : LS) (s2 : LE) (s3 : LC) : List SV := [.dat (.agg [strN s0.edition,iN s0.n]), .ptr 0 0]
def Bf203 (s0 : Paper) (s1 : LS) (s2 : LE) (s3 : LC) : List Blk := [.box [.mp 1, .mp 2, .mp 3],(sW [2] s1),(eW s2),(mW s3)]
def Rf203 (y : LE) : List SV := []
def zrb (s0 : Paper) (s1 : LS) (s2 : LE) (s3 : LC) (y : LE) : List Blk := [.box [.mp 1, .mp 2, .mp 3],(sW [2] s1),(eW y),(mW s3)]
def zrc (y : LE) : List Blk := []
def ziX : Spec (Paper × LS × LE × LC) (LE) := ⟨4,[],λ x=>Af203 x.1 x.2.1 x.2.2.1 x.2.2.2,λ x=>Bf203 x.1 x.2.1 x.2.2.1 x.2.2.2,λ _ y=>Rf203 y,λ x y=>zrb x.1 x.2.1 x.2.2.1 x.2.2.2 y,λ _ y=>zrc y⟩
def H203 (N : Nat) (x : Paper × LS × LE × LC) (y : LE) : Prop := f203 N x.1 x.2.1 x.2.2.1 x.2.2.2 = some y
def G203 (x : Paper × LS × LE × LC) (y : LE) : Prop := ∃ N,H203 N x y
theorem G203.step {s1 s2 s3} {s0 : Paper} {A : _ -> Option ρ} (ha : xs = [.dat (.agg [strN s0.edition,iN s0.n]), .ptr k0 0]) (b0 : m k0 = .box [.mp k1, .mp k2, .mp k3]) (b1 : m k1 = (sW [k2] s1)) (b2 : m k2 = (eW s2)) (b3 : m k3 = (mW s3)) (hu : True) (hn : za6 [k0,k1,k2,k3] = true) (h : ∀ y,A y = some q -> K ⟨.tup [],[(k0, .box [.mp k1, .mp k2, .mp k3]),(k1,(sW [k2] s1)),(k2,(eW y)),(k3,(mW s3))]⟩ ([Loc.b k0,Loc.b k1,Loc.b k2,Loc.b k3] ++ l)) (hF : (f203 N s0 s1 s2 s3).bind A = some q) : effPg ziX (G203) xs id (λ _=>SV.no) m l K := by
 obtain ⟨y,hy,hA⟩ := bind_some hF;exact zaU [k0,k1,k2,k3] (s0,s1,s2,s3) y _ ⟨N,hy⟩ rfl hn ha (by simp only [List.map_cons,List.map_nil,b0,b1,b2,b3];rfl) rfl rfl rfl (h y hA)
def zrd : Ann := ⟨[],[0,1,2,3],[],[]⟩
def zp9 : Ann := ⟨[],[0,1,2,3],[],[]⟩
set_option maxRecDepth 20000 in
set_option maxHeartbeats 4000000 in
theorem Q203 (N : Nat) : CallOK Tryz.prog 203 (effPg ziX (H203 N)) := by
 induction N with
 | zero=>exact zaX λ x y h=>(by cases (show (none : Option (LE)) = some y from h))
 | succ N ih =>
  refine zaF (c := zar zah [(203,true,effPg ziX (H203 N))]) rfl tyOK (zao (zaa Tryz.func203 rfl rfl) ih (zac)) 1000 zrd zp9 Tryz.func203 rfl rfl (by kernel_rfl) rfl rfl rfl rfl rfl rfl rfl rfl (λ _=>rfl) (λ _=>rfl) (λ _ _=>⟨rfl,rfl⟩) ?_;rintro ⟨s0,s1,s2,s3⟩ y hF;have hF : zp8 (f203 N) N s0 s1 s2 s3 = some y := hF;show vc _ _ _ _ ⟨[(0, .dat (.agg [strN s0.edition,iN s0.n])),(1, .ptr 0 0)],[(0, .box [.mp 1, .mp 2, .mp 3]),(1,(sW [2] s1)),(2,(eW s2)),(3,(mW s3))]⟩ _;unfold zp8 at hF
  repeat' (first
 | ((with_reducible first | refine q0 _ _ ?_ | refine q1 _ _ _ _ ?_ | refine q2 _ _ _ ?_);clear Q q0 q1 q2)
 | ((with_reducible first | refine zaI ?hx (λ Q q0 q1 q2=>?_) | refine za2 ?hx (λ Q q0 q1 q2=>?_) | refine zby ?hx (λ Q q0 q1 q2=>?_) | refine zbC ?hx (λ Q q0 q1 q2=>?_));(case hx=>exact rfl);conv=>whnf)
 | ((refine zff 2 1303 hF rfl rfl rfl (by first | exact zal | exact za8 (by decide) zal) (by assumption) (by exact rfl) (by first | exact rfl | assumption | (symm;assumption) | omega) (by exact rfl) (λ q hq hF1=>?_));clear hF;(have hF := hF1);clear hF1;dsimp only [St.settledF];(first | ((with_reducible refine hR _ ?_);clear R hR) | ((with_reducible refine hL _ ?_);clear L hL)))
 | ((with_reducible refine zay ?_);(first | ((with_reducible refine hR _ ?_);clear R hR) | ((with_reducible refine hL _ ?_);clear L hL)))
 | ((with_reducible refine zaR ?_);(with_reducible refine hR _ _ ?hx ?_);(case hx=>kernel_rfl);clear R hR)
 | ((with_reducible first | refine zaK ?_ | refine idx2 (by assumption) ?_ | refine idx3 (by assumption) ?_);conv=>whnf)
 | (with_reducible first | refine zax ?_ | refine zaH ?_ | refine zak (λ R hR=>?_) | refine zaj ?_)
 | ((with_reducible refine zaz [] ?hx ?_);(case hx=>exact rfl))
 | ((with_reducible refine za4 ?hx (λ R L hL hR=>?_));(case hx=>exact rfl))
 | (cases hF;(refine Or.inl ?_);(conv=>whnf);exact ⟨rfl,rfl,rfl⟩)
 | (revert hF;(refine zaG (eK := strN) (eM := EditionM.m) zaD ?hk ?hd ?he ?_ ?_);(case hk=>exact λ _=>rfl);(case hd=>exact rfl);(case he=>exact rfl);(intro hl hF;conv=>whnf);rotate_left;(intro i hl hF;conv=>whnf);rotate_right)
 | ((refine zaO rfl (by assumption) (by exact rfl) ?_);conv=>whnf)
 | ((with_reducible have hG := za7 hF);clear hF;(obtain ⟨⟨x,hx,hF⟩⟩ := hG);first | ((refine zaO rfl hx (by exact rfl) ?_);conv=>whnf) | skip)
 | ((refine Or.inr ?_);(conv=>whnf);(refine zdU (by first | exact zal | exact za8 (by decide) zal) ?_);conv=>whnf)
 | ((refine zcS hF (by assumption) rfl (by exact rfl) (λ q hq hF1=>?_));clear hF;(have hF := hF1);clear hF1;conv=>whnf)
 | (revert hF;(with_reducible refine idx1 ?hn ?_);(case hn=>first | exact rfl | exact (List.length_map _) | assumption | omega | simp);intro x hx hF;conv=>whnf)
 | ((with_reducible refine zeO ?hn ?_);(case hn=>first | exact rfl | assumption | omega);conv=>whnf)
 | ((with_reducible have hG := zdD hF);clear hF;(refine zer hG ?hs (λ q hl hF=>?_));(case hs=>exact rfl);clear hG;conv=>whnf)
 | ((refine ⟨?hx, ?_⟩);(case hx=>exact ⟨rfl,Nat.le_of_ble_eq_true rfl,rfl⟩);conv=>whnf)
 | with_reducible refine zbe ?_
 | (have hF : (none : Option _) = some _ := hF;cases hF))
theorem P203 : CallOK Tryz.prog 203 (effPg ziX G203) := zbE Q203
def zq (self : Printing -> LS -> LE -> LC -> Option (LE)) (N : Nat) (s0 : Printing) (s1 : LS) (s2 : LE) (s3 : LC) : Option (LE) :=
 onO (zbF s0.stone s1) none λ x1 =>
 (getF s1 x1).bind λ x2 =>
 onO x2.of none λ x3 =>
 (getF s2 x3).bind λ x4 =>
 (ix x4.places x2.place).bind λ x5 =>
 (ix x4.places x2.place).bind λ x6 =>
 (setx x4.places x2.place (W (x5 - (W (s0.good + s0.spoilt))))).bind λ x7 =>
 (some (setF s2 x3 ({ x4 with places := x7 }))).bind λ x8 =>
 (ix x7 (W (x2.place + (1 : Int)))).bind λ x9 =>
 (ix x7 (W (x2.place + (1 : Int)))).bind λ x10 =>
 (setx x7 (W (x2.place + (1 : Int))) (W (x9 + s0.good))).bind λ x11 =>
 (some (setF x8 x3 ({ x4 with places := x11 }))).bind λ x12 =>
 (some (setF x12 x3 ({ x4 with places := x11,spoilt := W (x4.spoilt + s0.spoilt) }))).bind λ x13 =>
 some (x13)
def f205 : Nat -> Printing -> LS -> LE -> LC -> Option (LE)
 | 0,_,_,_,_=>none
 | N + 1,s0,s1,s2,s3=>zq (f205 N) N s0 s1 s2 s3
def Af205 (s0 : Printing) (s1 : LS) (s2 : LE) (s3 : LC) : List SV := [.dat (.agg [strN s0.stone,iN s0.good,iN s0.spoilt]), .ptr 0 0]
def Bf205 (s0 : Printing) (s1 : LS) (s2 : LE) (s3 : LC) : List Blk := [.box [.mp 1, .mp 2, .mp 3],(sW [2] s1),(eW s2),(mW s3)]
def Rf205 (y : LE) : List SV := []
def zre (s0 : Printing) (s1 : LS) (s2 : LE) (s3 : LC) (y : LE) : List Blk := [.box [.mp 1, .mp 2, .mp 3],(sW [2] s1),(eW y),(mW s3)]
def zrf (y : LE) : List Blk := []
def ziY : Spec (Printing × LS × LE × LC) (LE) := ⟨4,[],λ x=>Af205 x.1 x.2.1 x.2.2.1 x.2.2.2,λ x=>Bf205 x.1 x.2.1 x.2.2.1 x.2.2.2,λ _ y=>Rf205 y,λ x y=>zre x.1 x.2.1 x.2.2.1 x.2.2.2 y,λ _ y=>zrf y⟩
def H205 (N : Nat) (x : Printing × LS × LE × LC) (y : LE) : Prop := f205 N x.1 x.2.1 x.2.2.1 x.2.2.2 = some y
def G205 (x : Printing × LS × LE × LC) (y : LE) : Prop := ∃ N,H205 N x y
theorem G205.step {s1 s2 s3} {s0 : Printing} {A : _ -> Option ρ} (ha : xs = [.dat (.agg [strN s0.stone,iN s0.good,iN s0.spoilt]), .ptr k0 0]) (b0 : m k0 = .box [.mp k1, .mp k2, .mp k3]) (b1 : m k1 = (sW [k2] s1)) (b2 : m k2 = (eW s2)) (b3 : m k3 = (mW s3)) (hu : True) (hn : za6 [k0,k1,k2,k3] = true) (h : ∀ y,A y = some q -> K ⟨.tup [],[(k0, .box [.mp k1, .mp k2, .mp k3]),(k1,(sW [k2] s1)),(k2,(eW y)),(k3,(mW s3))]⟩ ([Loc.b k0,Loc.b k1,Loc.b k2,Loc.b k3] ++ l)) (hF : (f205 N s0 s1 s2 s3).bind A = some q) : effPg ziY (G205) xs id (λ _=>SV.no) m l K := by
 obtain ⟨y,hy,hA⟩ := bind_some hF;exact zaU [k0,k1,k2,k3] (s0,s1,s2,s3) y _ ⟨N,hy⟩ rfl hn ha (by simp only [List.map_cons,List.map_nil,b0,b1,b2,b3];rfl) rfl rfl rfl (h y hA)
def zrg : Ann := ⟨[],[0,1,2,3],[],[]⟩
def zqa : Ann := ⟨[],[0,1,2,3],[],[]⟩
set_option maxRecDepth 20000 in
set_option maxHeartbeats 4000000 in
theorem Q205 (N : Nat) : CallOK Tryz.prog 205 (effPg ziY (H205 N)) := by
 induction N with
 | zero=>exact zaX λ x y h=>(by cases (show (none : Option (LE)) = some y from h))
 | succ N ih =>
  refine zaF (c := zar zah [(205,true,effPg ziY (H205 N))]) rfl tyOK (zao (zaa Tryz.func205 rfl rfl) ih (zac)) 1000 zrg zqa Tryz.func205 rfl rfl (by kernel_rfl) rfl rfl rfl rfl rfl rfl rfl rfl (λ _=>rfl) (λ _=>rfl) (λ _ _=>⟨rfl,rfl⟩) ?_;rintro ⟨s0,s1,s2,s3⟩ y hF;have hF : zq (f205 N) N s0 s1 s2 s3 = some y := hF;show vc _ _ _ _ ⟨[(0, .dat (.agg [strN s0.stone,iN s0.good,iN s0.spoilt])),(1, .ptr 0 0)],[(0, .box [.mp 1, .mp 2, .mp 3]),(1,(sW [2] s1)),(2,(eW s2)),(3,(mW s3))]⟩ _;unfold zq at hF
  repeat' (first
 | ((with_reducible first | refine q0 _ _ ?_ | refine q1 _ _ _ _ ?_ | refine q2 _ _ _ ?_);clear Q q0 q1 q2)
 | ((with_reducible first | refine zaI ?hx (λ Q q0 q1 q2=>?_) | refine za2 ?hx (λ Q q0 q1 q2=>?_) | refine zby ?hx (λ Q q0 q1 q2=>?_) | refine zbC ?hx (λ Q q0 q1 q2=>?_));(case hx=>exact rfl);conv=>whnf)
 | ((refine zff 2 1206 hF rfl rfl rfl (by first | exact zal | exact za8 (by decide) zal) (by assumption) (by exact rfl) (by first | exact rfl | assumption | (symm;assumption) | omega) (by exact rfl) (λ q hq hF1=>?_));clear hF;(have hF := hF1);clear hF1;dsimp only [St.settledF];(first | ((with_reducible refine hR _ ?_);clear R hR) | ((with_reducible refine hL _ ?_);clear L hL)))
 | ((refine zff 2 1306 hF rfl rfl rfl (by first | exact zal | exact za8 (by decide) zal) (by assumption) (by exact rfl) (by first | exact rfl | assumption | (symm;assumption) | omega) (by exact rfl) (λ q hq hF1=>?_));clear hF;(have hF := hF1);clear hF1;dsimp only [St.settledF];(first | ((with_reducible refine hR _ ?_);clear R hR) | ((with_reducible refine hL _ ?_);clear L hL)))
 | ((with_reducible refine zay ?_);(first | ((with_reducible refine hR _ ?_);clear R hR) | ((with_reducible refine hL _ ?_);clear L hL)))
 | ((with_reducible refine zaR ?_);(with_reducible refine hR _ _ ?hx ?_);(case hx=>kernel_rfl);clear R hR)
 | ((with_reducible first | refine zaK ?_ | refine idx2 (by assumption) ?_ | refine idx3 (by assumption) ?_);conv=>whnf)
 | (with_reducible first | refine zax ?_ | refine zaH ?_ | refine zak (λ R hR=>?_) | refine zaj ?_)
 | ((with_reducible refine zaz [] ?hx ?_);(case hx=>exact rfl))
 | ((with_reducible refine za4 ?hx (λ R L hL hR=>?_));(case hx=>exact rfl))
 | (cases hF;(refine Or.inl ?_);(conv=>whnf);exact ⟨rfl,rfl,rfl⟩)
 | (revert hF;(refine zaG (eK := strN) (eM := StoneM.m) zaD ?hk ?hd ?he ?_ ?_);(case hk=>exact λ _=>rfl);(case hd=>exact rfl);(case he=>exact rfl);(intro hl hF;conv=>whnf);rotate_left;(intro i hl hF;conv=>whnf);rotate_right)
 | ((refine zaO rfl (by assumption) (by exact rfl) ?_);conv=>whnf)
 | ((with_reducible have hG := za7 hF);clear hF;(obtain ⟨⟨x,hx,hF⟩⟩ := hG);first | ((refine zaO rfl hx (by exact rfl) ?_);conv=>whnf) | skip)
 | ((refine Or.inr ?_);(conv=>whnf);(refine zdU (by first | exact zal | exact za8 (by decide) zal) ?_);conv=>whnf)
 | (revert hF;(refine zdg ?_ ?_);(intro ho hF;conv=>whnf);rotate_left;(intro j ho hF;conv=>whnf);rotate_right)
 | ((refine zeu (by assumption) ?_);conv=>whnf)
 | ((refine zcS hF (by assumption) rfl (by exact rfl) (λ q hq hF1=>?_));clear hF;(have hF := hF1);clear hF1;conv=>whnf)
 | (revert hF;(with_reducible refine idx1 ?hn ?_);(case hn=>first | exact rfl | exact (List.length_map _) | assumption | omega | simp);intro x hx hF;conv=>whnf)
 | ((with_reducible refine zeO ?hn ?_);(case hn=>first | exact rfl | assumption | omega);conv=>whnf)
 | ((with_reducible have hG := zdD hF);clear hF;(refine zer hG ?hs (λ q hl hF=>?_));(case hs=>exact rfl);clear hG;conv=>whnf)
 | ((refine ⟨?hx, ?_⟩);(case hx=>exact ⟨rfl,Nat.le_of_ble_eq_true rfl,rfl⟩);conv=>whnf)
 | with_reducible refine zbe ?_
 | (have hF : (none : Option _) = some _ := hF;cases hF))
theorem P205 : CallOK Tryz.prog 205 (effPg ziY G205) := zbE Q205
def zqb (self : Closing -> LS -> LE -> LC -> Option (LE)) (N : Nat) (s0 : Closing) (s1 : LS) (s2 : LE) (s3 : LC) : Option (LE) :=
 onO (zbF s0.edition s2) none λ x1 =>
 (getF s2 x1).bind λ x2 =>
 (some (setF s2 x1 ({ x2 with closed := true }))).bind λ x3 =>
 some (x3)
def f207 : Nat -> Closing -> LS -> LE -> LC -> Option (LE)
 | 0,_,_,_,_=>none
 | N + 1,s0,s1,s2,s3=>zqb (f207 N) N s0 s1 s2 s3
def Af207 (s0 : Closing) (s1 : LS) (s2 : LE) (s3 : LC) : List SV := [.dat (.agg [strN s0.edition]), .ptr 0 0]
def Bf207 (s0 : Closing) (s1 : LS) (s2 : LE) (s3 : LC) : List Blk := [.box [.mp 1, .mp 2, .mp 3],(sW [2] s1),(eW s2),(mW s3)]
def Rf207 (y : LE) : List SV := []
def zrh (s0 : Closing) (s1 : LS) (s2 : LE) (s3 : LC) (y : LE) : List Blk := [.box [.mp 1, .mp 2, .mp 3],(sW [2] s1),(eW y),(mW s3)]
def zri (y : LE) : List Blk := []
def ziZ : Spec (Closing × LS × LE × LC) (LE) := ⟨4,[],λ x=>Af207 x.1 x.2.1 x.2.2.1 x.2.2.2,λ x=>Bf207 x.1 x.2.1 x.2.2.1 x.2.2.2,λ _ y=>Rf207 y,λ x y=>zrh x.1 x.2.1 x.2.2.1 x.2.2.2 y,λ _ y=>zri y⟩
def H207 (N : Nat) (x : Closing × LS × LE × LC) (y : LE) : Prop := f207 N x.1 x.2.1 x.2.2.1 x.2.2.2 = some y
def G207 (x : Closing × LS × LE × LC) (y : LE) : Prop := ∃ N,H207 N x y
theorem G207.step {s1 s2 s3} {s0 : Closing} {A : _ -> Option ρ} (ha : xs = [.dat (.agg [strN s0.edition]), .ptr k0 0]) (b0 : m k0 = .box [.mp k1, .mp k2, .mp k3]) (b1 : m k1 = (sW [k2] s1)) (b2 : m k2 = (eW s2)) (b3 : m k3 = (mW s3)) (hu : True) (hn : za6 [k0,k1,k2,k3] = true) (h : ∀ y,A y = some q -> K ⟨.tup [],[(k0, .box [.mp k1, .mp k2, .mp k3]),(k1,(sW [k2] s1)),(k2,(eW y)),(k3,(mW s3))]⟩ ([Loc.b k0,Loc.b k1,Loc.b k2,Loc.b k3] ++ l)) (hF : (f207 N s0 s1 s2 s3).bind A = some q) : effPg ziZ (G207) xs id (λ _=>SV.no) m l K := by
 obtain ⟨y,hy,hA⟩ := bind_some hF;exact zaU [k0,k1,k2,k3] (s0,s1,s2,s3) y _ ⟨N,hy⟩ rfl hn ha (by simp only [List.map_cons,List.map_nil,b0,b1,b2,b3];rfl) rfl rfl rfl (h y hA)
def zrj : Ann := ⟨[],[0,1,2,3],[],[]⟩
def zqc : Ann := ⟨[],[0,1,2,3],[],[]⟩
set_option maxRecDepth 20000 in
set_option maxHeartbeats 4000000 in
theorem Q207 (N : Nat) : CallOK Tryz.prog 207 (effPg ziZ (H207 N)) := by
 induction N with
 | zero=>exact zaX λ x y h=>(by cases (show (none : Option (LE)) = some y from h))
 | succ N ih =>
  refine zaF (c := zar zah [(207,true,effPg ziZ (H207 N))]) rfl tyOK (zao (zaa Tryz.func207 rfl rfl) ih (zac)) 1000 zrj zqc Tryz.func207 rfl rfl (by kernel_rfl) rfl rfl rfl rfl rfl rfl rfl rfl (λ _=>rfl) (λ _=>rfl) (λ _ _=>⟨rfl,rfl⟩) ?_;rintro ⟨s0,s1,s2,s3⟩ y hF;have hF : zqb (f207 N) N s0 s1 s2 s3 = some y := hF;show vc _ _ _ _ ⟨[(0, .dat (.agg [strN s0.edition])),(1, .ptr 0 0)],[(0, .box [.mp 1, .mp 2, .mp 3]),(1,(sW [2] s1)),(2,(eW s2)),(3,(mW s3))]⟩ _;unfold zqb at hF
  repeat' (first
 | ((with_reducible first | refine q0 _ _ ?_ | refine q1 _ _ _ _ ?_ | refine q2 _ _ _ ?_);clear Q q0 q1 q2)
 | ((with_reducible first | refine zaI ?hx (λ Q q0 q1 q2=>?_) | refine za2 ?hx (λ Q q0 q1 q2=>?_) | refine zby ?hx (λ Q q0 q1 q2=>?_) | refine zbC ?hx (λ Q q0 q1 q2=>?_));(case hx=>exact rfl);conv=>whnf)
 | ((with_reducible refine zay ?_);(first | ((with_reducible refine hR _ ?_);clear R hR) | ((with_reducible refine hL _ ?_);clear L hL)))
 | ((with_reducible refine zaR ?_);(with_reducible refine hR _ _ ?hx ?_);(case hx=>kernel_rfl);clear R hR)
 | (with_reducible first | refine zax ?_ | refine zaH ?_ | refine zak (λ R hR=>?_) | refine zaj ?_)
 | ((with_reducible refine zaz [] ?hx ?_);(case hx=>exact rfl))
 | ((with_reducible refine za4 ?hx (λ R L hL hR=>?_));(case hx=>exact rfl))
 | (cases hF;(refine Or.inl ?_);(conv=>whnf);exact ⟨rfl,rfl,rfl⟩)
 | (revert hF;(refine zaG (eK := strN) (eM := EditionM.m) zaD ?hk ?hd ?he ?_ ?_);(case hk=>exact λ _=>rfl);(case hd=>exact rfl);(case he=>exact rfl);(intro hl hF;conv=>whnf);rotate_left;(intro i hl hF;conv=>whnf);rotate_right)
 | ((refine zaO rfl (by assumption) (by exact rfl) ?_);conv=>whnf)
 | ((with_reducible have hG := za7 hF);clear hF;(obtain ⟨⟨x,hx,hF⟩⟩ := hG);first | ((refine zaO rfl hx (by exact rfl) ?_);conv=>whnf) | skip)
 | ((refine zcS hF (by assumption) rfl (by exact rfl) (λ q hq hF1=>?_));clear hF;(have hF := hF1);clear hF1;conv=>whnf)
 | with_reducible refine zbe ?_
 | (have hF : (none : Option _) = some _ := hF;cases hF))
theorem P207 : CallOK Tryz.prog 207 (effPg ziZ G207) := zbE Q207
def zqd (self : Claiming -> LS -> LE -> LC -> Option (LE × LC)) (N : Nat) (s0 : Claiming) (s1 : LS) (s2 : LE) (s3 : LC) : Option (LE × LC) :=
 (some (setK s0.customer true s3)).bind λ x1 =>
 onO (zbF s0.edition s2) none λ x2 =>
 (getF s2 x2).bind λ x3 =>
 (some (zgn (0 : Int) s0.customer x3.owed)).bind λ x4 =>
 (some (setK s0.customer (W (x4.1 + s0.n)) x3.owed)).bind λ x5 =>
 (some (setF s2 x2 ({ x3 with owed := x5 }))).bind λ x6 =>
 (some (setF x6 x2 ({ x3 with owed := x5,open_ := W (x3.open_ + s0.n) }))).bind λ x7 =>
 some (x7,x1)
def f209 : Nat -> Claiming -> LS -> LE -> LC -> Option (LE × LC)
 | 0,_,_,_,_=>none
 | N + 1,s0,s1,s2,s3=>zqd (f209 N) N s0 s1 s2 s3
def Af209 (s0 : Claiming) (s1 : LS) (s2 : LE) (s3 : LC) : List SV := [.dat (.agg [strN s0.customer,strN s0.edition,iN s0.n]), .ptr 0 0]
def Bf209 (s0 : Claiming) (s1 : LS) (s2 : LE) (s3 : LC) : List Blk := [.box [.mp 1, .mp 2, .mp 3],(sW [2] s1),(eW s2),(mW s3)]
def Rf209 (y : LE × LC) : List SV := []
def zrk (s0 : Claiming) (s1 : LS) (s2 : LE) (s3 : LC) (y : LE × LC) : List Blk := [.box [.mp 1, .mp 2, .mp 3],(sW [2] s1),(eW y.1),(mW y.2)]
def zrl (y : LE × LC) : List Blk := []
def zi0 : Spec (Claiming × LS × LE × LC) (LE × LC) := ⟨4,[],λ x=>Af209 x.1 x.2.1 x.2.2.1 x.2.2.2,λ x=>Bf209 x.1 x.2.1 x.2.2.1 x.2.2.2,λ _ y=>Rf209 y,λ x y=>zrk x.1 x.2.1 x.2.2.1 x.2.2.2 y,λ _ y=>zrl y⟩
def H209 (N : Nat) (x : Claiming × LS × LE × LC) (y : LE × LC) : Prop := f209 N x.1 x.2.1 x.2.2.1 x.2.2.2 = some y
def G209 (x : Claiming × LS × LE × LC) (y : LE × LC) : Prop := ∃ N,H209 N x y
theorem G209.step {s1 s2 s3} {s0 : Claiming} {A : _ -> Option ρ} (ha : xs = [.dat (.agg [strN s0.customer,strN s0.edition,iN s0.n]), .ptr k0 0]) (b0 : m k0 = .box [.mp k1, .mp k2, .mp k3]) (b1 : m k1 = (sW [k2] s1)) (b2 : m k2 = (eW s2)) (b3 : m k3 = (mW s3)) (hu : True) (hn : za6 [k0,k1,k2,k3] = true) (h : ∀ y,A y = some q -> K ⟨.tup [],[(k0, .box [.mp k1, .mp k2, .mp k3]),(k1,(sW [k2] s1)),(k2,(eW y.1)),(k3,(mW y.2))]⟩ ([Loc.b k0,Loc.b k1,Loc.b k2,Loc.b k3] ++ l)) (hF : (f209 N s0 s1 s2 s3).bind A = some q) : effPg zi0 (G209) xs id (λ _=>SV.no) m l K := by
 obtain ⟨y,hy,hA⟩ := bind_some hF;exact zaU [k0,k1,k2,k3] (s0,s1,s2,s3) y _ ⟨N,hy⟩ rfl hn ha (by simp only [List.map_cons,List.map_nil,b0,b1,b2,b3];rfl) rfl rfl rfl (h y hA)
def zrm : Ann := ⟨[],[0,1,2,3],[],[]⟩
def zqe : Ann := ⟨[],[0,1,2,3],[],[]⟩
set_option maxRecDepth 20000 in
set_option maxHeartbeats 4000000 in
theorem Q209 (N : Nat) : CallOK Tryz.prog 209 (effPg zi0 (H209 N)) := by
 induction N with
 | zero=>exact zaX λ x y h=>(by cases (show (none : Option (LE × LC)) = some y from h))
 | succ N ih =>
  refine zaF (c := zar zah [(209,true,effPg zi0 (H209 N))]) rfl tyOK (zao (zaa Tryz.func209 rfl rfl) ih (zac)) 1000 zrm zqe Tryz.func209 rfl rfl (by kernel_rfl) rfl rfl rfl rfl rfl rfl rfl rfl (λ _=>rfl) (λ _=>rfl) (λ _ _=>⟨rfl,rfl⟩) ?_;rintro ⟨s0,s1,s2,s3⟩ y hF;have hF : zqd (f209 N) N s0 s1 s2 s3 = some y := hF;show vc _ _ _ _ ⟨[(0, .dat (.agg [strN s0.customer,strN s0.edition,iN s0.n])),(1, .ptr 0 0)],[(0, .box [.mp 1, .mp 2, .mp 3]),(1,(sW [2] s1)),(2,(eW s2)),(3,(mW s3))]⟩ _;unfold zqd at hF
  repeat' (first
 | ((with_reducible first | refine q0 _ _ ?_ | refine q1 _ _ _ _ ?_ | refine q2 _ _ _ ?_);clear Q q0 q1 q2)
 | ((with_reducible first | refine zaI ?hx (λ Q q0 q1 q2=>?_) | refine za2 ?hx (λ Q q0 q1 q2=>?_) | refine zby ?hx (λ Q q0 q1 q2=>?_) | refine zbC ?hx (λ Q q0 q1 q2=>?_));(case hx=>exact rfl);conv=>whnf)
 | ((refine zkK 2 1303 hF rfl rfl rfl (by first | exact zal | exact za8 (by decide) zal) (by assumption) (by exact rfl) (by exact rfl) (λ q hq hF1=>?_));clear hF;(have hF := hF1);clear hF1;dsimp only [St.settledF];(first | ((with_reducible refine hR _ ?_);clear R hR) | ((with_reducible refine hL _ ?_);clear L hL)))
 | ((with_reducible refine zay ?_);(first | ((with_reducible refine hR _ ?_);clear R hR) | ((with_reducible refine hL _ ?_);clear L hL)))
 | ((with_reducible refine zaR ?_);(with_reducible refine hR _ _ ?hx ?_);(case hx=>kernel_rfl);clear R hR)
 | ((with_reducible first | refine zaK ?_);conv=>whnf)
 | (with_reducible first | refine zax ?_ | refine zaH ?_ | refine zak (λ R hR=>?_) | refine zaj ?_)
 | ((with_reducible refine zaz [] ?hx ?_);(case hx=>exact rfl))
 | ((with_reducible refine za4 ?hx (λ R L hL hR=>?_));(case hx=>exact rfl))
 | (cases hF;(refine Or.inl ?_);(conv=>whnf);exact ⟨rfl,rfl,rfl⟩)
 | (revert hF;(refine zdE (eK := strN) (eV := iN) zaD ?hk ?hz ?hd ?he ?_);(case hk=>exact λ _=>rfl);(case hz=>exact rfl);(case hd=>exact rfl);(case he=>exact rfl);intro x hF;conv=>whnf)
 | (revert hF;(refine zhs (eK := strN) (eV := iN) zaD ?hk ?hv ?hd ?he ?_);(case hk=>exact λ _=>rfl);(case hv=>exact rfl);(case hd=>exact rfl);(case he=>exact rfl);intro x hF;conv=>whnf)
 | (revert hF;(refine zhs (eK := strN) (eV := bN) zaD ?hk ?hv ?hd ?he ?_);(case hk=>exact λ _=>rfl);(case hv=>exact rfl);(case hd=>exact rfl);(case he=>exact rfl);intro x hF;conv=>whnf)
 | (revert hF;(refine zaG (eK := strN) (eM := EditionM.m) zaD ?hk ?hd ?he ?_ ?_);(case hk=>exact λ _=>rfl);(case hd=>exact rfl);(case he=>exact rfl);(intro hl hF;conv=>whnf);rotate_left;(intro i hl hF;conv=>whnf);rotate_right)
 | ((refine zaO rfl (by assumption) (by exact rfl) ?_);conv=>whnf)
 | ((with_reducible have hG := za7 hF);clear hF;(obtain ⟨⟨x,hx,hF⟩⟩ := hG);first | ((refine zaO rfl hx (by exact rfl) ?_);conv=>whnf) | skip)
 | ((refine ⟨(by first | exact zal | exact za8 (by decide) zal), ?_⟩);conv=>whnf)
 | ((refine zcS hF (by assumption) rfl (by exact rfl) (λ q hq hF1=>?_));clear hF;(have hF := hF1);clear hF1;conv=>whnf)
 | with_reducible refine zbe ?_
 | (have hF : (none : Option _) = some _ := hF;cases hF))
theorem P209 : CallOK Tryz.prog 209 (effPg zi0 G209) := zbE Q209
def zqf (self : Grinding -> LS -> LE -> LC -> Option (LS × LE)) (N : Nat) (s0 : Grinding) (s1 : LS) (s2 : LE) (s3 : LC) : Option (LS × LE) :=
 onO (zbF s0.stone s1) none λ x1 =>
 (getF s1 x1).bind λ x2 =>
 onO x2.of none λ x3 =>
 (getF s2 x3).bind λ x4 =>
 (some (setF s2 x3 ({ x4 with from_ := max x4.from_ (W (x2.place + (1 : Int))) }))).bind λ x5 =>
 (some (setF s1 x1 (StoneM.mk (W (x2.thick - (1 : Int))) none (0 : Int)))).bind λ x6 =>
 some (x6,x5)
def f214 : Nat -> Grinding -> LS -> LE -> LC -> Option (LS × LE)
 | 0,_,_,_,_=>none
 | N + 1,s0,s1,s2,s3=>zqf (f214 N) N s0 s1 s2 s3
def Af214 (s0 : Grinding) (s1 : LS) (s2 : LE) (s3 : LC) : List SV := [.dat (.agg [strN s0.stone]), .ptr 0 0]
def Bf214 (s0 : Grinding) (s1 : LS) (s2 : LE) (s3 : LC) : List Blk := [.box [.mp 1, .mp 2, .mp 3],(sW [2] s1),(eW s2),(mW s3)]
def Rf214 (y : LS × LE) : List SV := []
def zrn (s0 : Grinding) (s1 : LS) (s2 : LE) (s3 : LC) (y : LS × LE) : List Blk := [.box [.mp 1, .mp 2, .mp 3],(sW [2] y.1),(eW y.2),(mW s3)]
def zro (y : LS × LE) : List Blk := []
def zi1 : Spec (Grinding × LS × LE × LC) (LS × LE) := ⟨4,[],λ x=>Af214 x.1 x.2.1 x.2.2.1 x.2.2.2,λ x=>Bf214 x.1 x.2.1 x.2.2.1 x.2.2.2,λ _ y=>Rf214 y,λ x y=>zrn x.1 x.2.1 x.2.2.1 x.2.2.2 y,λ _ y=>zro y⟩
def H214 (N : Nat) (x : Grinding × LS × LE × LC) (y : LS × LE) : Prop := f214 N x.1 x.2.1 x.2.2.1 x.2.2.2 = some y
def G214 (x : Grinding × LS × LE × LC) (y : LS × LE) : Prop := ∃ N,H214 N x y
theorem G214.step {s1 s2 s3} {s0 : Grinding} {A : _ -> Option ρ} (ha : xs = [.dat (.agg [strN s0.stone]), .ptr k0 0]) (b0 : m k0 = .box [.mp k1, .mp k2, .mp k3]) (b1 : m k1 = (sW [k2] s1)) (b2 : m k2 = (eW s2)) (b3 : m k3 = (mW s3)) (hu : True) (hn : za6 [k0,k1,k2,k3] = true) (h : ∀ y,A y = some q -> K ⟨.tup [],[(k0, .box [.mp k1, .mp k2, .mp k3]),(k1,(sW [k2] y.1)),(k2,(eW y.2)),(k3,(mW s3))]⟩ ([Loc.b k0,Loc.b k1,Loc.b k2,Loc.b k3] ++ l)) (hF : (f214 N s0 s1 s2 s3).bind A = some q) : effPg zi1 (G214) xs id (λ _=>SV.no) m l K := by
 obtain ⟨y,hy,hA⟩ := bind_some hF;exact zaU [k0,k1,k2,k3] (s0,s1,s2,s3) y _ ⟨N,hy⟩ rfl hn ha (by simp only [List.map_cons,List.map_nil,b0,b1,b2,b3];rfl) rfl rfl rfl (h y hA)
def zrp : Ann := ⟨[],[0,1,2,3],[],[]⟩
def zqg : Ann := ⟨[],[0,1,2,3],[],[]⟩
set_option maxRecDepth 20000 in
set_option maxHeartbeats 4000000 in
theorem Q214 (N : Nat) : CallOK Tryz.prog 214 (effPg zi1 (H214 N)) := by
 induction N with
 | zero=>exact zaX λ x y h=>(by cases (show (none : Option (LS × LE)) = some y from h))
 | succ N ih =>
  refine zaF (c := zar zah [(214,true,effPg zi1 (H214 N))]) rfl tyOK (zao (zaa Tryz.func214 rfl rfl) ih (zac)) 1000 zrp zqg Tryz.func214 rfl rfl (by kernel_rfl) rfl rfl rfl rfl rfl rfl rfl rfl (λ _=>rfl) (λ _=>rfl) (λ _ _=>⟨rfl,rfl⟩) ?_;rintro ⟨s0,s1,s2,s3⟩ y hF;have hF : zqf (f214 N) N s0 s1 s2 s3 = some y := hF;show vc _ _ _ _ ⟨[(0, .dat (.agg [strN s0.stone])),(1, .ptr 0 0)],[(0, .box [.mp 1, .mp 2, .mp 3]),(1,(sW [2] s1)),(2,(eW s2)),(3,(mW s3))]⟩ _;unfold zqf at hF
  repeat' (first
 | ((with_reducible first | refine q0 _ _ ?_ | refine q1 _ _ _ _ ?_ | refine q2 _ _ _ ?_);clear Q q0 q1 q2)
 | ((with_reducible first | refine zaI ?hx (λ Q q0 q1 q2=>?_) | refine za2 ?hx (λ Q q0 q1 q2=>?_) | refine zby ?hx (λ Q q0 q1 q2=>?_) | refine zbC ?hx (λ Q q0 q1 q2=>?_));(case hx=>exact rfl);conv=>whnf)
 | ((with_reducible refine zay ?_);(first | ((with_reducible refine hR _ ?_);clear R hR) | ((with_reducible refine hL _ ?_);clear L hL)))
 | ((with_reducible refine zaR ?_);(with_reducible refine hR _ _ ?hx ?_);(case hx=>kernel_rfl);clear R hR)
 | ((with_reducible first | refine zaK ?_);conv=>whnf)
 | (with_reducible first | refine zax ?_ | refine zaH ?_ | refine zak (λ R hR=>?_) | refine zaj ?_)
 | ((with_reducible refine zaz [] ?hx ?_);(case hx=>exact rfl))
 | ((with_reducible refine za4 ?hx (λ R L hL hR=>?_));(case hx=>exact rfl))
 | (cases hF;(refine Or.inl ?_);(conv=>whnf);exact ⟨rfl,rfl,rfl⟩)
 | ((refine zj0 rfl (by assumption) (λ d hp=>?_));(conv=>whnf);(refine zm2 hF hp (by assumption) rfl (by exact rfl) (λ q hq hF1=>?_));clear hp;clear hF;(have hF := hF1);clear hF1;conv=>whnf)
 | (revert hF;(refine zaG (eK := strN) (eM := StoneM.m) zaD ?hk ?hd ?he ?_ ?_);(case hk=>exact λ _=>rfl);(case hd=>exact rfl);(case he=>exact rfl);(intro hl hF;conv=>whnf);rotate_left;(intro i hl hF;conv=>whnf);rotate_right)
 | ((refine zaO rfl (by assumption) (by exact rfl) ?_);conv=>whnf)
 | ((with_reducible have hG := za7 hF);clear hF;(obtain ⟨⟨x,hx,hF⟩⟩ := hG);first | ((refine zaO rfl hx (by exact rfl) ?_);conv=>whnf) | skip)
 | (revert hF;(refine zdg ?_ ?_);(intro ho hF;conv=>whnf);rotate_left;(intro j ho hF;conv=>whnf);rotate_right)
 | ((refine zeu (by assumption) ?_);conv=>whnf)
 | ((refine zm1 (by assumption) ?_);conv=>whnf)
 | ((refine zcS hF (by assumption) rfl (by exact rfl) (λ q hq hF1=>?_));clear hF;(have hF := hF1);clear hF1;conv=>whnf)
 | ((with_reducible refine zcq ?_);conv=>whnf)
 | with_reducible refine zbe ?_
 | (have hF : (none : Option _) = some _ := hF;cases hF))
theorem P214 : CallOK Tryz.prog 214 (effPg zi1 G214) := zbE Q214
def f30 (N : Nat) (a0 : Int) : Option (ByteArray) :=
 match N with | 0=>none | _ + 1=>(if 0 <= a0 /\ a0 < 1000000 then some ⟨(digs 7 a0.toNat).toArray⟩ else none)
def G30 (ds : List D) (d : D) : Prop := ∃ (N : Nat) (a0 : Int) (r : ByteArray),ds = [iN a0] /\ f30 N a0 = some r /\ d = strN r
theorem G30.lend {a0} {A : _ -> Option ρ} {K : D -> Prop} (hd : ds = [iN a0]) (h : ∀ r,A r = some q -> K (strN r)) (hF : (f30 N a0).bind A = some q) : ∃ d,(G30 ds d /\ d.flatB = true) /\ K d := by
 obtain ⟨r,hr,hA⟩ := bind_some hF;exact ⟨_,⟨⟨N,a0,r,hd,hr,rfl⟩,rfl⟩,h r hA⟩
theorem P30 : PureOK Tryz.prog 30 G30 := by
 rintro w Z vs ds d hZ hl hr hg ⟨N,a0,r,rfl,hF,rfl⟩
 rcases N with _ | N
 .cases hF
 simp only [f30] at hF
 split at hF
 .rename_i h
  cases hF
  obtain ⟨v,rfl,h1⟩ := zqE hl hr;obtain ⟨rfl,l1⟩ := zqK h1;refine (Go.Proofs.Tryz.strconv_Itoa a0 (by omega) (by omega) w (zqJ zoI hg)).mono ?_;rintro e w' ⟨rfl,k,os,rfl⟩
  have he : Lib.itoa a0 = digs 7 a0.toNat := by
   rw [Lib.itoa,if_neg (by omega),zpM 6 a0.toNat (by omega)]
  rw [he];refine ⟨_,rfl,zoH _ _ _, .v ?_⟩;show ByteArray.size _ <= maxLen;have := zoG 7 a0.toNat;simp only [ByteArray.size,List.size_toArray,maxLen];omega
 .cases hF
def f117 (N : Nat) (a0 : Int) (a1 : Int) (a2 : Int) : Option (Bool) :=
 bif decide (a0 <= a1) then (some (decide (a1 <= a2)))
 else (some (false))
def G117 (ds : List D) (d : D) : Prop := ∃ (N : Nat) (a0 : Int) (a1 : Int) (a2 : Int) (r : Bool),ds = [iN a0,iN a1,iN a2] /\ f117 N a0 a1 a2 = some r /\ d = bN r
theorem G117.lend {a0 a1 a2} {A : _ -> Option ρ} {K : D -> Prop} (hd : ds = [iN a0,iN a1,iN a2]) (h : ∀ r,A r = some q -> K (bN r)) (hF : (f117 N a0 a1 a2).bind A = some q) : ∃ d,(G117 ds d /\ d.flatB = true) /\ K d := by
 obtain ⟨r,hr,hA⟩ := bind_some hF;exact ⟨_,⟨⟨N,a0,a1,a2,r,hd,hr,rfl⟩,rfl⟩,h r hA⟩
set_option maxRecDepth 20000 in
set_option maxHeartbeats 4000000 in
theorem P117 : PureOK Tryz.prog 117 G117 := by
 refine zaE (c := zar zah []) rfl tyOK (zac) [[0]] 3 Tryz.func117 rfl rfl (by decide) (by kernel_rfl) ?_;rintro ds d ⟨N,a0,a1,a2,r,rfl,hF,rfl⟩ hok;clear hok;refine ⟨rfl, ?_⟩;show vc _ _ _ _ ⟨[(0, .dat (iN a0)),(1, .dat (iN a1)),(2, .dat (iN a2))],[]⟩ _;unfold f117 at hF
 repeat' (first
 | ((with_reducible first | refine q0 _ _ ?_ | refine q1 _ _ _ _ ?_ | refine q2 _ _ _ ?_);clear Q q0 q1 q2)
 | ((with_reducible first | refine zaI ?hx (λ Q q0 q1 q2=>?_));(case hx=>exact rfl);conv=>whnf)
 | ((with_reducible refine zc5 ?_);(first | ((first | refine zcB rfl ?hy (λ Q q0 q1 q2=>?_) | refine zb4 rfl ?hy (λ Q q0 q1 q2=>?_));(case hy=>first | assumption | exact notT (by assumption) | exact rfl);conv=>whnf) | ((first | refine zb3 rfl ?hy ?_ | refine zbQ rfl ?hy ?_);(case hy=>first | assumption | exact notF (by assumption) | exact rfl)) | (revert hF;(with_reducible first | refine zcC ?hx ?_ ?_ | refine zb5 ?hx ?_ ?_);(case hx=>exact rfl);(intro hc hF Q q0 q1 q2;conv=>whnf);rotate_left;(intro hc hF);rotate_right) | (revert hF;(with_reducible first | refine zcD ?hx ?_ ?_ | refine zb6 ?hx ?_ ?_);(case hx=>exact rfl);(intro hc hF);rotate_left;(intro hc hF Q q0 q1 q2;conv=>whnf);rotate_right)))
 | ((with_reducible refine zay ?_);(first | ((with_reducible refine hR _ ?_);clear R hR) | ((with_reducible refine hL _ ?_);clear L hL)))
 | (with_reducible first | refine zax ?_ | refine zaH ?_ | refine zak (λ R hR=>?_) | refine zaj ?_)
 | ((with_reducible refine zaz [] ?hx ?_);(case hx=>exact rfl))
 | ((with_reducible refine zcR ?hx ?_);(case hx=>first | exact rfl | assumption | exact notT (by assumption));conv=>whnf)
 | ((with_reducible refine zbZ ?hx ?_);(case hx=>first | exact rfl | assumption | exact notF (by assumption));conv=>whnf)
 | ((refine ⟨?hx,trivial⟩);(case hx=>(cases hF;exact rfl)))
 | with_reducible refine zbe ?_)
def zew (newslice6' : List Int) : Option ((List Int)) :=
 some (newslice6')
def zfQ : Lp ((List Int)) (Nat × Unit) ((List Int)) := lpm ⟨[6],[90006],[(.slot 6,90006,3,1)],[]⟩ (λ newslice6' => zew newslice6') (λ _ (m0,_)=>[.rs 90006 m0]) (λ newslice6' (_,_)=>[.row 3 1 (List.map iN (newslice6'))]) λ newslice6' => (List.length (newslice6'),())
instance zrq {newslice6'} : IsLp 1 1 (zew newslice6') (zfQ) newslice6' := ⟨rfl⟩
instance zrr : IsCut 1 (zew) (zfQ) 15 := ⟨⟩
def zkQ (r11 : (List Int) -> Int -> Option ((List Int))) (a0 : List (List Int)) (k0 : (List Int) -> Option ((List Int))) (newslice6' : List Int) (v27 : Int) : Option ((List Int)) :=
 bif decide (v27 < (List.length a0 : Int)) then ((ix a0 v27).bind λ x1 =>
 (app 8 (newslice6') x1).bind λ x2 =>
 r11 x2 (W (v27 + (1 : Int))))
 else (k0 (newslice6'))
def zfR (a0 : List (List Int)) (k0 : (List Int) -> Option ((List Int))) : Nat -> (List Int) -> Int -> Option ((List Int))
 | 0,_,_=>none
 | n + 1,newslice6',v27=>zkQ (zfR a0 k0 n) a0 k0 newslice6' v27
def zkR (a0 : List (List Int)) (k0 : (List Int) -> Option ((List Int))) : Lp (Nat × (List Int) × Int) (Nat × Unit) ((List Int)) := lpm ⟨[6,25,26,27],[90006],[(.slot 6,90006,3,1)],[]⟩ (λ (n,newslice6',v27)=>zfR a0 k0 n newslice6' v27) (λ (_,_,v27) (m0,_)=>[.rs 90006 m0, .dat (zaA a0), .dat (iN (List.length a0 : Int)), .dat (iN v27)]) (λ (_,newslice6',_) (_,_)=>[.row 3 1 (List.map iN (newslice6'))]) λ (_,newslice6',_)=>(List.length (newslice6'),())
instance Ef143_11 {a0 k0 n newslice6' v27} : IsLp 1 2 (zfR a0 k0 n newslice6' v27) (zkR a0 k0) (n,newslice6',v27) := ⟨rfl⟩
def zex (a0 : List (List Int)) (N : Nat) (newslice6 : List Int) : Option ((List Int)) :=
 zbM zew λ k0 =>
 zfR a0 k0 N newslice6 (0 : Int)
def zfS (a0 : List (List Int)) (N : Nat) : Lp ((List Int)) (Nat × Unit) ((List Int)) := lpm ⟨[0,6],[90006],[(.slot 6,90006,3,1)],[]⟩ (λ newslice6=>zex a0 N newslice6) (λ _ (m0,_)=>[.dat (zaA a0), .rs 90006 m0]) (λ newslice6 (_,_)=>[.row 3 1 (List.map iN newslice6)]) λ newslice6=>(List.length newslice6,())
instance zrs {a0 N newslice6} : IsLp 1 1 (zex a0 N newslice6) (zfS a0 N) newslice6 := ⟨rfl⟩
instance zrt {a0 N} : IsCut 1 (zex a0 N) (zfS a0 N) 10 := ⟨⟩
def zfT (a0 : List (List Int)) (N : Nat) (size3 : Int) : Option ((List Int)) :=
 zbM (zex a0 N) λ k1 =>
 bif decide (size3 < (0 : Int)) then none
 else (bif decide ((0 : Int) < (W (size3 - (W ((0 : Int) - (0 : Int)))))) then ((mkA 8 (0 : Int) (W (size3 - (W ((0 : Int) - (0 : Int)))))).bind λ x3 =>
 (subR x3 0 (0 : Int)).bind λ x4 =>
 k1 x4)
 else (k1 []))
def zhz (a0 : List (List Int)) (N : Nat) : Lp (Int) Unit ((List Int)) := lp0 ⟨[0,3],[],[],[]⟩ (λ size3=>[.dat (zaA a0), .dat (iN size3)]) (λ _=>[]) (λ size3=>zfT a0 N size3)
instance Ef143_c9 {a0 N size3} : IsLp 0 1 (zfT a0 N size3) (zhz a0 N) size3 := ⟨rfl⟩
instance Cf143_c9 {a0 N} : IsCut 1 (zfT a0 N) (zhz a0 N) 9 := ⟨⟩
def znf (r3 : Int -> Int -> Option ((List Int))) (a0 : List (List Int)) (k2 : Int -> Option ((List Int))) (size3 : Int) (v11 : Int) : Option ((List Int)) :=
 bif decide (v11 < (List.length a0 : Int)) then ((ix a0 v11).bind λ x5 =>
 bif decide ((W (size3 + (List.length x5 : Int))) < (0 : Int)) then none
 else (r3 (W (size3 + (List.length x5 : Int))) (W (v11 + (1 : Int)))))
 else (k2 size3)
def zi2 (a0 : List (List Int)) (k2 : Int -> Option ((List Int))) : Nat -> Int -> Int -> Option ((List Int))
 | 0,_,_=>none
 | n + 1,size3,v11=>znf (zi2 a0 k2 n) a0 k2 size3 v11
def zng (a0 : List (List Int)) (k2 : Int -> Option ((List Int))) : Lp (Nat × Int × Int) Unit ((List Int)) := lp0 ⟨[0,3,9,10,11],[],[],[]⟩ (λ (_,size3,v11)=>[.dat (zaA a0), .dat (iN size3), .dat (zaA a0), .dat (iN (List.length a0 : Int)), .dat (iN v11)]) (λ (_,_,_)=>[]) (λ (n,size3,v11)=>zi2 a0 k2 n size3 v11)
instance Ef143_3 {a0 k2 n size3 v11} : IsLp 0 2 (zi2 a0 k2 n size3 v11) (zng a0 k2) (n,size3,v11) := ⟨rfl⟩
def f143 (N : Nat) (a0 : List (List Int)) : Option ((List Int)) :=
 zbM (zfT a0 N) λ k2 =>
 zi2 a0 k2 N (0 : Int) (0 : Int)
def G143 (ds : List D) (d : D) : Prop := ∃ (N : Nat) (a0 : List (List Int)) (r : (List Int)),ds = [zaA a0] /\ f143 N a0 = some r /\ d = zbN r
theorem G143.step {a0} {A : _ -> Option ρ} {K : D -> Prop} (hd : ds = [zaA a0]) (h : ∀ r,A r = some q -> K (zbN r)) (hF : (f143 N a0).bind A = some q) : ∃ d,G143 ds d /\ K d := by
 obtain ⟨r,hr,hA⟩ := bind_some hF;exact ⟨_,⟨N,a0,r,hd,hr,rfl⟩,h r hA⟩
set_option maxRecDepth 20000 in
set_option maxHeartbeats 4000000 in
theorem P143 : PureOK Tryz.prog 143 G143 := by
 refine zaE (c := zar zah [(166,false,zba (zar zah []) Tryz.f166)]) rfl tyOK (zaw (zaa Tryz.func166 rfl rfl) (CallOK.inl rfl tyOK (zac) Tryz.func166 (by kernel_rfl)) (zac)) [[1]] 1 Tryz.func143 rfl rfl (by decide) (by kernel_rfl) ?_;rintro ds d ⟨N,a0,r,rfl,hF,rfl⟩ hok;clear hok;refine ⟨rfl, ?_⟩;show vc _ _ _ _ ⟨[(0, .dat (zaA a0))],[]⟩ _;unfold f143 at hF
 repeat' (first
 | ((with_reducible first | refine q0 _ _ ?_ | refine q1 _ _ _ _ ?_ | refine q2 _ _ _ ?_);clear Q q0 q1 q2)
 | ((with_reducible first | refine zaI ?hx (λ Q q0 q1 q2=>?_) | refine zby ?hx (λ Q q0 q1 q2=>?_));(case hx=>exact rfl);conv=>whnf)
 | ((with_reducible refine zaP ?_);(first | ((refine zbb rfl ?hy ?_);(case hy=>first | assumption | exact notT (by assumption) | exact rfl)) | ((refine zbc rfl ?hy ?_);(case hy=>first | assumption | exact notF (by assumption) | exact rfl)) | (revert hF;(with_reducible refine zbP ?hx ?_ ?_);(case hx=>exact rfl);all_goals (intro hc hF))))
 | ((with_reducible refine zay ?_);(first | ((with_reducible refine hR _ ?_);clear R hR) | ((with_reducible refine hL _ ?_);clear L hL)))
 | ((with_reducible first | refine zaK ?_ | refine zbm ?_ | refine idx2 (by assumption) ?_ | refine idx3 (by assumption) ?_);conv=>whnf)
 | (with_reducible first | refine zaB ?_ | refine zax ?_ | refine zaH ?_ | refine zaM ?_ | refine zak (λ R hR=>?_) | refine zaj ?_ | refine zan ?_ | refine zbO ?_ | refine zav ?_ | refine zap ?_ | refine zaW ?_ | refine zaN ?_)
 | ((with_reducible refine zaz [15,10,9] ?hx ?_);(case hx=>exact rfl))
 | ((with_reducible replace hF := isE hF);(dsimp only [zfQ,zkR,zfS,zhz,zng,zfR,zi2] at hF);first | rewrite [zew] at hF | rewrite [zkQ] at hF | rewrite [zex] at hF | rewrite [zfT] at hF | rewrite [znf] at hF)
 | ((with_reducible refine zbn ?_);(with_reducible replace hF := zcA 1 hF);((refine Lp.cutI hF rfl rfl ?_ ?_) <;> clear hF);(intro hF);rotate_left;(rintro _ hF);rotate_right)
 | ((with_reducible refine zbd ?_);(with_reducible replace hF := toLp 1 1 hF);exact Lp.headI hF (_,()) ⟨_,rfl,rfl,rfl,rfl⟩ (pr2 (by first | exact rfl | assumption | omega | (simp only [List.length_set];done)) rfl))
 | ((with_reducible refine zbr ?_);(with_reducible replace hF := toLp 1 2 hF);((refine Lp.loopI hF (_,()) rfl ⟨_,rfl,rfl,rfl,rfl⟩ (pr2 (by first | exact rfl | assumption | omega | (simp only [List.length_set];done)) rfl) (λ _=>rfl) ?_);clear hF);(rintro n ⟨_,_⟩ hF))
 | ((with_reducible refine zbs ?_);(with_reducible replace hF := toLp 1 2 hF);exact Lp.backI hF (_,()) ⟨_,rfl,rfl,rfl,rfl⟩ (pr2 (by first | exact rfl | assumption | omega | (simp only [List.length_set];done)) rfl))
 | ((with_reducible refine zbd ?_);(with_reducible replace hF := toLp 0 1 hF);exact Lp.headI hF () ⟨_,rfl,rfl,rfl,rfl⟩ rfl)
 | ((with_reducible refine zbr ?_);(with_reducible replace hF := toLp 0 2 hF);((refine Lp.loopI hF () rfl ⟨_,rfl,rfl,rfl,rfl⟩ rfl (λ _=>rfl) ?_);clear hF);(rintro n ⟨_,_⟩ hF))
 | ((with_reducible refine zbs ?_);(with_reducible replace hF := toLp 0 2 hF);exact Lp.backI hF () ⟨_,rfl,rfl,rfl,rfl⟩ rfl)
 | (revert hF;(refine zpF (d := iN) ?hz ?_);(case hz=>exact rfl);intro x hF;conv=>whnf)
 | (revert hF;(with_reducible refine idx1 ?hn ?_);(case hn=>first | exact rfl | exact (List.length_map _) | assumption | omega | simp);intro x hx hF;conv=>whnf)
 | ((with_reducible have hG := zmI hF);clear hF;(refine Or.inl (Or.inl ?_));(conv=>whnf);(refine zjY hG ?hn (λ q hF=>?_);(case hn=>first | exact rfl | assumption | omega));clear hG;conv=>whnf)
 | ((with_reducible have hG := zc4 hF);clear hF;(first | ((refine zdq hG ?hn ?hs (λ q hF=>?_));(case hn=>first | exact rfl | assumption | omega);(case hs=>exact rfl)) | ((refine zdB (d := iN) hG ?hs (λ q hF=>?_));(case hs=>exact rfl)) | ((refine zdC (d := iN) hG ?ho ?hn ?hs (λ q hF=>?_));(case ho=>exact rfl);(case hn=>exact rfl);(case hs=>exact rfl)));clear hG;conv=>whnf)
 | ((refine zdr ?hn ?_);(case hn=>first | exact rfl | (simp;done) | (simp;omega));conv=>whnf)
 | ((with_reducible refine zcq ?_);conv=>whnf)
 | ((refine zae 901 902000000 rfl rfl (Nat.le_of_ble_eq_true rfl) rfl (λ R hR=>?_));(conv=>whnf);(with_reducible refine hR _ ?ha ?_);(case ha=>exact rfl);clear R hR)
 | (show Kinl _ _ _ _ _ _ _;conv=>whnf)
 | ((with_reducible refine zbt ?ha ?hb ?_);(case ha=>exact rfl);(case hb=>exact rfl);conv=>whnf)
 | ((refine ⟨?hx,trivial⟩);(case hx=>(cases hF;exact rfl)))
 | ((refine ⟨?hx, ?_⟩);(case hx=>decide);conv=>whnf)
 | with_reducible refine zbe ?_
 | (have hF : (none : Option _) = some _ := hF;cases hF))
def zey (twice3 : Bool) : Option (Bool) :=
 some (twice3)
def zfU : Lp (Bool) Unit (Bool) := lp0 ⟨[3],[],[],[]⟩ (λ twice3=>[.kb twice3]) (λ _=>[]) (λ twice3=>zey twice3)
instance zru {twice3} : IsLp 0 1 (zey twice3) (zfU) twice3 := ⟨rfl⟩
instance zrv : IsCut 1 (zey) (zfU) 15 := ⟨⟩
def zez (a0 : List (List Int)) (v12 : Int) (r3 : Bool -> Int -> Option (Bool)) (twice3' : Bool) : Option (Bool) :=
 r3 (twice3') (W (v12 + (1 : Int)))
def zfV (a0 : List (List Int)) (v12 : Int) (r3 : Bool -> Int -> Option (Bool)) : Lp (Bool) Unit (Bool) := lp0 ⟨[0,3,11,12],[],[],[]⟩ (λ twice3' => [.dat (zaA a0), .kb (twice3'), .dat (iN (List.length a0 : Int)), .dat (iN v12)]) (λ _=>[]) (λ twice3' => zez a0 v12 r3 twice3')
instance zrw {a0 v12 r3 twice3'} : IsLp 0 1 (zez a0 v12 r3 twice3') (zfV a0 v12 r3) twice3' := ⟨rfl⟩
instance zrx {a0 v12 r3} : IsCut 1 (zez a0 v12 r3) (zfV a0 v12 r3) 14 := ⟨⟩
def znh (r7 : Bool -> Int -> (List Bool) -> (List Bool) -> Option (Bool)) (a0 : List (List Int)) (k0 : Bool -> Option (Bool)) (v12 : Int) (k1 : Bool -> Option (Bool)) (twice3' : Bool) (v17 : Int) (b500 : List Bool) (b501 : List Bool) : Option (Bool) :=
 bif decide (v17 < (List.length a0 : Int)) then ((ix a0 v12).bind λ x1 =>
 (ix x1 v17).bind λ x2 =>
 (ix a0 v17).bind λ x3 =>
 (ix x3 v12).bind λ x4 =>
 (chkI 10 x2).bind λ _ =>
 (ixN b500 (Int.toNat x2)).bind λ x5 =>
 bif x5 then (k0 true)
 else ((chkI 10 x4).bind λ _ =>
 (ixN b501 (Int.toNat x4)).bind λ x6 =>
 bif x6 then (k0 true)
 else ((chkI 10 x2).bind λ _ =>
 (setN b500 (Int.toNat x2) true).bind λ x7 =>
 (chkI 10 x4).bind λ _ =>
 (setN b501 (Int.toNat x4) true).bind λ x8 =>
 r7 (twice3') (W (v17 + (1 : Int))) x7 x8)))
 else (k1 (twice3'))
def zi3 (a0 : List (List Int)) (k0 : Bool -> Option (Bool)) (v12 : Int) (k1 : Bool -> Option (Bool)) : Nat -> Bool -> Int -> (List Bool) -> (List Bool) -> Option (Bool)
 | 0,_,_,_,_=>none
 | n + 1,twice3',v17,b500,b501=>znh (zi3 a0 k0 v12 k1 n) a0 k0 v12 k1 twice3' v17 b500 b501
def zni (a0 : List (List Int)) (k0 : Bool -> Option (Bool)) (v12 : Int) (k1 : Bool -> Option (Bool)) : Lp (Nat × Bool × Int × (List Bool) × (List Bool)) Unit (Bool) := lp0 ⟨[0,3,4,5,6,11,12,16,17],[500,501],[],[]⟩ (λ (_,twice3',v17,_,_)=>[.dat (zaA a0), .kb (twice3'), .dat (iN v12), .ptr 500 0, .ptr 501 0, .dat (iN (List.length a0 : Int)), .dat (iN v12), .dat (iN (List.length a0 : Int)), .dat (iN v17)]) (λ (_,_,_,b500,b501)=>[.arr (List.map bN b500), .arr (List.map bN b501)]) (λ (n,twice3',v17,b500,b501)=>zi3 a0 k0 v12 k1 n twice3' v17 b500 b501)
instance Ef145_7 {a0 k0 v12 k1 n twice3' v17 b500 b501} : IsLp 0 4 (zi3 a0 k0 v12 k1 n twice3' v17 b500 b501) (zni a0 k0 v12 k1) (n,twice3',v17,b500,b501) := ⟨rfl⟩
def znj (r3 : Bool -> Int -> Option (Bool)) (a0 : List (List Int)) (N : Nat) (k0 : Bool -> Option (Bool)) (twice3 : Bool) (v12 : Int) : Option (Bool) :=
 bif decide (v12 < (List.length a0 : Int)) then (zbM (zez a0 v12 r3) λ k1 =>
 zi3 a0 k0 v12 k1 N twice3 (0 : Int) (List.replicate 10 false) (List.replicate 10 false))
 else (k0 twice3)
def zi4 (a0 : List (List Int)) (N : Nat) (k0 : Bool -> Option (Bool)) : Nat -> Bool -> Int -> Option (Bool)
 | 0,_,_=>none
 | n + 1,twice3,v12=>znj (zi4 a0 N k0 n) a0 N k0 twice3 v12
def znk (a0 : List (List Int)) (N : Nat) (k0 : Bool -> Option (Bool)) : Lp (Nat × Bool × Int) Unit (Bool) := lp0 ⟨[0,3,11,12],[],[],[]⟩ (λ (_,twice3,v12)=>[.dat (zaA a0), .kb twice3, .dat (iN (List.length a0 : Int)), .dat (iN v12)]) (λ (_,_,_)=>[]) (λ (n,twice3,v12)=>zi4 a0 N k0 n twice3 v12)
instance Ef145_3 {a0 N k0 n twice3 v12} : IsLp 0 2 (zi4 a0 N k0 n twice3 v12) (znk a0 N k0) (n,twice3,v12) := ⟨rfl⟩
def f145 (N : Nat) (a0 : List (List Int)) : Option (Bool) :=
 zbM zey λ k0 =>
 zi4 a0 N k0 N false (0 : Int)
def G145 (ds : List D) (d : D) : Prop := ∃ (N : Nat) (a0 : List (List Int)) (r : Bool),ds = [zaA a0] /\ f145 N a0 = some r /\ d = bN r
theorem G145.lend {a0} {A : _ -> Option ρ} {K : D -> Prop} (hd : ds = [zaA a0]) (h : ∀ r,A r = some q -> K (bN r)) (hF : (f145 N a0).bind A = some q) : ∃ d,(G145 ds d /\ d.flatB = true) /\ K d := by
 obtain ⟨r,hr,hA⟩ := bind_some hF;exact ⟨_,⟨⟨N,a0,r,hd,hr,rfl⟩,rfl⟩,h r hA⟩
set_option maxRecDepth 20000 in
set_option maxHeartbeats 4000000 in
theorem P145 : PureOK Tryz.prog 145 G145 := by
 refine zaE (c := zar zah []) rfl tyOK (zac) [[0]] 1 Tryz.func145 rfl rfl (by decide) (by kernel_rfl) ?_;rintro ds d ⟨N,a0,r,rfl,hF,rfl⟩ hok;clear hok;refine ⟨rfl, ?_⟩;show vc _ _ _ _ ⟨[(0, .dat (zaA a0))],[]⟩ _;unfold f145 at hF
 repeat' (first
 | ((with_reducible first | refine q0 _ _ ?_ | refine q1 _ _ _ _ ?_ | refine q2 _ _ _ ?_);clear Q q0 q1 q2)
 | ((with_reducible first | refine zaI ?hx (λ Q q0 q1 q2=>?_) | refine za2 ?hx (λ Q q0 q1 q2=>?_) | refine zby ?hx (λ Q q0 q1 q2=>?_) | refine zbC ?hx (λ Q q0 q1 q2=>?_));(case hx=>exact rfl);conv=>whnf)
 | ((with_reducible first | refine zbT ?hx ?_ | refine zbw ?hx ?_ | refine zcF ?hx ?_ | refine zcf ?hx ?_ | refine zbf ?hx ?_ | refine zbv ?hx ?_);(case hx=>exact rfl))
 | ((with_reducible refine zc5 ?_);(first | ((first | refine zcB rfl ?hy (λ Q q0 q1 q2=>?_) | refine zb4 rfl ?hy (λ Q q0 q1 q2=>?_));(case hy=>first | assumption | exact notT (by assumption) | exact rfl);conv=>whnf) | ((first | refine zb3 rfl ?hy ?_ | refine zbQ rfl ?hy ?_);(case hy=>first | assumption | exact notF (by assumption) | exact rfl)) | (revert hF;(with_reducible first | refine zcC ?hx ?_ ?_ | refine zb5 ?hx ?_ ?_);(case hx=>exact rfl);(intro hc hF Q q0 q1 q2;conv=>whnf);rotate_left;(intro hc hF);rotate_right) | (revert hF;(with_reducible first | refine zcD ?hx ?_ ?_ | refine zb6 ?hx ?_ ?_);(case hx=>exact rfl);(intro hc hF);rotate_left;(intro hc hF Q q0 q1 q2;conv=>whnf);rotate_right)))
 | ((with_reducible refine zaP ?_);(first | ((refine zbb rfl ?hy ?_);(case hy=>first | assumption | exact notT (by assumption) | exact rfl)) | ((refine zbc rfl ?hy ?_);(case hy=>first | assumption | exact notF (by assumption) | exact rfl)) | (revert hF;(with_reducible refine zbP ?hx ?_ ?_);(case hx=>exact rfl);all_goals (intro hc hF))))
 | ((with_reducible refine zay ?_);(first | ((with_reducible refine hR _ ?_);clear R hR) | ((with_reducible refine hL _ ?_);clear L hL)))
 | ((with_reducible refine zaR ?_);(with_reducible refine hR _ _ ?hx ?_);(case hx=>kernel_rfl);clear R hR)
 | ((with_reducible first | refine zaK ?_ | refine zbm ?_ | refine idx2 (by assumption) ?_ | refine idx3 (by assumption) ?_);conv=>whnf)
 | (with_reducible first | refine zaB ?_ | refine zax ?_ | refine znQ ?_ | refine znP ?_ | refine zaH ?_ | refine zaM ?_ | refine zak (λ R hR=>?_) | refine zaj ?_ | refine zan ?_ | refine zbO ?_ | refine zav ?_ | refine zap ?_ | refine zaW ?_ | refine zaN ?_)
 | ((with_reducible refine zaz [15,14] ?hx ?_);(case hx=>exact rfl))
 | ((with_reducible refine za4 ?hx (λ R L hL hR=>?_));(case hx=>exact rfl))
 | ((with_reducible replace hF := isE hF);(dsimp only [zfU,zfV,zni,znk,zi3,zi4] at hF);first | rewrite [zey] at hF | rewrite [zez] at hF | rewrite [znh] at hF | rewrite [znj] at hF)
 | ((with_reducible refine zbn ?_);(with_reducible replace hF := zcA 1 hF);((refine Lp.cutI hF rfl rfl ?_ ?_) <;> clear hF);(intro hF);rotate_left;(rintro _ hF);rotate_right)
 | ((with_reducible refine zbd ?_);(with_reducible replace hF := toLp 0 1 hF);exact Lp.headI hF () ⟨_,rfl,rfl,rfl,rfl⟩ rfl)
 | ((with_reducible refine zbr ?_);(with_reducible replace hF := toLp 0 4 hF);((refine Lp.loopI hF () rfl ⟨_,rfl,rfl,rfl,rfl⟩ rfl (λ _=>rfl) ?_);clear hF);(rintro n ⟨_,_,_,_⟩ hF))
 | ((with_reducible refine zbs ?_);(with_reducible replace hF := toLp 0 4 hF);exact Lp.backI hF () ⟨_,rfl,rfl,rfl,rfl⟩ rfl)
 | ((with_reducible refine zbr ?_);(with_reducible replace hF := toLp 0 2 hF);((refine Lp.loopI hF () rfl ⟨_,rfl,rfl,rfl,rfl⟩ rfl (λ _=>rfl) ?_);clear hF);(rintro n ⟨_,_⟩ hF))
 | ((with_reducible refine zbs ?_);(with_reducible replace hF := toLp 0 2 hF);exact Lp.backI hF () ⟨_,rfl,rfl,rfl,rfl⟩ rfl)
 | ((refine Or.inr ?_);(conv=>whnf);(with_reducible refine zgJ (List.map bN (List.replicate 10 false)) ?hx ?_);(case hx=>(unfold zkW;kernel_rfl));conv=>whnf)
 | ((with_reducible refine zmP hF ?_);(clear hF;intro hF;conv=>whnf))
 | ((with_reducible have hG := zkC hF);clear hF;(first | (refine zmQ hG (by (try simp only [W]);omega) (λ x hF=>?_)) | (refine zmR hG (λ _=>rfl) (by (try simp only [W]);omega) (λ x hF=>?_)));clear hG;conv=>whnf)
 | ((with_reducible have hG := ziE hF);clear hF;(first | (refine zkD hG (by (try simp only [W]);omega) rfl rfl (λ q hF=>?_)) | (refine zkE hG (λ _=>rfl) (by (try simp only [W]);omega) rfl rfl (λ q hF=>?_)));clear hG;conv=>whnf)
 | (revert hF;(with_reducible refine idx1 ?hn ?_);(case hn=>first | exact rfl | exact (List.length_map _) | assumption | omega | simp);intro x hx hF;conv=>whnf)
 | ((with_reducible refine zcR ?hx ?_);(case hx=>first | exact rfl | assumption | exact notT (by assumption));conv=>whnf)
 | ((with_reducible refine zbZ ?hx ?_);(case hx=>first | exact rfl | assumption | exact notF (by assumption));conv=>whnf)
 | ((refine ⟨?hx,trivial⟩);(case hx=>(cases hF;exact rfl)))
 | with_reducible refine zbe ?_)
def zcz (a0 : List (List Int)) (start0 : Int) : Option (Int) :=
 some (start0)
def zds (a0 : List (List Int)) : Lp (Int) Unit (Int) := lp0 ⟨[0],[0],[],[]⟩ (λ start0=>[.dat (iN start0)]) (λ _=>[.box [.dat (zaA a0)]]) (λ start0=>zcz a0 start0)
instance zoK {a0 start0} : IsLp 0 1 (zcz a0 start0) (zds a0) start0 := ⟨rfl⟩
instance zoL {a0} : IsCut 1 (zcz a0) (zds a0) 104000000006 := ⟨⟩
def ze5 (r2 : Int -> Int -> Option (Int)) (a0 : List (List Int)) (a2 : List Int) (k0 : Int -> Option (Int)) (start0 : Int) (v11 : Int) : Option (Int) :=
 bif decide (v11 < (List.length a2 : Int)) then ((ix a2 v11).bind λ x1 =>
 (ix a0 start0).bind λ x2 =>
 (ix x2 x1).bind λ x3 =>
 r2 x3 (W (v11 + (1 : Int))))
 else (k0 start0)
def zcU (a0 : List (List Int)) (a2 : List Int) (k0 : Int -> Option (Int)) : Nat -> Int -> Int -> Option (Int)
 | 0,_,_=>none
 | n + 1,start0,v11=>ze5 (zcU a0 a2 k0 n) a0 a2 k0 start0 v11
def ze6 (a0 : List (List Int)) (a2 : List Int) (k0 : Int -> Option (Int)) : Lp (Nat × Int × Int) Unit (Int) := lp0 ⟨[0,2,9,10,11],[0],[],[]⟩ (λ (_,start0,v11)=>[.dat (iN start0), .fn 160 [] [.ptr 0 0], .dat (zbN a2), .dat (iN (List.length a2 : Int)), .dat (iN v11)]) (λ (_,_,_)=>[.box [.dat (zaA a0)]]) (λ (n,start0,v11)=>zcU a0 a2 k0 n start0 v11)
instance zo3 {a0 a2 k0 n start0 v11} : IsLp 0 2 (zcU a0 a2 k0 n start0 v11) (ze6 a0 a2 k0) (n,start0,v11) := ⟨rfl⟩
def f132 (N : Nat) (a0 : List (List Int)) (a1 : Int) (a2 : List Int) : Option (Int) :=
 zbM (zcz a0) λ k0 =>
 zcU a0 a2 k0 N a1 (0 : Int)
def G132 (ds : List D) (d : D) : Prop := ∃ (N : Nat) (a0 : List (List Int)) (a1 : Int) (a2 : List Int) (r : Int),ds = [zaA a0,iN a1,zbN a2] /\ f132 N a0 a1 a2 = some r /\ d = iN r
theorem G132.lend {a0 a1 a2} {A : _ -> Option ρ} {K : D -> Prop} (hd : ds = [zaA a0,iN a1,zbN a2]) (h : ∀ r,A r = some q -> K (iN r)) (hF : (f132 N a0 a1 a2).bind A = some q) : ∃ d,(G132 ds d /\ d.flatB = true) /\ K d := by
 obtain ⟨r,hr,hA⟩ := bind_some hF;exact ⟨_,⟨⟨N,a0,a1,a2,r,hd,hr,rfl⟩,rfl⟩,h r hA⟩
set_option maxRecDepth 20000 in
set_option maxHeartbeats 4000000 in
theorem P132 : PureOK Tryz.prog 132 G132 := by
 refine zaE (c := zar zah [(159,false,zba (zar zah [(160,false,zba (zar zah []) Tryz.f160)]) Tryz.f159)]) rfl tyOK (zaw (zaa Tryz.func159 rfl rfl) (CallOK.inl rfl tyOK (zaw (zaa Tryz.func160 rfl rfl) (CallOK.inl rfl tyOK (zac) Tryz.func160 (by kernel_rfl)) (zac)) Tryz.func159 (by kernel_rfl)) (zac)) [[0]] 3 Tryz.func132 rfl rfl (by decide) (by kernel_rfl) ?_;rintro ds d ⟨N,a0,a1,a2,r,rfl,hF,rfl⟩ hok;clear hok;refine ⟨rfl, ?_⟩;show vc _ _ _ _ ⟨[(0, .dat (zaA a0)),(1, .dat (iN a1)),(2, .dat (zbN a2))],[]⟩ _;unfold f132 at hF
 repeat' (first
 | ((with_reducible first | refine q0 _ _ ?_ | refine q1 _ _ _ _ ?_ | refine q2 _ _ _ ?_);clear Q q0 q1 q2)
 | ((with_reducible first | refine zaI ?hx (λ Q q0 q1 q2=>?_));(case hx=>exact rfl);conv=>whnf)
 | ((with_reducible refine zaP ?_);(first | ((refine zbb rfl ?hy ?_);(case hy=>first | assumption | exact notT (by assumption) | exact rfl)) | ((refine zbc rfl ?hy ?_);(case hy=>first | assumption | exact notF (by assumption) | exact rfl)) | (revert hF;(with_reducible refine zbP ?hx ?_ ?_);(case hx=>exact rfl);all_goals (intro hc hF))))
 | ((with_reducible refine zay ?_);(first | ((with_reducible refine hR _ ?_);clear R hR) | ((with_reducible refine hL _ ?_);clear L hL)))
 | ((with_reducible first | refine zaK ?_ | refine zbm ?_ | refine idx2 (by assumption) ?_ | refine idx3 (by assumption) ?_);conv=>whnf)
 | (with_reducible first | refine zaB ?_ | refine zax ?_ | refine zaH ?_ | refine zaM ?_ | refine zak (λ R hR=>?_) | refine zaj ?_ | refine zan ?_ | refine zbO ?_ | refine zav ?_ | refine zap ?_ | refine zaW ?_ | refine zaN ?_)
 | ((with_reducible refine zaz [104000000006] ?hx ?_);(case hx=>exact rfl))
 | ((with_reducible replace hF := isE hF);(dsimp only [zds,ze6,zcU] at hF);first | rewrite [zcz] at hF | rewrite [ze5] at hF)
 | ((with_reducible refine zbn ?_);(with_reducible replace hF := zcA 1 hF);((refine Lp.cutI hF rfl rfl ?_ ?_) <;> clear hF);(intro hF);rotate_left;(rintro _ hF);rotate_right)
 | ((with_reducible refine zbd ?_);(with_reducible replace hF := toLp 0 1 hF);exact Lp.headI hF () ⟨_,rfl,rfl,rfl,rfl⟩ rfl)
 | ((with_reducible refine zbr ?_);(with_reducible replace hF := toLp 0 2 hF);((refine Lp.loopI hF () rfl ⟨_,rfl,rfl,rfl,rfl⟩ rfl (λ _=>rfl) ?_);clear hF);(rintro n ⟨_,_⟩ hF))
 | ((with_reducible refine zbs ?_);(with_reducible replace hF := toLp 0 2 hF);exact Lp.backI hF () ⟨_,rfl,rfl,rfl,rfl⟩ rfl)
 | (revert hF;(with_reducible refine idx1 ?hn ?_);(case hn=>first | exact rfl | exact (List.length_map _) | assumption | omega | simp);intro x hx hF;conv=>whnf)
 | ((refine zae 103 104000000 rfl rfl (Nat.le_of_ble_eq_true rfl) rfl (λ R hR=>?_));(conv=>whnf);(with_reducible refine hR _ ?ha ?_);(case ha=>exact rfl);clear R hR)
 | ((refine zae 104000403 104000404000000 rfl rfl (Nat.le_of_ble_eq_true rfl) rfl (λ R hR=>?_));(conv=>whnf);(with_reducible refine hR _ ?ha ?_);(case ha=>exact rfl);clear R hR)
 | (show Kinl _ _ _ _ _ _ _;conv=>whnf)
 | ((with_reducible refine zbt ?ha ?hb ?_);(case ha=>exact rfl);(case hb=>exact rfl);conv=>whnf)
 | ((refine ⟨?hx,trivial⟩);(case hx=>(cases hF;exact rfl)))
 | with_reducible refine zbe ?_)
def zeR : Option (Int) :=
 some ((-1 : Int))
def zhA : Lp (Unit) Unit (Int) := lp0 ⟨[],[],[],[]⟩ (λ _=>[]) (λ _=>[]) (λ _=>zeR)
instance Ef147_c7 : IsLp 0 0 (zeR) (zhA) () := ⟨rfl⟩
instance Cf147_c7 : IsCut 0 (zeR) (zhA) 7 := ⟨⟩
def znl (r2 : Int -> Option (Int)) (a0 : List Int) (a1 : Int) (k0 : Option (Int)) (v8 : Int) : Option (Int) :=
 bif decide (v8 < (List.length a0 : Int)) then ((ix a0 v8).bind λ x1 =>
 bif decide (a1 = x1) then (some (v8))
 else (r2 (W (v8 + (1 : Int)))))
 else k0
def zi5 (a0 : List Int) (a1 : Int) (k0 : Option (Int)) : Nat -> Int -> Option (Int)
 | 0,_=>none
 | n + 1,v8=>znl (zi5 a0 a1 k0 n) a0 a1 k0 v8
def znm (a0 : List Int) (a1 : Int) (k0 : Option (Int)) : Lp (Nat × Int) Unit (Int) := lp0 ⟨[0,1,7,8],[],[],[]⟩ (λ (_,v8)=>[.dat (zbN a0), .dat (iN a1), .dat (iN (List.length a0 : Int)), .dat (iN v8)]) (λ (_,_)=>[]) (λ (n,v8)=>zi5 a0 a1 k0 n v8)
instance Ef147_2 {a0 a1 k0 n v8} : IsLp 0 1 (zi5 a0 a1 k0 n v8) (znm a0 a1 k0) (n,v8) := ⟨rfl⟩
def f147 (N : Nat) (a0 : List Int) (a1 : Int) : Option (Int) :=
 zbM zeR λ k0 =>
 zi5 a0 a1 k0 N (0 : Int)
def G147 (ds : List D) (d : D) : Prop := ∃ (N : Nat) (a0 : List Int) (a1 : Int) (r : Int),ds = [zbN a0,iN a1] /\ f147 N a0 a1 = some r /\ d = iN r
theorem G147.lend {a0 a1} {A : _ -> Option ρ} {K : D -> Prop} (hd : ds = [zbN a0,iN a1]) (h : ∀ r,A r = some q -> K (iN r)) (hF : (f147 N a0 a1).bind A = some q) : ∃ d,(G147 ds d /\ d.flatB = true) /\ K d := by
 obtain ⟨r,hr,hA⟩ := bind_some hF;exact ⟨_,⟨⟨N,a0,a1,r,hd,hr,rfl⟩,rfl⟩,h r hA⟩
set_option maxRecDepth 20000 in
set_option maxHeartbeats 4000000 in
theorem P147 : PureOK Tryz.prog 147 G147 := by
 refine zaE (c := zar zah []) rfl tyOK (zac) [[0]] 2 Tryz.func147 rfl rfl (by decide) (by kernel_rfl) ?_;rintro ds d ⟨N,a0,a1,r,rfl,hF,rfl⟩ hok;clear hok;refine ⟨rfl, ?_⟩;show vc _ _ _ _ ⟨[(0, .dat (zbN a0)),(1, .dat (iN a1))],[]⟩ _;unfold f147 at hF
 repeat' (first
 | ((with_reducible first | refine q0 _ _ ?_ | refine q1 _ _ _ _ ?_ | refine q2 _ _ _ ?_);clear Q q0 q1 q2)
 | ((with_reducible first | refine zaI ?hx (λ Q q0 q1 q2=>?_));(case hx=>exact rfl);conv=>whnf)
 | ((with_reducible refine zaP ?_);(first | ((refine zbb rfl ?hy ?_);(case hy=>first | assumption | exact notT (by assumption) | exact rfl)) | ((refine zbc rfl ?hy ?_);(case hy=>first | assumption | exact notF (by assumption) | exact rfl)) | (revert hF;(with_reducible refine zbP ?hx ?_ ?_);(case hx=>exact rfl);all_goals (intro hc hF))))
 | ((with_reducible refine zay ?_);(first | ((with_reducible refine hR _ ?_);clear R hR) | ((with_reducible refine hL _ ?_);clear L hL)))
 | ((with_reducible first | refine zaK ?_ | refine zbm ?_ | refine idx2 (by assumption) ?_ | refine idx3 (by assumption) ?_);conv=>whnf)
 | (with_reducible first | refine zaB ?_ | refine zax ?_ | refine zaH ?_ | refine zaM ?_ | refine zak (λ R hR=>?_) | refine zaj ?_ | refine zan ?_ | refine zbO ?_ | refine zav ?_ | refine zap ?_ | refine zaW ?_ | refine zaN ?_)
 | ((with_reducible refine zaz [7] ?hx ?_);(case hx=>exact rfl))
 | ((with_reducible replace hF := isE hF);(dsimp only [zhA,znm,zi5] at hF);first | ((with_reducible replace hF := chkE (e := zeR) hF);rewrite [zeR] at hF) | rewrite [znl] at hF)
 | ((with_reducible refine zbn ?_);(with_reducible replace hF := zcA 0 hF);((refine Lp.cutI hF rfl rfl ?_ ?_) <;> clear hF);(intro hF);rotate_left;(rintro _ hF);rotate_right)
 | ((with_reducible refine zbd ?_);(with_reducible replace hF := toLp 0 0 hF);exact Lp.headI hF () ⟨_,rfl,rfl,rfl,rfl⟩ rfl)
 | ((with_reducible refine zbr ?_);(with_reducible replace hF := toLp 0 1 hF);((refine Lp.loopI hF () rfl ⟨_,rfl,rfl,rfl,rfl⟩ rfl (λ _=>rfl) ?_);clear hF);(rintro n _ hF))
 | ((with_reducible refine zbs ?_);(with_reducible replace hF := toLp 0 1 hF);exact Lp.backI hF () ⟨_,rfl,rfl,rfl,rfl⟩ rfl)
 | (revert hF;(with_reducible refine idx1 ?hn ?_);(case hn=>first | exact rfl | exact (List.length_map _) | assumption | omega | simp);intro x hx hF;conv=>whnf)
 | ((refine ⟨?hx,trivial⟩);(case hx=>(cases hF;exact rfl)))
 | with_reducible refine zbe ?_)
def zfW (a0' : Int) : Option (Int) :=
 some (a0')
def zhB : Lp (Int) Unit (Int) := lp0 ⟨[0],[],[],[]⟩ (λ a0' => [.dat (iN (a0'))]) (λ _=>[]) (λ a0' => zfW a0')
instance Ef148_c3 {a0'} : IsLp 0 1 (zfW a0') (zhB) a0' := ⟨rfl⟩
instance Cf148_c3 : IsCut 1 (zfW) (zhB) 3 := ⟨⟩
def znn (r1 : Int -> Int -> Option (Int)) (k0 : Int -> Option (Int)) (a0' : Int) (b1 : Int) : Option (Int) :=
 bif decide ((0 : Int) < b1) then ((chk (decide (b1 ≠ 0))).bind λ _ =>
 r1 b1 (Int.tmod (a0') b1))
 else (k0 (a0'))
def zi6 (k0 : Int -> Option (Int)) : Nat -> Int -> Int -> Option (Int)
 | 0,_,_=>none
 | n + 1,a0',b1=>znn (zi6 k0 n) k0 a0' b1
def zno (k0 : Int -> Option (Int)) : Lp (Nat × Int × Int) Unit (Int) := lp0 ⟨[0,1],[],[],[]⟩ (λ (_,a0',b1)=>[.dat (iN (a0')), .dat (iN b1)]) (λ (_,_,_)=>[]) (λ (n,a0',b1)=>zi6 k0 n a0' b1)
instance Ef148_1 {k0 n a0' b1} : IsLp 0 2 (zi6 k0 n a0' b1) (zno k0) (n,a0',b1) := ⟨rfl⟩
def f148 (N : Nat) (a0 : Int) (a1 : Int) : Option (Int) :=
 zbM zfW λ k0 =>
 zi6 k0 N a0 a1
def G148 (ds : List D) (d : D) : Prop := ∃ (N : Nat) (a0 : Int) (a1 : Int) (r : Int),ds = [iN a0,iN a1] /\ f148 N a0 a1 = some r /\ d = iN r
theorem G148.lend {a0 a1} {A : _ -> Option ρ} {K : D -> Prop} (hd : ds = [iN a0,iN a1]) (h : ∀ r,A r = some q -> K (iN r)) (hF : (f148 N a0 a1).bind A = some q) : ∃ d,(G148 ds d /\ d.flatB = true) /\ K d := by
 obtain ⟨r,hr,hA⟩ := bind_some hF;exact ⟨_,⟨⟨N,a0,a1,r,hd,hr,rfl⟩,rfl⟩,h r hA⟩
set_option maxRecDepth 20000 in
set_option maxHeartbeats 4000000 in
theorem P148 : PureOK Tryz.prog 148 G148 := by
 refine zaE (c := zar zah []) rfl tyOK (zac) [[0]] 2 Tryz.func148 rfl rfl (by decide) (by kernel_rfl) ?_;rintro ds d ⟨N,a0,a1,r,rfl,hF,rfl⟩ hok;clear hok;refine ⟨rfl, ?_⟩;show vc _ _ _ _ ⟨[(0, .dat (iN a0)),(1, .dat (iN a1))],[]⟩ _;unfold f148 at hF
 repeat' (first
 | ((with_reducible first | refine q0 _ _ ?_ | refine q1 _ _ _ _ ?_ | refine q2 _ _ _ ?_);clear Q q0 q1 q2)
 | ((with_reducible first | refine zaI ?hx (λ Q q0 q1 q2=>?_) | refine za2 ?hx (λ Q q0 q1 q2=>?_));(case hx=>exact rfl);conv=>whnf)
 | ((with_reducible refine zaP ?_);(first | ((refine zbb rfl ?hy ?_);(case hy=>first | assumption | exact notT (by assumption) | exact rfl)) | ((refine zbc rfl ?hy ?_);(case hy=>first | assumption | exact notF (by assumption) | exact rfl)) | (revert hF;(with_reducible refine zbP ?hx ?_ ?_);(case hx=>exact rfl);all_goals (intro hc hF))))
 | ((with_reducible refine zay ?_);(first | ((with_reducible refine hR _ ?_);clear R hR) | ((with_reducible refine hL _ ?_);clear L hL)))
 | ((with_reducible refine zaR ?_);(with_reducible refine hR _ _ ?hx ?_);(case hx=>kernel_rfl);clear R hR)
 | (with_reducible first | refine zaB ?_ | refine zax ?_ | refine zaH ?_ | refine zaM ?_ | refine zak (λ R hR=>?_) | refine zaj ?_ | refine zan ?_ | refine zbO ?_ | refine zav ?_ | refine zap ?_ | refine zaW ?_ | refine zaN ?_)
 | ((with_reducible refine zaz [3] ?hx ?_);(case hx=>exact rfl))
 | ((with_reducible refine za4 ?hx (λ R L hL hR=>?_));(case hx=>exact rfl))
 | ((with_reducible replace hF := isE hF);(dsimp only [zhB,zno,zi6] at hF);first | rewrite [zfW] at hF | rewrite [znn] at hF)
 | ((with_reducible refine zbn ?_);(with_reducible replace hF := zcA 1 hF);((refine Lp.cutI hF rfl rfl ?_ ?_) <;> clear hF);(intro hF);rotate_left;(rintro _ hF);rotate_right)
 | ((with_reducible refine zbd ?_);(with_reducible replace hF := toLp 0 1 hF);exact Lp.headI hF () ⟨_,rfl,rfl,rfl,rfl⟩ rfl)
 | ((with_reducible refine zbr ?_);(with_reducible replace hF := toLp 0 2 hF);((refine Lp.loopI hF () rfl ⟨_,rfl,rfl,rfl,rfl⟩ rfl (λ _=>rfl) ?_);clear hF);(rintro n ⟨_,_⟩ hF))
 | ((with_reducible refine zbs ?_);(with_reducible replace hF := toLp 0 2 hF);exact Lp.backI hF () ⟨_,rfl,rfl,rfl,rfl⟩ rfl)
 | ((with_reducible refine zcq ?_);conv=>whnf)
 | ((with_reducible have hG := zhu hF);clear hF;(refine ⟨?hx, ?_⟩);(case hx=>(first | exact of_decide_eq_true hG.1 | exact hG.1));have hF := hG.2;clear hG;conv=>whnf)
 | ((refine ⟨?hx,trivial⟩);(case hx=>(cases hF;exact rfl)))
 | with_reducible refine zbe ?_)
def zgN : Option (Bool) :=
 some (true)
def zj6 : Lp (Unit) Unit (Bool) := lp0 ⟨[],[],[],[]⟩ (λ _=>[]) (λ _=>[]) (λ _=>zgN)
instance Ef35_c8 : IsLp 0 0 (zgN) (zj6) () := ⟨rfl⟩
instance Cf35_c8 : IsCut 0 (zgN) (zj6) 8 := ⟨⟩
def zo4 (r4 : Int -> Option (Bool)) (a0 : List Int) (a1 : List Int) (k0 : Option (Bool)) (i5 : Int) : Option (Bool) :=
 bif decide (i5 < (List.length a0 : Int)) then ((ix a0 i5).bind λ x1 =>
 (ix a1 i5).bind λ x2 =>
 bif decide (¬ x1 = x2) then (some (false))
 else (r4 (W (i5 + (1 : Int)))))
 else k0
def znp (a0 : List Int) (a1 : List Int) (k0 : Option (Bool)) : Nat -> Int -> Option (Bool)
 | 0,_=>none
 | n + 1,i5=>zo4 (znp a0 a1 k0 n) a0 a1 k0 i5
def zo5 (a0 : List Int) (a1 : List Int) (k0 : Option (Bool)) : Lp (Nat × Int) Unit (Bool) := lp0 ⟨[0,1,5],[],[],[]⟩ (λ (_,i5)=>[.dat (zbN a0), .dat (zbN a1), .dat (iN i5)]) (λ (_,_)=>[]) (λ (n,i5)=>znp a0 a1 k0 n i5)
instance Ef35_4 {a0 a1 k0 n i5} : IsLp 0 1 (znp a0 a1 k0 n i5) (zo5 a0 a1 k0) (n,i5) := ⟨rfl⟩
def f35 (N : Nat) (a0 : List Int) (a1 : List Int) : Option (Bool) :=
 bif decide (¬ (List.length a0 : Int) = (List.length a1 : Int)) then (some (false))
 else (zbM zgN λ k0 =>
 znp a0 a1 k0 N (0 : Int))
def G35 (ds : List D) (d : D) : Prop := ∃ (N : Nat) (a0 : List Int) (a1 : List Int) (r : Bool),ds = [zbN a0,zbN a1] /\ f35 N a0 a1 = some r /\ d = bN r
theorem G35.lend {a0 a1} {A : _ -> Option ρ} {K : D -> Prop} (hd : ds = [zbN a0,zbN a1]) (h : ∀ r,A r = some q -> K (bN r)) (hF : (f35 N a0 a1).bind A = some q) : ∃ d,(G35 ds d /\ d.flatB = true) /\ K d := by
 obtain ⟨r,hr,hA⟩ := bind_some hF;exact ⟨_,⟨⟨N,a0,a1,r,hd,hr,rfl⟩,rfl⟩,h r hA⟩
set_option maxRecDepth 20000 in
set_option maxHeartbeats 4000000 in
theorem P35 : PureOK Tryz.prog 35 G35 := by
 refine zaE (c := zar zah []) rfl tyOK (zac) [[0]] 2 Tryz.func35 rfl rfl (by decide) (by kernel_rfl) ?_;rintro ds d ⟨N,a0,a1,r,rfl,hF,rfl⟩ hok;clear hok;refine ⟨rfl, ?_⟩;show vc _ _ _ _ ⟨[(0, .dat (zbN a0)),(1, .dat (zbN a1))],[]⟩ _;unfold f35 at hF
 repeat' (first
 | ((with_reducible first | refine q0 _ _ ?_ | refine q1 _ _ _ _ ?_ | refine q2 _ _ _ ?_);clear Q q0 q1 q2)
 | ((with_reducible first | refine zaI ?hx (λ Q q0 q1 q2=>?_) | refine za2 ?hx (λ Q q0 q1 q2=>?_));(case hx=>exact rfl);conv=>whnf)
 | ((with_reducible refine zaP ?_);(first | ((refine zbb rfl ?hy ?_);(case hy=>first | assumption | exact notT (by assumption) | exact rfl)) | ((refine zbc rfl ?hy ?_);(case hy=>first | assumption | exact notF (by assumption) | exact rfl)) | (revert hF;(with_reducible refine zbP ?hx ?_ ?_);(case hx=>exact rfl);all_goals (intro hc hF))))
 | ((with_reducible refine zay ?_);(first | ((with_reducible refine hR _ ?_);clear R hR) | ((with_reducible refine hL _ ?_);clear L hL)))
 | ((with_reducible refine zaR ?_);(with_reducible refine hR _ _ ?hx ?_);(case hx=>kernel_rfl);clear R hR)
 | ((with_reducible first | refine zaK ?_ | refine zbm ?_ | refine idx2 (by assumption) ?_ | refine idx3 (by assumption) ?_);conv=>whnf)
 | (with_reducible first | refine zaB ?_ | refine zax ?_ | refine zaH ?_ | refine zaM ?_ | refine zak (λ R hR=>?_) | refine zaj ?_ | refine zan ?_ | refine zbO ?_ | refine zav ?_ | refine zap ?_ | refine zaW ?_ | refine zaN ?_)
 | ((with_reducible refine zaz [8] ?hx ?_);(case hx=>exact rfl))
 | ((with_reducible refine za4 ?hx (λ R L hL hR=>?_));(case hx=>exact rfl))
 | ((with_reducible replace hF := isE hF);(dsimp only [zj6,zo5,znp] at hF);first | ((with_reducible replace hF := chkE (e := zgN) hF);rewrite [zgN] at hF) | rewrite [zo4] at hF)
 | ((with_reducible refine zbn ?_);(with_reducible replace hF := zcA 0 hF);((refine Lp.cutI hF rfl rfl ?_ ?_) <;> clear hF);(intro hF);rotate_left;(rintro _ hF);rotate_right)
 | ((with_reducible refine zbd ?_);(with_reducible replace hF := toLp 0 0 hF);exact Lp.headI hF () ⟨_,rfl,rfl,rfl,rfl⟩ rfl)
 | ((with_reducible refine zbr ?_);(with_reducible replace hF := toLp 0 1 hF);((refine Lp.loopI hF () rfl ⟨_,rfl,rfl,rfl,rfl⟩ rfl (λ _=>rfl) ?_);clear hF);(rintro n _ hF))
 | ((with_reducible refine zbs ?_);(with_reducible replace hF := toLp 0 1 hF);exact Lp.backI hF () ⟨_,rfl,rfl,rfl,rfl⟩ rfl)
 | (revert hF;(with_reducible refine idx1 ?hn ?_);(case hn=>first | exact rfl | exact (List.length_map _) | assumption | omega | simp);intro x hx hF;conv=>whnf)
 | ((refine ⟨?hx,trivial⟩);(case hx=>(cases hF;exact rfl)))
 | with_reducible refine zbe ?_)
def f44 (N : Nat) : Option (LB) :=
 some ([(strC [115,116,111,110,101,32,97,32,50]),(strC [115,116,111,110,101,32,98,32,57]),(strC [101,100,105,116,105,111,110,32,109,97,112]),(strC [112,97,112,101,114,32,109,97,112,32,49,48,48]),(strC [100,114,97,119,32,97,32,109,97,112]),(strC [100,114,97,119,32,98,32,109,97,112]),(strC [112,114,105,110,116,32,97,32,56,48,32,53]),(strC [112,114,105,110,116,32,98,32,53,48,32,50]),(strC [99,108,97,105,109,32,97,110,110,32,109,97,112,32,54,48]),(strC [99,108,111,115,101,32,109,97,112])])
def G44 (ds : List D) (d : D) : Prop := ∃ (N : Nat) (r : LB),ds = [] /\ f44 N  = some r /\ d = zbA r
theorem G44.step {A : _ -> Option ρ} {K : D -> Prop} (hd : ds = []) (h : ∀ r,A r = some q -> K (zbA r)) (hF : (f44 N ).bind A = some q) : ∃ d,G44 ds d /\ K d := by
 obtain ⟨r,hr,hA⟩ := bind_some hF;exact ⟨_,⟨N,r,hd,hr,rfl⟩,h r hA⟩
set_option maxRecDepth 20000 in
set_option maxHeartbeats 4000000 in
theorem P44 : PureOK Tryz.prog 44 G44 := by
 refine zaE (c := zar zah []) rfl tyOK (zac) [[1]] 0 Tryz.func44 rfl rfl (by decide) (by kernel_rfl) ?_;rintro ds d ⟨N,r,rfl,hF,rfl⟩ hok;clear hok;refine ⟨rfl, ?_⟩;show vc _ _ _ _ ⟨[],[]⟩ _;unfold f44 at hF
 repeat' (first
 | ((with_reducible first | refine q0 _ _ ?_ | refine q1 _ _ _ _ ?_ | refine q2 _ _ _ ?_);clear Q q0 q1 q2)
 | ((with_reducible first | refine zaI ?hx (λ Q q0 q1 q2=>?_));(case hx=>exact rfl);conv=>whnf)
 | ((with_reducible refine zay ?_);(first | ((with_reducible refine hR _ ?_);clear R hR) | ((with_reducible refine hL _ ?_);clear L hL)))
 | (with_reducible first | refine zax ?_ | refine zaH ?_ | refine zak (λ R hR=>?_) | refine zaj ?_)
 | ((with_reducible refine zaz [] ?hx ?_);(case hx=>exact rfl))
 | ((refine zdr ?hn ?_);(case hn=>first | exact rfl | (simp;done) | (simp;omega));conv=>whnf)
 | ((refine ⟨?hx,trivial⟩);(case hx=>(cases hF;exact rfl)))
 | with_reducible refine zbe ?_)

end Go.Vc
namespace Go.Vc
open Go.Proofs
variable {N id : Nat} {ρ : Type} {q : ρ} {xs : List SV} {m : Nat -> Blk} {l : List Loc} {ds : List D} {K : Dl -> List Loc -> Prop} {k0 k1 k2 k3 k4 k5 k6 k7 k8 k9 k10 k11 k12 k13 k14 k15 m0 m1 m2 m3 m4 m5 : Nat}
def zfX (a0 : ByteArray) (N : Nat) (last4 : Int) : Option (LB × Bool) :=
 (f73 N a0 (strC [32])).bind λ x1 =>
 some (x1,decide (¬ last4 = (32 : Int)))
def zhC (a0 : ByteArray) (N : Nat) : Lp (Int) Unit (LB × Bool) := lp0 ⟨[0,4],[],[],[]⟩ (λ last4=>[.dat (strN a0), .dat (i32N last4)]) (λ _=>[]) (λ last4=>zfX a0 N last4)
instance Ef104_c8 {a0 N last4} : IsLp 0 1 (zfX a0 N last4) (zhC a0 N) last4 := ⟨rfl⟩
instance Cf104_c8 {a0 N} : IsCut 1 (zfX a0 N) (zhC a0 N) 8 := ⟨⟩
def znq (r3 : Int -> Nat -> Option (LB × Bool)) (a0 : ByteArray) (k0 : Int -> Option (LB × Bool)) (last4 : Int) (p201 : Nat) : Option (LB × Bool) :=
 bif decide (p201 < ByteArray.size a0) then ((some (zgt a0 p201)).bind λ x2 =>
 bif decide (x2.1 < (32 : Int)) then (some ([],false))
 else (bif decide ((126 : Int) < x2.1) then (some ([],false))
 else (bif decide (x2.1 = (32 : Int)) then (bif decide (last4 = (32 : Int)) then (some ([],false))
 else (r3 x2.1 x2.2))
 else (r3 x2.1 x2.2))))
 else (k0 last4)
def zi7 (a0 : ByteArray) (k0 : Int -> Option (LB × Bool)) : Nat -> Int -> Nat -> Option (LB × Bool)
 | 0,_,_=>none
 | n + 1,last4,p201=>znq (zi7 a0 k0 n) a0 k0 last4 p201
def znr (a0 : ByteArray) (k0 : Int -> Option (LB × Bool)) : Lp (Nat × Int × Nat) Unit (LB × Bool) := lp0 ⟨[0,4,8],[201],[],[]⟩ (λ (_,last4,_)=>[.dat (strN a0), .dat (i32N last4), .ptr 201 0]) (λ (_,_,p201)=>[.sit a0 p201]) (λ (n,last4,p201)=>zi7 a0 k0 n last4 p201)
instance Ef104_3 {a0 k0 n last4 p201} : IsLp 0 2 (zi7 a0 k0 n last4 p201) (znr a0 k0) (n,last4,p201) := ⟨rfl⟩
def f104 (N : Nat) (a0 : ByteArray) : Option (LB × Bool) :=
 zbM (zfX a0 N) λ k0 =>
 zi7 a0 k0 N (32 : Int) 0
def G104 (ds : List D) (d : D) : Prop := ∃ (N : Nat) (a0 : ByteArray) (r : LB × Bool),ds = [strN a0] /\ f104 N a0 = some r /\ d = .tup [zbA r.1,bN r.2]
theorem G104.step {a0} {A : _ -> Option ρ} {K : D -> Prop} (hd : ds = [strN a0]) (h : ∀ r,A r = some q -> K (.tup [zbA r.1,bN r.2])) (hF : (f104 N a0).bind A = some q) : ∃ d,G104 ds d /\ K d := by
 obtain ⟨r,hr,hA⟩ := bind_some hF;exact ⟨_,⟨N,a0,r,hd,hr,rfl⟩,h r hA⟩
set_option maxRecDepth 20000 in
set_option maxHeartbeats 4000000 in
theorem P104 : PureOK Tryz.prog 104 G104 := by
 refine zaE (c := zar zah [(73,true,zdt [[0],[0]] G73)]) rfl tyOK (zcI (zaa Tryz.func73 rfl rfl) P73 (zac)) [[1],[0]] 1 Tryz.func104 rfl rfl (by decide) (by kernel_rfl) ?_;rintro ds d ⟨N,a0,r,rfl,hF,rfl⟩ hok;clear hok;refine ⟨rfl, ?_⟩;show vc _ _ _ _ ⟨[(0, .dat (strN a0))],[]⟩ _;unfold f104 at hF
 repeat' (first
 | ((with_reducible first | refine q0 _ _ ?_ | refine q1 _ _ _ _ ?_ | refine q2 _ _ _ ?_);clear Q q0 q1 q2)
 | ((with_reducible first | refine zaI ?hx (λ Q q0 q1 q2=>?_));(case hx=>exact rfl);conv=>whnf)
 | ((with_reducible first | refine zbT ?hx ?_ | refine zbw ?hx ?_ | refine zbf ?hx ?_ | refine zbv ?hx ?_);(case hx=>exact rfl))
 | ((with_reducible refine zc5 ?_);(first | ((first | refine zcB rfl ?hy (λ Q q0 q1 q2=>?_) | refine zb4 rfl ?hy (λ Q q0 q1 q2=>?_));(case hy=>first | assumption | exact notT (by assumption) | exact rfl);conv=>whnf) | ((first | refine zb3 rfl ?hy ?_ | refine zbQ rfl ?hy ?_);(case hy=>first | assumption | exact notF (by assumption) | exact rfl)) | (revert hF;(with_reducible first | refine zcC ?hx ?_ ?_ | refine zb5 ?hx ?_ ?_);(case hx=>exact rfl);(intro hc hF Q q0 q1 q2;conv=>whnf);rotate_left;(intro hc hF);rotate_right) | (revert hF;(with_reducible first | refine zcD ?hx ?_ ?_ | refine zb6 ?hx ?_ ?_);(case hx=>exact rfl);(intro hc hF);rotate_left;(intro hc hF Q q0 q1 q2;conv=>whnf);rotate_right)))
 | ((with_reducible refine zaP ?_);(first | ((refine zbb rfl ?hy ?_);(case hy=>first | assumption | exact notT (by assumption) | exact rfl)) | ((refine zbc rfl ?hy ?_);(case hy=>first | assumption | exact notF (by assumption) | exact rfl)) | (revert hF;(with_reducible refine zbP ?hx ?_ ?_);(case hx=>exact rfl);all_goals (intro hc hF))))
 | ((with_reducible refine zay ?_);(first | ((with_reducible refine hR _ ?_);clear R hR) | ((with_reducible refine hL _ ?_);clear L hL)))
 | (with_reducible first | refine zaB ?_ | refine zax ?_ | refine zaH ?_ | refine zaM ?_ | refine zak (λ R hR=>?_) | refine zaj ?_ | refine zan ?_ | refine zbO ?_ | refine zav ?_ | refine zap ?_ | refine zaW ?_ | refine zaN ?_)
 | ((with_reducible refine zaz [8] ?hx ?_);(case hx=>exact rfl))
 | ((with_reducible replace hF := isE hF);(dsimp only [zhC,znr,zi7] at hF);first | rewrite [zfX] at hF | rewrite [znq] at hF)
 | ((with_reducible refine zbn ?_);(with_reducible replace hF := zcA 1 hF);((refine Lp.cutI hF rfl rfl ?_ ?_) <;> clear hF);(intro hF);rotate_left;(rintro _ hF);rotate_right)
 | ((with_reducible refine zbd ?_);(with_reducible replace hF := toLp 0 1 hF);exact Lp.headI hF () ⟨_,rfl,rfl,rfl,rfl⟩ rfl)
 | ((with_reducible refine zbr ?_);(with_reducible replace hF := toLp 0 2 hF);((refine Lp.loopI hF () rfl ⟨_,rfl,rfl,rfl,rfl⟩ rfl (λ _=>rfl) ?_);clear hF);(rintro n ⟨_,_⟩ hF))
 | ((with_reducible refine zbs ?_);(with_reducible replace hF := toLp 0 2 hF);exact Lp.backI hF () ⟨_,rfl,rfl,rfl,rfl⟩ rfl)
 | (revert hF;(with_reducible refine G73.step ?hx ?_);(case hx=>exact rfl);intro v hF;conv=>whnf)
 | (revert hF;(refine zfM ?_);intro x hF;conv=>whnf)
 | ((with_reducible refine zcR ?hx ?_);(case hx=>first | exact rfl | assumption | exact notT (by assumption));conv=>whnf)
 | ((with_reducible refine zbZ ?hx ?_);(case hx=>first | exact rfl | assumption | exact notF (by assumption));conv=>whnf)
 | (revert hF;(with_reducible refine zbj ?_ ?_) <;> (intro hc hF;conv=>whnf))
 | ((refine ⟨?hx,trivial⟩);(case hx=>(cases hF;exact rfl)))
 | with_reducible refine zbe ?_)
def f61 (N : Nat) (a0 : ByteArray) : Option (Bool) :=
 (f88 N a0).bind λ x1 =>
 some (x1)
def G61 (ds : List D) (d : D) : Prop := ∃ (N : Nat) (a0 : ByteArray) (r : Bool),ds = [strN a0] /\ f61 N a0 = some r /\ d = bN r
theorem G61.lend {a0} {A : _ -> Option ρ} {K : D -> Prop} (hd : ds = [strN a0]) (h : ∀ r,A r = some q -> K (bN r)) (hF : (f61 N a0).bind A = some q) : ∃ d,(G61 ds d /\ d.flatB = true) /\ K d := by
 obtain ⟨r,hr,hA⟩ := bind_some hF;exact ⟨_,⟨⟨N,a0,r,hd,hr,rfl⟩,rfl⟩,h r hA⟩
set_option maxRecDepth 20000 in
set_option maxHeartbeats 4000000 in
theorem P61 : PureOK Tryz.prog 61 G61 := by
 refine zaE (c := zar zah [(88,true,lendPg [[0]] G88)]) rfl tyOK (zaJ (zaa Tryz.func88 rfl rfl) P88 (zac)) [[0]] 1 Tryz.func61 rfl rfl (by decide) (by kernel_rfl) ?_;rintro ds d ⟨N,a0,r,rfl,hF,rfl⟩ hok;clear hok;refine ⟨rfl, ?_⟩;show vc _ _ _ _ ⟨[(0, .dat (strN a0))],[]⟩ _;unfold f61 at hF
 repeat' (first
 | ((with_reducible first | refine q0 _ _ ?_ | refine q1 _ _ _ _ ?_ | refine q2 _ _ _ ?_);clear Q q0 q1 q2)
 | ((with_reducible first | refine zaI ?hx (λ Q q0 q1 q2=>?_));(case hx=>exact rfl);conv=>whnf)
 | ((with_reducible refine zay ?_);(first | ((with_reducible refine hR _ ?_);clear R hR) | ((with_reducible refine hL _ ?_);clear L hL)))
 | (with_reducible first | refine zax ?_ | refine zaH ?_ | refine zak (λ R hR=>?_) | refine zaj ?_)
 | ((with_reducible refine zaz [] ?hx ?_);(case hx=>exact rfl))
 | (revert hF;(with_reducible refine G88.lend ?hx ?_);(case hx=>exact rfl);intro v hF;conv=>whnf)
 | ((refine ⟨?hx,trivial⟩);(case hx=>(cases hF;exact rfl)))
 | with_reducible refine zbe ?_)
def zqh (self : Claiming -> LS -> LE -> LC -> Option (Int)) (N : Nat) (s0 : Claiming) (s1 : LS) (s2 : LE) (s3 : LC) : Option (Int) :=
 onO (zbF s0.edition s2) (some ((5 : Int))) λ x1 =>
 (some (zgn false s0.customer s3)).bind λ x2 =>
 bif !x2.1 then ((lenM s3).bind λ x3 =>
 bif decide ((x3 : Int) = (6 : Int)) then (some ((2 : Int)))
 else ((getF s2 x1).bind λ x4 =>
 (f64 N x4 x4.from_).bind λ x5 =>
 bif decide (x5 < (W (x4.open_ + s0.n))) then (some ((16 : Int)))
 else (some ((0 : Int)))))
 else ((getF s2 x1).bind λ x6 =>
 (f64 N x6 x6.from_).bind λ x7 =>
 bif decide (x7 < (W (x6.open_ + s0.n))) then (some ((16 : Int)))
 else (some ((0 : Int))))
def f210 : Nat -> Claiming -> LS -> LE -> LC -> Option (Int)
 | 0,_,_,_,_=>none
 | N + 1,s0,s1,s2,s3=>zqh (f210 N) N s0 s1 s2 s3
def Af210 (s0 : Claiming) (s1 : LS) (s2 : LE) (s3 : LC) : List SV := [.dat (.agg [strN s0.customer,strN s0.edition,iN s0.n]), .ptr 0 0]
def Bf210 (s0 : Claiming) (s1 : LS) (s2 : LE) (s3 : LC) : List Blk := [.box [.mp 1, .mp 2, .mp 3],(sW [2] s1),(eW s2),(mW s3)]
def Rf210 (y : Int) : List SV := [.dat (iN y)]
def zry (s0 : Claiming) (s1 : LS) (s2 : LE) (s3 : LC) (y : Int) : List Blk := [.box [.mp 1, .mp 2, .mp 3],(sW [2] s1),(eW s2),(mW s3)]
def zrz (y : Int) : List Blk := []
def zi8 : Spec (Claiming × LS × LE × LC) (Int) := ⟨4,[],λ x=>Af210 x.1 x.2.1 x.2.2.1 x.2.2.2,λ x=>Bf210 x.1 x.2.1 x.2.2.1 x.2.2.2,λ _ y=>Rf210 y,λ x y=>zry x.1 x.2.1 x.2.2.1 x.2.2.2 y,λ _ y=>zrz y⟩
def H210 (N : Nat) (x : Claiming × LS × LE × LC) (y : Int) : Prop := f210 N x.1 x.2.1 x.2.2.1 x.2.2.2 = some y
def G210 (x : Claiming × LS × LE × LC) (y : Int) : Prop := ∃ N,H210 N x y
theorem G210.step {s1 s2 s3} {s0 : Claiming} {A : _ -> Option ρ} (ha : xs = [.dat (.agg [strN s0.customer,strN s0.edition,iN s0.n]), .ptr k0 0]) (b0 : m k0 = .box [.mp k1, .mp k2, .mp k3]) (b1 : m k1 = (sW [k2] s1)) (b2 : m k2 = (eW s2)) (b3 : m k3 = (mW s3)) (hu : True) (hn : za6 [k0,k1,k2,k3] = true) (h : ∀ y,A y = some q -> K ⟨.dat (iN y),[(k0, .box [.mp k1, .mp k2, .mp k3]),(k1,(sW [k2] s1)),(k2,(eW s2)),(k3,(mW s3))]⟩ ([Loc.b k0,Loc.b k1,Loc.b k2,Loc.b k3] ++ l)) (hF : (f210 N s0 s1 s2 s3).bind A = some q) : effPg zi8 (G210) xs id (λ _=>SV.no) m l K := by
 obtain ⟨y,hy,hA⟩ := bind_some hF;exact zaU [k0,k1,k2,k3] (s0,s1,s2,s3) y _ ⟨N,hy⟩ rfl hn ha (by simp only [List.map_cons,List.map_nil,b0,b1,b2,b3];rfl) rfl rfl rfl (h y hA)
def zrA : Ann := ⟨[0],[0,1,2,3],[],[]⟩
def zqi : Ann := ⟨[0],[0,1,2,3],[],[]⟩
set_option maxRecDepth 20000 in
set_option maxHeartbeats 4000000 in
theorem Q210 (N : Nat) : CallOK Tryz.prog 210 (effPg zi8 (H210 N)) := by
 induction N with
 | zero=>exact zaX λ x y h=>(by cases (show (none : Option (Int)) = some y from h))
 | succ N ih =>
  refine zaF (c := zar zah [(210,true,effPg zi8 (H210 N)),(64,true,lendPg [[0],[0]] G64)]) rfl tyOK (zao (zaa Tryz.func210 rfl rfl) ih (zaJ (zaa Tryz.func64 rfl rfl) P64 (zac))) 1000 zrA zqi Tryz.func210 rfl rfl (by kernel_rfl) rfl rfl rfl rfl rfl rfl rfl rfl (λ _=>rfl) (λ _=>rfl) (λ _ _=>⟨rfl,rfl⟩) ?_;rintro ⟨s0,s1,s2,s3⟩ y hF;have hF : zqh (f210 N) N s0 s1 s2 s3 = some y := hF;show vc _ _ _ _ ⟨[(0, .dat (.agg [strN s0.customer,strN s0.edition,iN s0.n])),(1, .ptr 0 0)],[(0, .box [.mp 1, .mp 2, .mp 3]),(1,(sW [2] s1)),(2,(eW s2)),(3,(mW s3))]⟩ _;unfold zqh at hF
  repeat' (first
 | ((with_reducible first | refine q0 _ _ ?_ | refine q1 _ _ _ _ ?_ | refine q2 _ _ _ ?_);clear Q q0 q1 q2)
 | ((with_reducible first | refine zaI ?hx (λ Q q0 q1 q2=>?_) | refine za2 ?hx (λ Q q0 q1 q2=>?_));(case hx=>exact rfl);conv=>whnf)
 | ((with_reducible first | refine zbT ?hx ?_ | refine zbw ?hx ?_ | refine zcF ?hx ?_ | refine zcf ?hx ?_ | refine zbf ?hx ?_ | refine zbv ?hx ?_);(case hx=>exact rfl))
 | ((with_reducible refine zpI ?_);(first | ((first | refine zov rfl ?hy (λ Q q0 q1 q2=>?_) | refine zmV rfl ?hy (λ Q q0 q1 q2=>?_));(case hy=>first | assumption | exact notT (by assumption) | exact rfl);conv=>whnf) | ((first | refine zmU rfl ?hy ?_ | refine zlB rfl ?hy ?_);(case hy=>first | assumption | exact notF (by assumption) | exact rfl)) | (revert hF;(with_reducible first | refine zow ?hx ?_ ?_ | refine zmW ?hx ?_ ?_);(case hx=>exact rfl);(intro hc hF Q q0 q1 q2;conv=>whnf);rotate_left;(intro hc hF);rotate_right) | (revert hF;(with_reducible first | refine zox ?hx ?_ ?_ | refine zmX ?hx ?_ ?_);(case hx=>exact rfl);(intro hc hF);rotate_left;(intro hc hF Q q0 q1 q2;conv=>whnf);rotate_right)))
 | ((with_reducible refine zaP ?_);(first | ((refine zbb rfl ?hy ?_);(case hy=>first | assumption | exact notT (by assumption) | exact rfl)) | ((refine zbc rfl ?hy ?_);(case hy=>first | assumption | exact notF (by assumption) | exact rfl)) | (revert hF;(with_reducible refine zbP ?hx ?_ ?_);(case hx=>exact rfl);all_goals (intro hc hF))))
 | ((with_reducible refine zay ?_);(first | ((with_reducible refine hR _ ?_);clear R hR) | ((with_reducible refine hL _ ?_);clear L hL)))
 | ((with_reducible refine zaR ?_);(with_reducible refine hR _ _ ?hx ?_);(case hx=>kernel_rfl);clear R hR)
 | ((with_reducible first | refine zaK ?_);conv=>whnf)
 | (with_reducible first | refine zaB ?_ | refine zax ?_ | refine zaH ?_ | refine zaM ?_ | refine zak (λ R hR=>?_) | refine zaj ?_ | refine zan ?_ | refine zbO ?_ | refine zav ?_ | refine zap ?_)
 | ((with_reducible refine zaz [] ?hx ?_);(case hx=>exact rfl))
 | ((with_reducible refine za4 ?hx (λ R L hL hR=>?_));(case hx=>exact rfl))
 | (revert hF;(with_reducible refine G64.lend ?hx ?_);(case hx=>exact rfl);intro v hF;conv=>whnf)
 | (cases hF;(refine Or.inl ?_);(conv=>whnf);exact ⟨rfl,rfl,rfl⟩)
 | (revert hF;(refine zmL ?_);intro x hF;conv=>whnf)
 | (revert hF;(refine zdE (eK := strN) (eV := bN) zaD ?hk ?hz ?hd ?he ?_);(case hk=>exact λ _=>rfl);(case hz=>exact rfl);(case hd=>exact rfl);(case he=>exact rfl);intro x hF;conv=>whnf)
 | (revert hF;(refine zaG (eK := strN) (eM := EditionM.m) zaD ?hk ?hd ?he ?_ ?_);(case hk=>exact λ _=>rfl);(case hd=>exact rfl);(case he=>exact rfl);(intro hl hF;conv=>whnf);rotate_left;(intro i hl hF;conv=>whnf);rotate_right)
 | ((refine zaO rfl (by assumption) (by exact rfl) ?_);conv=>whnf)
 | ((with_reducible have hG := za7 hF);clear hF;(obtain ⟨⟨x,hx,hF⟩⟩ := hG);first | ((refine zaO rfl hx (by exact rfl) ?_);conv=>whnf) | skip)
 | ((refine zdT rfl (by assumption) (λ key=>?_));conv=>whnf)
 | ((with_reducible refine zcR ?hx ?_);(case hx=>first | exact rfl | assumption | exact notT (by assumption));conv=>whnf)
 | ((with_reducible refine zbZ ?hx ?_);(case hx=>first | exact rfl | assumption | exact notF (by assumption));conv=>whnf)
 | with_reducible refine zbe ?_)
theorem P210 : CallOK Tryz.prog 210 (effPg zi8 G210) := zbE Q210
def zqj (self : Delivery -> LS -> LE -> LC -> Option (Int)) (N : Nat) (s0 : Delivery) (s1 : LS) (s2 : LE) (s3 : LC) : Option (Int) :=
 onO (zbF s0.claiming.edition s2) (some ((5 : Int))) λ x1 =>
 (getF s2 x1).bind λ x2 =>
 (some (zgn (0 : Int) s0.claiming.customer x2.owed)).bind λ x3 =>
 (some ()).bind λ _ =>
 bif !x3.2 then (some ((5 : Int)))
 else (bif !x2.closed then (some ((22 : Int)))
 else (bif decide (x3.1 < s0.claiming.n) then (some ((14 : Int)))
 else ((ix x2.places (W ((List.length x2.places : Int) - (1 : Int)))).bind λ x4 =>
 (some ()).bind λ _ =>
 bif decide (x4 < s0.claiming.n) then (some ((16 : Int)))
 else (some ((0 : Int))))))
def f212 : Nat -> Delivery -> LS -> LE -> LC -> Option (Int)
 | 0,_,_,_,_=>none
 | N + 1,s0,s1,s2,s3=>zqj (f212 N) N s0 s1 s2 s3
def Af212 (s0 : Delivery) (s1 : LS) (s2 : LE) (s3 : LC) : List SV := [.dat (.agg [strN s0.claiming.customer,strN s0.claiming.edition,iN s0.claiming.n]), .ptr 0 0]
def Bf212 (s0 : Delivery) (s1 : LS) (s2 : LE) (s3 : LC) : List Blk := [.box [.mp 1, .mp 2, .mp 3],(sW [2] s1),(eW s2),(mW s3)]
def Rf212 (y : Int) : List SV := [.dat (iN y)]
def zrB (s0 : Delivery) (s1 : LS) (s2 : LE) (s3 : LC) (y : Int) : List Blk := [.box [.mp 1, .mp 2, .mp 3],(sW [2] s1),(eW s2),(mW s3)]
def zrC (y : Int) : List Blk := []
def zi9 : Spec (Delivery × LS × LE × LC) (Int) := ⟨4,[],λ x=>Af212 x.1 x.2.1 x.2.2.1 x.2.2.2,λ x=>Bf212 x.1 x.2.1 x.2.2.1 x.2.2.2,λ _ y=>Rf212 y,λ x y=>zrB x.1 x.2.1 x.2.2.1 x.2.2.2 y,λ _ y=>zrC y⟩
def H212 (N : Nat) (x : Delivery × LS × LE × LC) (y : Int) : Prop := f212 N x.1 x.2.1 x.2.2.1 x.2.2.2 = some y
def G212 (x : Delivery × LS × LE × LC) (y : Int) : Prop := ∃ N,H212 N x y
theorem G212.step {s1 s2 s3} {s0 : Delivery} {A : _ -> Option ρ} (ha : xs = [.dat (.agg [strN s0.claiming.customer,strN s0.claiming.edition,iN s0.claiming.n]), .ptr k0 0]) (b0 : m k0 = .box [.mp k1, .mp k2, .mp k3]) (b1 : m k1 = (sW [k2] s1)) (b2 : m k2 = (eW s2)) (b3 : m k3 = (mW s3)) (hu : True) (hn : za6 [k0,k1,k2,k3] = true) (h : ∀ y,A y = some q -> K ⟨.dat (iN y),[(k0, .box [.mp k1, .mp k2, .mp k3]),(k1,(sW [k2] s1)),(k2,(eW s2)),(k3,(mW s3))]⟩ ([Loc.b k0,Loc.b k1,Loc.b k2,Loc.b k3] ++ l)) (hF : (f212 N s0 s1 s2 s3).bind A = some q) : effPg zi9 (G212) xs id (λ _=>SV.no) m l K := by
 obtain ⟨y,hy,hA⟩ := bind_some hF;exact zaU [k0,k1,k2,k3] (s0,s1,s2,s3) y _ ⟨N,hy⟩ rfl hn ha (by simp only [List.map_cons,List.map_nil,b0,b1,b2,b3];rfl) rfl rfl rfl (h y hA)
def zrD : Ann := ⟨[0],[0,1,2,3],[],[]⟩
def zqk : Ann := ⟨[0],[0,1,2,3],[],[]⟩
set_option maxRecDepth 20000 in
set_option maxHeartbeats 4000000 in
theorem Q212 (N : Nat) : CallOK Tryz.prog 212 (effPg zi9 (H212 N)) := by
 induction N with
 | zero=>exact zaX λ x y h=>(by cases (show (none : Option (Int)) = some y from h))
 | succ N ih =>
  refine zaF (c := zar zah [(212,true,effPg zi9 (H212 N)),(213,true,preTake 2 (effPg ziT G213))]) rfl tyOK (zao (zaa Tryz.func212 rfl rfl) ih (zkI (zaa Tryz.func213 rfl rfl) P213 (λ xs id=>Local.effPg xs id) (zac))) 1000 zrD zqk Tryz.func212 rfl rfl (by kernel_rfl) rfl rfl rfl rfl rfl rfl rfl rfl (λ _=>rfl) (λ _=>rfl) (λ _ _=>⟨rfl,rfl⟩) ?_;rintro ⟨s0,s1,s2,s3⟩ y hF;have hF : zqj (f212 N) N s0 s1 s2 s3 = some y := hF;show vc _ _ _ _ ⟨[(0, .dat (.agg [strN s0.claiming.customer,strN s0.claiming.edition,iN s0.claiming.n])),(1, .ptr 0 0)],[(0, .box [.mp 1, .mp 2, .mp 3]),(1,(sW [2] s1)),(2,(eW s2)),(3,(mW s3))]⟩ _;unfold zqj at hF
  repeat' (first
 | ((with_reducible first | refine q0 _ _ ?_ | refine q1 _ _ _ _ ?_ | refine q2 _ _ _ ?_);clear Q q0 q1 q2)
 | ((with_reducible first | refine zaI ?hx (λ Q q0 q1 q2=>?_) | refine za2 ?hx (λ Q q0 q1 q2=>?_));(case hx=>exact rfl);conv=>whnf)
 | ((with_reducible refine zaP ?_);(first | ((refine zbb rfl ?hy ?_);(case hy=>first | assumption | exact notT (by assumption) | exact rfl)) | ((refine zbc rfl ?hy ?_);(case hy=>first | assumption | exact notF (by assumption) | exact rfl)) | (revert hF;(with_reducible refine zbP ?hx ?_ ?_);(case hx=>exact rfl);all_goals (intro hc hF))))
 | ((with_reducible have hG := zcT hF);(refine ziI 2 1403 rfl rfl rfl (by first | exact zal | exact za8 (by decide) zal) (by assumption) (by exact rfl) ?_);(have hF := hG);clear hG;dsimp only [St.settledF];(first | ((with_reducible refine hR _ ?_);clear R hR) | ((with_reducible refine hL _ ?_);clear L hL)))
 | ((with_reducible have hG := zcT hF);(refine zdG 2 2104 rfl rfl rfl (by first | exact zal | exact za8 (by decide) zal) (by assumption) (by exact rfl) ?_);(have hF := hG);clear hG;dsimp only [St.settledF];(first | ((with_reducible refine hR _ ?_);clear R hR) | ((with_reducible refine hL _ ?_);clear L hL)))
 | ((with_reducible refine zay ?_);(first | ((with_reducible refine hR _ ?_);clear R hR) | ((with_reducible refine hL _ ?_);clear L hL)))
 | ((with_reducible refine zaR ?_);(with_reducible refine hR _ _ ?hx ?_);(case hx=>kernel_rfl);clear R hR)
 | ((with_reducible first | refine zaK ?_ | refine zbm ?_ | refine idx2 (by assumption) ?_ | refine idx3 (by assumption) ?_);conv=>whnf)
 | (with_reducible first | refine zaB ?_ | refine zax ?_ | refine zaH ?_ | refine zaM ?_ | refine zak (λ R hR=>?_) | refine zaj ?_ | refine zan ?_ | refine zbO ?_ | refine zav ?_ | refine zap ?_)
 | ((with_reducible refine zaz [] ?hx ?_);(case hx=>exact rfl))
 | ((with_reducible refine za4 ?hx (λ R L hL hR=>?_));(case hx=>exact rfl))
 | (revert hF;(refine G213.step rfl rfl rfl (by assumption) (by exact rfl) (by exact rfl) ?_);(intro y hy hF);conv=>whnf)
 | (cases hF;(refine Or.inl ?_);(conv=>whnf);exact ⟨rfl,rfl,rfl⟩)
 | (revert hF;(refine zdE (eK := strN) (eV := iN) zaD ?hk ?hz ?hd ?he ?_);(case hk=>exact λ _=>rfl);(case hz=>exact rfl);(case hd=>exact rfl);(case he=>exact rfl);intro x hF;conv=>whnf)
 | (revert hF;(refine zaG (eK := strN) (eM := EditionM.m) zaD ?hk ?hd ?he ?_ ?_);(case hk=>exact λ _=>rfl);(case hd=>exact rfl);(case he=>exact rfl);(intro hl hF;conv=>whnf);rotate_left;(intro i hl hF;conv=>whnf);rotate_right)
 | ((refine zaO rfl (by assumption) (by exact rfl) ?_);conv=>whnf)
 | ((with_reducible have hG := za7 hF);clear hF;(obtain ⟨⟨x,hx,hF⟩⟩ := hG);first | ((refine zaO rfl hx (by exact rfl) ?_);conv=>whnf) | skip)
 | ((refine ⟨(by first | exact zal | exact za8 (by decide) zal), ?_⟩);conv=>whnf)
 | with_reducible refine zbe ?_)
theorem P212 : CallOK Tryz.prog 212 (effPg zi9 G212) := zbE Q212
def zql (self : Grinding -> LS -> LE -> LC -> Option (Int)) (N : Nat) (s0 : Grinding) (s1 : LS) (s2 : LE) (s3 : LC) : Option (Int) :=
 onO (zbF s0.stone s1) (some ((5 : Int))) λ x1 =>
 (getF s1 x1).bind λ x2 =>
 onO x2.of (some ((1 : Int))) λ x3 =>
 (getF s2 x3).bind λ x4 =>
 bif !x4.closed then (some ((22 : Int)))
 else ((f64 N x4 x4.from_).bind λ x5 =>
 (f64 N x4 (max x4.from_ (W (x2.place + (1 : Int))))).bind λ x6 =>
 bif decide (x6 < x5) then (bif decide (x6 < x4.open_) then (some ((12 : Int)))
 else (bif decide (x2.thick = (1 : Int)) then (some ((13 : Int)))
 else (some ((0 : Int)))))
 else (bif decide (x2.thick = (1 : Int)) then (some ((13 : Int)))
 else (some ((0 : Int)))))
def f215 : Nat -> Grinding -> LS -> LE -> LC -> Option (Int)
 | 0,_,_,_,_=>none
 | N + 1,s0,s1,s2,s3=>zql (f215 N) N s0 s1 s2 s3
def Af215 (s0 : Grinding) (s1 : LS) (s2 : LE) (s3 : LC) : List SV := [.dat (.agg [strN s0.stone]), .ptr 0 0]
def Bf215 (s0 : Grinding) (s1 : LS) (s2 : LE) (s3 : LC) : List Blk := [.box [.mp 1, .mp 2, .mp 3],(sW [2] s1),(eW s2),(mW s3)]
def Rf215 (y : Int) : List SV := [.dat (iN y)]
def zrE (s0 : Grinding) (s1 : LS) (s2 : LE) (s3 : LC) (y : Int) : List Blk := [.box [.mp 1, .mp 2, .mp 3],(sW [2] s1),(eW s2),(mW s3)]
def zrF (y : Int) : List Blk := []
def zj : Spec (Grinding × LS × LE × LC) (Int) := ⟨4,[],λ x=>Af215 x.1 x.2.1 x.2.2.1 x.2.2.2,λ x=>Bf215 x.1 x.2.1 x.2.2.1 x.2.2.2,λ _ y=>Rf215 y,λ x y=>zrE x.1 x.2.1 x.2.2.1 x.2.2.2 y,λ _ y=>zrF y⟩
def H215 (N : Nat) (x : Grinding × LS × LE × LC) (y : Int) : Prop := f215 N x.1 x.2.1 x.2.2.1 x.2.2.2 = some y
def G215 (x : Grinding × LS × LE × LC) (y : Int) : Prop := ∃ N,H215 N x y
theorem G215.step {s1 s2 s3} {s0 : Grinding} {A : _ -> Option ρ} (ha : xs = [.dat (.agg [strN s0.stone]), .ptr k0 0]) (b0 : m k0 = .box [.mp k1, .mp k2, .mp k3]) (b1 : m k1 = (sW [k2] s1)) (b2 : m k2 = (eW s2)) (b3 : m k3 = (mW s3)) (hu : True) (hn : za6 [k0,k1,k2,k3] = true) (h : ∀ y,A y = some q -> K ⟨.dat (iN y),[(k0, .box [.mp k1, .mp k2, .mp k3]),(k1,(sW [k2] s1)),(k2,(eW s2)),(k3,(mW s3))]⟩ ([Loc.b k0,Loc.b k1,Loc.b k2,Loc.b k3] ++ l)) (hF : (f215 N s0 s1 s2 s3).bind A = some q) : effPg zj (G215) xs id (λ _=>SV.no) m l K := by
 obtain ⟨y,hy,hA⟩ := bind_some hF;exact zaU [k0,k1,k2,k3] (s0,s1,s2,s3) y _ ⟨N,hy⟩ rfl hn ha (by simp only [List.map_cons,List.map_nil,b0,b1,b2,b3];rfl) rfl rfl rfl (h y hA)
def zrG : Ann := ⟨[0],[0,1,2,3],[],[]⟩
def zqm : Ann := ⟨[0],[0,1,2,3],[],[]⟩
set_option maxRecDepth 20000 in
set_option maxHeartbeats 4000000 in
theorem Q215 (N : Nat) : CallOK Tryz.prog 215 (effPg zj (H215 N)) := by
 induction N with
 | zero=>exact zaX λ x y h=>(by cases (show (none : Option (Int)) = some y from h))
 | succ N ih =>
  refine zaF (c := zar zah [(215,true,effPg zj (H215 N)),(64,true,lendPg [[0],[0]] G64)]) rfl tyOK (zao (zaa Tryz.func215 rfl rfl) ih (zaJ (zaa Tryz.func64 rfl rfl) P64 (zac))) 1000 zrG zqm Tryz.func215 rfl rfl (by kernel_rfl) rfl rfl rfl rfl rfl rfl rfl rfl (λ _=>rfl) (λ _=>rfl) (λ _ _=>⟨rfl,rfl⟩) ?_;rintro ⟨s0,s1,s2,s3⟩ y hF;have hF : zql (f215 N) N s0 s1 s2 s3 = some y := hF;show vc _ _ _ _ ⟨[(0, .dat (.agg [strN s0.stone])),(1, .ptr 0 0)],[(0, .box [.mp 1, .mp 2, .mp 3]),(1,(sW [2] s1)),(2,(eW s2)),(3,(mW s3))]⟩ _;unfold zql at hF
  repeat' (first
 | ((with_reducible first | refine q0 _ _ ?_ | refine q1 _ _ _ _ ?_ | refine q2 _ _ _ ?_);clear Q q0 q1 q2)
 | ((with_reducible first | refine zaI ?hx (λ Q q0 q1 q2=>?_) | refine za2 ?hx (λ Q q0 q1 q2=>?_));(case hx=>exact rfl);conv=>whnf)
 | ((with_reducible first | refine zbT ?hx ?_ | refine zbw ?hx ?_ | refine zcF ?hx ?_ | refine zcf ?hx ?_ | refine zbf ?hx ?_ | refine zbv ?hx ?_);(case hx=>exact rfl))
 | ((with_reducible refine zc5 ?_);(first | ((first | refine zcB rfl ?hy (λ Q q0 q1 q2=>?_) | refine zb4 rfl ?hy (λ Q q0 q1 q2=>?_));(case hy=>first | assumption | exact notT (by assumption) | exact rfl);conv=>whnf) | ((first | refine zb3 rfl ?hy ?_ | refine zbQ rfl ?hy ?_);(case hy=>first | assumption | exact notF (by assumption) | exact rfl)) | (revert hF;(with_reducible first | refine zcC ?hx ?_ ?_ | refine zb5 ?hx ?_ ?_);(case hx=>exact rfl);(intro hc hF Q q0 q1 q2;conv=>whnf);rotate_left;(intro hc hF);rotate_right) | (revert hF;(with_reducible first | refine zcD ?hx ?_ ?_ | refine zb6 ?hx ?_ ?_);(case hx=>exact rfl);(intro hc hF);rotate_left;(intro hc hF Q q0 q1 q2;conv=>whnf);rotate_right)))
 | ((with_reducible refine zaP ?_);(first | ((refine zbb rfl ?hy ?_);(case hy=>first | assumption | exact notT (by assumption) | exact rfl)) | ((refine zbc rfl ?hy ?_);(case hy=>first | assumption | exact notF (by assumption) | exact rfl)) | (revert hF;(with_reducible refine zbP ?hx ?_ ?_);(case hx=>exact rfl);all_goals (intro hc hF))))
 | ((with_reducible refine zay ?_);(first | ((with_reducible refine hR _ ?_);clear R hR) | ((with_reducible refine hL _ ?_);clear L hL)))
 | ((with_reducible refine zaR ?_);(with_reducible refine hR _ _ ?hx ?_);(case hx=>kernel_rfl);clear R hR)
 | ((with_reducible first | refine zaK ?_);conv=>whnf)
 | (with_reducible first | refine zaB ?_ | refine zax ?_ | refine zaH ?_ | refine zaM ?_ | refine zak (λ R hR=>?_) | refine zaj ?_ | refine zan ?_ | refine zbO ?_ | refine zav ?_ | refine zap ?_)
 | ((with_reducible refine zaz [] ?hx ?_);(case hx=>exact rfl))
 | ((with_reducible refine za4 ?hx (λ R L hL hR=>?_));(case hx=>exact rfl))
 | (revert hF;(with_reducible refine G64.lend ?hx ?_);(case hx=>exact rfl);intro v hF;conv=>whnf)
 | (cases hF;(refine Or.inl ?_);(conv=>whnf);exact ⟨rfl,rfl,rfl⟩)
 | (revert hF;(refine zaG (eK := strN) (eM := StoneM.m) zaD ?hk ?hd ?he ?_ ?_);(case hk=>exact λ _=>rfl);(case hd=>exact rfl);(case he=>exact rfl);(intro hl hF;conv=>whnf);rotate_left;(intro i hl hF;conv=>whnf);rotate_right)
 | ((refine zaO rfl (by assumption) (by exact rfl) ?_);conv=>whnf)
 | ((with_reducible have hG := za7 hF);clear hF;(obtain ⟨⟨x,hx,hF⟩⟩ := hG);first | ((refine zaO rfl hx (by exact rfl) ?_);conv=>whnf) | skip)
 | (revert hF;(refine zdg ?_ ?_);(intro ho hF;conv=>whnf);rotate_left;(intro j ho hF;conv=>whnf);rotate_right)
 | ((refine zeu (by assumption) ?_);conv=>whnf)
 | ((refine zdT rfl (by assumption) (λ key=>?_));conv=>whnf)
 | ((with_reducible refine zcq ?_);conv=>whnf)
 | ((with_reducible refine zcR ?hx ?_);(case hx=>first | exact rfl | assumption | exact notT (by assumption));conv=>whnf)
 | ((with_reducible refine zbZ ?hx ?_);(case hx=>first | exact rfl | assumption | exact notF (by assumption));conv=>whnf)
 | with_reducible refine zbe ?_)
theorem P215 : CallOK Tryz.prog 215 (effPg zj G215) := zbE Q215
def zqn (self : Delivery -> LS -> LE -> LC -> Option (LE)) (N : Nat) (s0 : Delivery) (s1 : LS) (s2 : LE) (s3 : LC) : Option (LE) :=
 onO (zbF s0.claiming.edition s2) none λ x1 =>
 (getF s2 x1).bind λ x2 =>
 (some (zgn (0 : Int) s0.claiming.customer x2.owed)).bind λ x3 =>
 (some (setK s0.claiming.customer (W (x3.1 - s0.claiming.n)) x2.owed)).bind λ x4 =>
 (some (setF s2 x1 ({ x2 with owed := x4 }))).bind λ x5 =>
 (some (setF x5 x1 ({ x2 with owed := x4,open_ := W (x2.open_ - s0.claiming.n) }))).bind λ x6 =>
 (some (setF x6 x1 ({ x2 with delivered := W (x2.delivered + s0.claiming.n),owed := x4,open_ := W (x2.open_ - s0.claiming.n) }))).bind λ x7 =>
 (ix x2.places (W ((List.length x2.places : Int) - (1 : Int)))).bind λ x8 =>
 (setx x2.places (W ((List.length x2.places : Int) - (1 : Int))) (W (x8 - s0.claiming.n))).bind λ x9 =>
 (some (setF x7 x1 ({ x2 with places := x9,delivered := W (x2.delivered + s0.claiming.n),owed := x4,open_ := W (x2.open_ - s0.claiming.n) }))).bind λ x10 =>
 some (x10)
def f211 : Nat -> Delivery -> LS -> LE -> LC -> Option (LE)
 | 0,_,_,_,_=>none
 | N + 1,s0,s1,s2,s3=>zqn (f211 N) N s0 s1 s2 s3
def Af211 (s0 : Delivery) (s1 : LS) (s2 : LE) (s3 : LC) : List SV := [.dat (.agg [strN s0.claiming.customer,strN s0.claiming.edition,iN s0.claiming.n]), .ptr 0 0]
def Bf211 (s0 : Delivery) (s1 : LS) (s2 : LE) (s3 : LC) : List Blk := [.box [.mp 1, .mp 2, .mp 3],(sW [2] s1),(eW s2),(mW s3)]
def Rf211 (y : LE) : List SV := []
def zrH (s0 : Delivery) (s1 : LS) (s2 : LE) (s3 : LC) (y : LE) : List Blk := [.box [.mp 1, .mp 2, .mp 3],(sW [2] s1),(eW y),(mW s3)]
def zrI (y : LE) : List Blk := []
def zja : Spec (Delivery × LS × LE × LC) (LE) := ⟨4,[],λ x=>Af211 x.1 x.2.1 x.2.2.1 x.2.2.2,λ x=>Bf211 x.1 x.2.1 x.2.2.1 x.2.2.2,λ _ y=>Rf211 y,λ x y=>zrH x.1 x.2.1 x.2.2.1 x.2.2.2 y,λ _ y=>zrI y⟩
def H211 (N : Nat) (x : Delivery × LS × LE × LC) (y : LE) : Prop := f211 N x.1 x.2.1 x.2.2.1 x.2.2.2 = some y
def G211 (x : Delivery × LS × LE × LC) (y : LE) : Prop := ∃ N,H211 N x y
theorem G211.step {s1 s2 s3} {s0 : Delivery} {A : _ -> Option ρ} (ha : xs = [.dat (.agg [strN s0.claiming.customer,strN s0.claiming.edition,iN s0.claiming.n]), .ptr k0 0]) (b0 : m k0 = .box [.mp k1, .mp k2, .mp k3]) (b1 : m k1 = (sW [k2] s1)) (b2 : m k2 = (eW s2)) (b3 : m k3 = (mW s3)) (hu : True) (hn : za6 [k0,k1,k2,k3] = true) (h : ∀ y,A y = some q -> K ⟨.tup [],[(k0, .box [.mp k1, .mp k2, .mp k3]),(k1,(sW [k2] s1)),(k2,(eW y)),(k3,(mW s3))]⟩ ([Loc.b k0,Loc.b k1,Loc.b k2,Loc.b k3] ++ l)) (hF : (f211 N s0 s1 s2 s3).bind A = some q) : effPg zja (G211) xs id (λ _=>SV.no) m l K := by
 obtain ⟨y,hy,hA⟩ := bind_some hF;exact zaU [k0,k1,k2,k3] (s0,s1,s2,s3) y _ ⟨N,hy⟩ rfl hn ha (by simp only [List.map_cons,List.map_nil,b0,b1,b2,b3];rfl) rfl rfl rfl (h y hA)
def zrJ : Ann := ⟨[],[0,1,2,3],[],[]⟩
def zqo : Ann := ⟨[],[0,1,2,3],[],[]⟩
set_option maxRecDepth 20000 in
set_option maxHeartbeats 4000000 in
theorem Q211 (N : Nat) : CallOK Tryz.prog 211 (effPg zja (H211 N)) := by
 induction N with
 | zero=>exact zaX λ x y h=>(by cases (show (none : Option (LE)) = some y from h))
 | succ N ih =>
  refine zaF (c := zar zah [(211,true,effPg zja (H211 N)),(213,true,preTake 2 (effPg ziT G213))]) rfl tyOK (zao (zaa Tryz.func211 rfl rfl) ih (zkI (zaa Tryz.func213 rfl rfl) P213 (λ xs id=>Local.effPg xs id) (zac))) 1000 zrJ zqo Tryz.func211 rfl rfl (by kernel_rfl) rfl rfl rfl rfl rfl rfl rfl rfl (λ _=>rfl) (λ _=>rfl) (λ _ _=>⟨rfl,rfl⟩) ?_;rintro ⟨s0,s1,s2,s3⟩ y hF;have hF : zqn (f211 N) N s0 s1 s2 s3 = some y := hF;show vc _ _ _ _ ⟨[(0, .dat (.agg [strN s0.claiming.customer,strN s0.claiming.edition,iN s0.claiming.n])),(1, .ptr 0 0)],[(0, .box [.mp 1, .mp 2, .mp 3]),(1,(sW [2] s1)),(2,(eW s2)),(3,(mW s3))]⟩ _;unfold zqn at hF
  repeat' (first
 | ((with_reducible first | refine q0 _ _ ?_ | refine q1 _ _ _ _ ?_ | refine q2 _ _ _ ?_);clear Q q0 q1 q2)
 | ((with_reducible first | refine zaI ?hx (λ Q q0 q1 q2=>?_) | refine za2 ?hx (λ Q q0 q1 q2=>?_) | refine zby ?hx (λ Q q0 q1 q2=>?_) | refine zbC ?hx (λ Q q0 q1 q2=>?_));(case hx=>exact rfl);conv=>whnf)
 | ((refine zkK 2 1203 hF rfl rfl rfl (by first | exact zal | exact za8 (by decide) zal) (by assumption) (by exact rfl) (by exact rfl) (λ q hq hF1=>?_));clear hF;(have hF := hF1);clear hF1;dsimp only [St.settledF];(first | ((with_reducible refine hR _ ?_);clear R hR) | ((with_reducible refine hL _ ?_);clear L hL)))
 | ((refine zff 2 1501 hF rfl rfl rfl (by first | exact zal | exact za8 (by decide) zal) (by assumption) (by exact rfl) (by first | exact rfl | assumption | (symm;assumption) | omega) (by exact rfl) (λ q hq hF1=>?_));clear hF;(have hF := hF1);clear hF1;dsimp only [St.settledF];(first | ((with_reducible refine hR _ ?_);clear R hR) | ((with_reducible refine hL _ ?_);clear L hL)))
 | ((with_reducible refine zay ?_);(first | ((with_reducible refine hR _ ?_);clear R hR) | ((with_reducible refine hL _ ?_);clear L hL)))
 | ((with_reducible refine zaR ?_);(with_reducible refine hR _ _ ?hx ?_);(case hx=>kernel_rfl);clear R hR)
 | ((with_reducible first | refine zaK ?_ | refine zbm ?_ | refine idx2 (by assumption) ?_ | refine idx3 (by assumption) ?_);conv=>whnf)
 | (with_reducible first | refine zax ?_ | refine zaH ?_ | refine zak (λ R hR=>?_) | refine zaj ?_)
 | ((with_reducible refine zaz [] ?hx ?_);(case hx=>exact rfl))
 | ((with_reducible refine za4 ?hx (λ R L hL hR=>?_));(case hx=>exact rfl))
 | (revert hF;(refine G213.step rfl rfl rfl (by assumption) (by exact rfl) (by exact rfl) ?_);(intro y hy hF);conv=>whnf)
 | (cases hF;(refine Or.inl ?_);(conv=>whnf);exact ⟨rfl,rfl,rfl⟩)
 | (revert hF;(refine zdE (eK := strN) (eV := iN) zaD ?hk ?hz ?hd ?he ?_);(case hk=>exact λ _=>rfl);(case hz=>exact rfl);(case hd=>exact rfl);(case he=>exact rfl);intro x hF;conv=>whnf)
 | (revert hF;(refine zhs (eK := strN) (eV := iN) zaD ?hk ?hv ?hd ?he ?_);(case hk=>exact λ _=>rfl);(case hv=>exact rfl);(case hd=>exact rfl);(case he=>exact rfl);intro x hF;conv=>whnf)
 | (revert hF;(refine zaG (eK := strN) (eM := EditionM.m) zaD ?hk ?hd ?he ?_ ?_);(case hk=>exact λ _=>rfl);(case hd=>exact rfl);(case he=>exact rfl);(intro hl hF;conv=>whnf);rotate_left;(intro i hl hF;conv=>whnf);rotate_right)
 | ((refine zaO rfl (by assumption) (by exact rfl) ?_);conv=>whnf)
 | ((with_reducible have hG := za7 hF);clear hF;(obtain ⟨⟨x,hx,hF⟩⟩ := hG);first | ((refine zaO rfl hx (by exact rfl) ?_);conv=>whnf) | skip)
 | ((refine ⟨(by first | exact zal | exact za8 (by decide) zal), ?_⟩);conv=>whnf)
 | ((refine zcS hF (by assumption) rfl (by exact rfl) (λ q hq hF1=>?_));clear hF;(have hF := hF1);clear hF1;conv=>whnf)
 | ((with_reducible have hG := zdD hF);clear hF;(refine zer hG ?hs (λ q hl hF=>?_));(case hs=>exact rfl);clear hG;conv=>whnf)
 | ((refine ⟨?hx, ?_⟩);(case hx=>exact ⟨rfl,Nat.le_of_ble_eq_true rfl,rfl⟩);conv=>whnf)
 | with_reducible refine zbe ?_
 | (have hF : (none : Option _) = some _ := hF;cases hF))
theorem P211 : CallOK Tryz.prog 211 (effPg zja G211) := zbE Q211
def zaY (a0 : List (List Int)) (N : Nat) : Option (Int) :=
 (f145 N a0).bind λ x3 =>
 bif x3 then (some ((6 : Int)))
 else (some ((0 : Int)))
def zbG (a0 : List (List Int)) (N : Nat) : Lp (Unit) Unit (Int) := lp0 ⟨[],[102],[],[]⟩ (λ _=>[]) (λ _=>[.box [.dat (iN (List.length a0 : Int))]]) (λ _=>zaY a0 N)
instance zgO {a0 N} : IsLp 0 0 (zaY a0 N) (zbG a0 N) () := ⟨rfl⟩
instance zgP {a0 N} : IsCut 0 (zaY a0 N) (zbG a0 N) zr6 := ⟨⟩
def zch (r2 : Int -> Option (Int)) (a0 : List (List Int)) (N : Nat) (x2 : List Int) (k0 : Option (Int)) (v8 : Int) : Option (Int) :=
 bif decide (v8 < (List.length x2 : Int)) then ((ix x2 v8).bind λ x4 =>
 (f117 N (0 : Int) x4 (W ((List.length a0 : Int) - (1 : Int)))).bind λ x5 =>
 bif !x5 then (bif decide ((0 : Int) <= v8) then (some ((4 : Int)))
 else ((f145 N a0).bind λ x6 =>
 bif x6 then (some ((6 : Int)))
 else (some ((0 : Int)))))
 else (r2 (W (v8 + (1 : Int)))))
 else k0
def zbg (a0 : List (List Int)) (N : Nat) (x2 : List Int) (k0 : Option (Int)) : Nat -> Int -> Option (Int)
 | 0,_=>none
 | n + 1,v8=>zch (zbg a0 N x2 k0 n) a0 N x2 k0 v8
def zci (a0 : List (List Int)) (N : Nat) (x2 : List Int) (k0 : Option (Int)) : Lp (Nat × Int) Unit (Int) := lp0 ⟨[0,1,7,8],[102],[],[]⟩ (λ (_,v8)=>[.dat (zbN x2), .fn 144 [] [.ptr 102 0], .dat (iN (List.length x2 : Int)), .dat (iN v8)]) (λ (_,_)=>[.box [.dat (iN (List.length a0 : Int))]]) (λ (n,v8)=>zbg a0 N x2 k0 n v8)
instance zhD {a0 N x2 k0 n v8} : IsLp 0 1 (zbg a0 N x2 k0 n v8) (zci a0 N x2 k0) (n,v8) := ⟨rfl⟩
def zaZ (a0 : List (List Int)) (N : Nat) : Option (Int) :=
 (f143 N a0).bind λ x2 =>
 zbM (zaY a0 N) λ k0 =>
 zbg a0 N x2 k0 N (0 : Int)
def zbH (a0 : List (List Int)) (N : Nat) : Lp (Unit) Unit (Int) := lp0 ⟨[],[102],[],[]⟩ (λ _=>[]) (λ _=>[.box [.dat (iN (List.length a0 : Int))]]) (λ _=>zaZ a0 N)
instance zgQ {a0 N} : IsLp 0 0 (zaZ a0 N) (zbH a0 N) () := ⟨rfl⟩
instance zgR {a0 N} : IsCut 0 (zaZ a0 N) (zbH a0 N) 207000103000000007 := ⟨⟩
def zaS (a0 : List (List Int)) (N : Nat) : Option (Int) :=
 (f145 N a0).bind λ x9 =>
 bif x9 then (some ((6 : Int)))
 else (some ((0 : Int)))
def zbx (a0 : List (List Int)) (N : Nat) : Lp (Unit) Unit (Int) := lp0 ⟨[],[102],[],[]⟩ (λ _=>[]) (λ _=>[.box [.dat (iN (List.length a0 : Int))]]) (λ _=>zaS a0 N)
instance zf8 {a0 N} : IsLp 0 0 (zaS a0 N) (zbx a0 N) () := ⟨rfl⟩
instance zf9 {a0 N} : IsCut 0 (zaS a0 N) (zbx a0 N) zr6 := ⟨⟩
def zb0 (r2x : Int -> Option (Int)) (a0 : List (List Int)) (N : Nat) (x8 : List Int) (k2 : Option (Int)) (v8' : Int) : Option (Int) :=
 bif decide ((v8') < (List.length x8 : Int)) then ((ix x8 (v8')).bind λ x10 =>
 (f117 N (0 : Int) x10 (W ((List.length a0 : Int) - (1 : Int)))).bind λ x11 =>
 bif !x11 then (bif decide ((0 : Int) <= (v8')) then (some ((4 : Int)))
 else ((f145 N a0).bind λ x12 =>
 bif x12 then (some ((6 : Int)))
 else (some ((0 : Int)))))
 else (r2x (W ((v8') + (1 : Int)))))
 else k2
def za3 (a0 : List (List Int)) (N : Nat) (x8 : List Int) (k2 : Option (Int)) : Nat -> Int -> Option (Int)
 | 0,_=>none
 | n + 1,v8' => zb0 (za3 a0 N x8 k2 n) a0 N x8 k2 v8'
def zb1 (a0 : List (List Int)) (N : Nat) (x8 : List Int) (k2 : Option (Int)) : Lp (Nat × Int) Unit (Int) := lp0 ⟨[0,1,7,8],[102],[],[]⟩ (λ (_,v8')=>[.dat (zbN x8), .fn 144 [] [.ptr 102 0], .dat (iN (List.length x8 : Int)), .dat (iN (v8'))]) (λ (_,_)=>[.box [.dat (iN (List.length a0 : Int))]]) (λ (n,v8')=>za3 a0 N x8 k2 n v8')
instance zgp {a0 N x8 k2 n v8'} : IsLp 0 1 (za3 a0 N x8 k2 n v8') (zb1 a0 N x8 k2) (n,v8') := ⟨rfl⟩
def zcj (r2 : Int -> Option (Int)) (a0 : List (List Int)) (N : Nat) (k1 : Option (Int)) (v8 : Int) : Option (Int) :=
 bif decide (v8 < (List.length a0 : Int)) then ((ix a0 v8).bind λ x7 =>
 bif decide (¬ (List.length x7 : Int) = (List.length a0 : Int)) then (bif decide ((0 : Int) <= v8) then (some ((3 : Int)))
 else ((f143 N a0).bind λ x8 =>
 zbM (zaS a0 N) λ k2 =>
 za3 a0 N x8 k2 N (0 : Int)))
 else (r2 (W (v8 + (1 : Int)))))
 else k1
def zbh (a0 : List (List Int)) (N : Nat) (k1 : Option (Int)) : Nat -> Int -> Option (Int)
 | 0,_=>none
 | n + 1,v8=>zcj (zbh a0 N k1 n) a0 N k1 v8
def zck (a0 : List (List Int)) (N : Nat) (k1 : Option (Int)) : Lp (Nat × Int) Unit (Int) := lp0 ⟨[0,1,7,8],[102],[],[]⟩ (λ (_,v8)=>[.dat (zaA a0), .fn 141 [] [.ptr 102 0], .dat (iN (List.length a0 : Int)), .dat (iN v8)]) (λ (_,_)=>[.box [.dat (iN (List.length a0 : Int))]]) (λ (n,v8)=>zbh a0 N k1 n v8)
instance zhE {a0 N k1 n v8} : IsLp 0 1 (zbh a0 N k1 n v8) (zck a0 N k1) (n,v8) := ⟨rfl⟩
def f116 (N : Nat) (a0 : List (List Int)) : Option (Int) :=
 (f117 N (2 : Int) (List.length a0 : Int) (10 : Int)).bind λ x1 =>
 bif !x1 then (some ((3 : Int)))
 else (zbM (zaZ a0 N) λ k1 =>
 zbh a0 N k1 N (0 : Int))
def G116 (ds : List D) (d : D) : Prop := ∃ (N : Nat) (a0 : List (List Int)) (r : Int),ds = [zaA a0] /\ f116 N a0 = some r /\ d = iN r
theorem G116.lend {a0} {A : _ -> Option ρ} {K : D -> Prop} (hd : ds = [zaA a0]) (h : ∀ r,A r = some q -> K (iN r)) (hF : (f116 N a0).bind A = some q) : ∃ d,(G116 ds d /\ d.flatB = true) /\ K d := by
 obtain ⟨r,hr,hA⟩ := bind_some hF;exact ⟨_,⟨⟨N,a0,r,hd,hr,rfl⟩,rfl⟩,h r hA⟩
set_option maxRecDepth 20000 in
set_option maxHeartbeats 4000000 in
theorem P116 : PureOK Tryz.prog 116 G116 := by
 refine zaE (c := zar zah [(142,false,zba (zar zah [(165,false,zba (zar zah [(144,false,zba (zar zah [(117,true,lendPg [[0],[0],[0]] G117)]) Tryz.f144)]) Tryz.f165)]) Tryz.f142),(140,false,zba (zar zah [(164,false,zba (zar zah [(141,false,zba (zar zah []) Tryz.f141)]) Tryz.f164)]) Tryz.f140),(145,true,lendPg [[1]] G145),(143,true,zdt [[1]] G143),(117,true,lendPg [[0],[0],[0]] G117)]) rfl tyOK (zaw (zaa Tryz.func142 rfl rfl) (CallOK.inl rfl tyOK (zaw (zaa Tryz.func165 rfl rfl) (CallOK.inl rfl tyOK (zaw (zaa Tryz.func144 rfl rfl) (CallOK.inl rfl tyOK (zaJ (zaa Tryz.func117 rfl rfl) P117 (zac)) Tryz.func144 (by kernel_rfl)) (zac)) Tryz.func165 (by kernel_rfl)) (zac)) Tryz.func142 (by kernel_rfl)) (zaw (zaa Tryz.func140 rfl rfl) (CallOK.inl rfl tyOK (zaw (zaa Tryz.func164 rfl rfl) (CallOK.inl rfl tyOK (zaw (zaa Tryz.func141 rfl rfl) (CallOK.inl rfl tyOK (zac) Tryz.func141 (by kernel_rfl)) (zac)) Tryz.func164 (by kernel_rfl)) (zac)) Tryz.func140 (by kernel_rfl)) (zaJ (zaa Tryz.func145 rfl rfl) P145 (zcI (zaa Tryz.func143 rfl rfl) P143 (zaJ (zaa Tryz.func117 rfl rfl) P117 (zac)))))) [[0]] 1 Tryz.func116 rfl rfl (by decide) (by kernel_rfl) ?_;rintro ds d ⟨N,a0,r,rfl,hF,rfl⟩ hok;clear hok;refine ⟨rfl, ?_⟩;show vc _ _ _ _ ⟨[(0, .dat (zaA a0))],[]⟩ _;unfold f116 at hF
 repeat' (first
 | ((with_reducible first | refine q0 _ _ ?_ | refine q1 _ _ _ _ ?_ | refine q2 _ _ _ ?_);clear Q q0 q1 q2)
 | ((with_reducible first | refine zaI ?hx (λ Q q0 q1 q2=>?_) | refine zby ?hx (λ Q q0 q1 q2=>?_));(case hx=>exact rfl);conv=>whnf)
 | ((with_reducible first | refine zbT ?hx ?_ | refine zbw ?hx ?_ | refine zbf ?hx ?_ | refine zbv ?hx ?_);(case hx=>exact rfl))
 | ((with_reducible refine zc5 ?_);(first | ((first | refine zcB rfl ?hy (λ Q q0 q1 q2=>?_) | refine zb4 rfl ?hy (λ Q q0 q1 q2=>?_));(case hy=>first | assumption | exact notT (by assumption) | exact rfl);conv=>whnf) | ((first | refine zb3 rfl ?hy ?_ | refine zbQ rfl ?hy ?_);(case hy=>first | assumption | exact notF (by assumption) | exact rfl)) | (revert hF;(with_reducible first | refine zcC ?hx ?_ ?_ | refine zb5 ?hx ?_ ?_);(case hx=>exact rfl);(intro hc hF Q q0 q1 q2;conv=>whnf);rotate_left;(intro hc hF);rotate_right) | (revert hF;(with_reducible first | refine zcD ?hx ?_ ?_ | refine zb6 ?hx ?_ ?_);(case hx=>exact rfl);(intro hc hF);rotate_left;(intro hc hF Q q0 q1 q2;conv=>whnf);rotate_right)))
 | ((with_reducible refine zaP ?_);(first | ((refine zbb rfl ?hy ?_);(case hy=>first | assumption | exact notT (by assumption) | exact rfl)) | ((refine zbc rfl ?hy ?_);(case hy=>first | assumption | exact notF (by assumption) | exact rfl)) | (revert hF;(with_reducible refine zbP ?hx ?_ ?_);(case hx=>exact rfl);all_goals (intro hc hF))))
 | ((with_reducible refine zay ?_);(first | ((with_reducible refine hR _ ?_);clear R hR) | ((with_reducible refine hL _ ?_);clear L hL)))
 | ((with_reducible first | refine zaK ?_ | refine zbm ?_ | refine idx2 (by assumption) ?_ | refine idx3 (by assumption) ?_);conv=>whnf)
 | (with_reducible first | refine zaB ?_ | refine zax ?_ | refine zaH ?_ | refine zaM ?_ | refine zak (λ R hR=>?_) | refine zaj ?_ | refine zan ?_ | refine zbO ?_ | refine zav ?_ | refine zap ?_ | refine zaW ?_ | refine zaN ?_)
 | ((with_reducible refine zaz [zr6,207000103000000007,zr6] ?hx ?_);(case hx=>exact rfl))
 | ((with_reducible replace hF := isE hF);(dsimp only [zbG,zci,zbH,zbx,zb1,zck,zbg,za3,zbh] at hF);first | ((with_reducible replace hF := chkE (e := zaY ..) hF);rewrite [zaY] at hF) | ((with_reducible replace hF := chkE (e := zaZ ..) hF);rewrite [zaZ] at hF) | ((with_reducible replace hF := chkE (e := zaS ..) hF);rewrite [zaS] at hF) | rewrite [zch] at hF | rewrite [zb0] at hF | rewrite [zcj] at hF)
 | ((with_reducible refine zbn ?_);(with_reducible replace hF := zcA 0 hF);((refine Lp.cutI hF rfl rfl ?_ ?_) <;> clear hF);(intro hF);rotate_left;(rintro _ hF);rotate_right)
 | ((with_reducible refine zbd ?_);(with_reducible replace hF := toLp 0 0 hF);exact Lp.headI hF () ⟨_,rfl,rfl,rfl,rfl⟩ rfl)
 | ((with_reducible refine zbr ?_);(with_reducible replace hF := toLp 0 1 hF);((refine Lp.loopI hF () rfl ⟨_,rfl,rfl,rfl,rfl⟩ rfl (λ _=>rfl) ?_);clear hF);(rintro n _ hF))
 | ((with_reducible refine zbs ?_);(with_reducible replace hF := toLp 0 1 hF);exact Lp.backI hF () ⟨_,rfl,rfl,rfl,rfl⟩ rfl)
 | (revert hF;(with_reducible refine G117.lend ?hx ?_);(case hx=>exact rfl);intro v hF;conv=>whnf)
 | (revert hF;(with_reducible refine G143.step ?hx ?_);(case hx=>exact rfl);intro v hF;conv=>whnf)
 | (revert hF;(with_reducible refine G145.lend ?hx ?_);(case hx=>exact rfl);intro v hF;conv=>whnf)
 | (revert hF;(with_reducible refine idx1 ?hn ?_);(case hn=>first | exact rfl | exact (List.length_map _) | assumption | omega | simp);intro x hx hF;conv=>whnf)
 | ((with_reducible refine zcR ?hx ?_);(case hx=>first | exact rfl | assumption | exact notT (by assumption));conv=>whnf)
 | ((with_reducible refine zbZ ?hx ?_);(case hx=>first | exact rfl | assumption | exact notF (by assumption));conv=>whnf)
 | ((refine zae 206 207000000 rfl rfl (Nat.le_of_ble_eq_true rfl) rfl (λ R hR=>?_));(conv=>whnf);(with_reducible refine hR _ ?ha ?_);(case ha=>exact rfl);clear R hR)
 | ((refine zae 403 404000000 rfl rfl (Nat.le_of_ble_eq_true rfl) rfl (λ R hR=>?_));(conv=>whnf);(with_reducible refine hR _ ?ha ?_);(case ha=>exact rfl);clear R hR)
 | ((refine zae 207000102 207000103000000 rfl rfl (Nat.le_of_ble_eq_true rfl) rfl (λ R hR=>?_));(conv=>whnf);(with_reducible refine hR _ ?ha ?_);(case ha=>exact rfl);clear R hR)
 | ((refine zae 404000102 404000103000000 rfl rfl (Nat.le_of_ble_eq_true rfl) rfl (λ R hR=>?_));(conv=>whnf);(with_reducible refine hR _ ?ha ?_);(case ha=>exact rfl);clear R hR)
 | ((refine zae 207000103000405 207000103000406000000 rfl rfl (Nat.le_of_ble_eq_true rfl) rfl (λ R hR=>?_));(conv=>whnf);(with_reducible refine hR _ ?ha ?_);(case ha=>exact rfl);clear R hR)
 | ((refine zae 404000103000405 404000103000406000000 rfl rfl (Nat.le_of_ble_eq_true rfl) rfl (λ R hR=>?_));(conv=>whnf);(with_reducible refine hR _ ?ha ?_);(case ha=>exact rfl);clear R hR)
 | (show Kinl _ _ _ _ _ _ _;conv=>whnf)
 | ((with_reducible refine zbt ?ha ?hb ?_);(case ha=>exact rfl);(case hb=>exact rfl);conv=>whnf)
 | ((refine ⟨?hx,trivial⟩);(case hx=>(cases hF;exact rfl)))
 | with_reducible refine zbe ?_)
def zeA (b501 : List (List Int)) : Option ((List (List Int)) × Int) :=
 some (b501,(0 : Int))
def zfY : Lp ((List (List Int))) (Nat × Unit) ((List (List Int)) × Int) := lpm ⟨[6],[501],[],[]⟩ (λ b501=>zeA b501) (λ _ (m0,_)=>[.rs 501 m0]) (λ b501 (_,_)=>[.nest 43 3 1 none (List.map (List.map iN) b501)]) λ b501=>(List.length b501,())
instance zrK {b501} : IsLp 1 1 (zeA b501) (zfY) b501 := ⟨rfl⟩
instance zrL : IsCut 1 (zeA) (zfY) 15 := ⟨⟩
def zeB (a0 : Int) (a1 : Int) (x4 : List (List Int)) (v29 : Int) (r7 : Int -> (List (List Int)) -> Option ((List (List Int)) × Int)) (b501' : List (List Int)) : Option ((List (List Int)) × Int) :=
 r7 (W (v29 + (1 : Int))) (b501')
def zfZ (a0 : Int) (a1 : Int) (x4 : List (List Int)) (v29 : Int) (r7 : Int -> (List (List Int)) -> Option ((List (List Int)) × Int)) : Lp ((List (List Int))) (Nat × Unit) ((List (List Int)) × Int) := lpm ⟨[0,1,6,28,29],[501],[],[]⟩ (λ b501' => zeB a0 a1 x4 v29 r7 b501') (λ _ (m0,_)=>[.dat (iN a0), .dat (iN a1), .rs 501 m0, .dat (iN (List.length x4 : Int)), .dat (iN v29)]) (λ b501' (_,_)=>[.nest 43 3 1 none (List.map (List.map iN) (b501'))]) λ b501' => (List.length (b501'),())
instance zrM {a0 a1 x4 v29 r7 b501'} : IsLp 1 1 (zeB a0 a1 x4 v29 r7 b501') (zfZ a0 a1 x4 v29 r7) b501' := ⟨rfl⟩
instance zrN {a0 a1 x4 v29 r7} : IsCut 1 (zeB a0 a1 x4 v29 r7) (zfZ a0 a1 x4 v29 r7) 14 := ⟨⟩
def zkS (r10 : Int -> (List (List Int)) -> Option ((List (List Int)) × Int)) (a0 : Int) (a1 : Int) (x4 : List (List Int)) (v29 : Int) (k1 : (List (List Int)) -> Option ((List (List Int)) × Int)) (v33 : Int) (b501' : List (List Int)) : Option ((List (List Int)) × Int) :=
 bif decide (v33 < a0) then ((ix (b501') v29).bind λ x5 =>
 (chk (decide (a0 ≠ 0))).bind λ _ =>
 (app 8 x5 [Int.tmod (W ((W (a1 * v29)) + v33)) a0]).bind λ x6 =>
 (ix (b501') v29).bind λ x7 =>
 (setx (b501') v29 x6).bind λ x8 =>
 r10 (W (v33 + (1 : Int))) x8)
 else (k1 (b501'))
def zf0 (a0 : Int) (a1 : Int) (x4 : List (List Int)) (v29 : Int) (k1 : (List (List Int)) -> Option ((List (List Int)) × Int)) : Nat -> Int -> (List (List Int)) -> Option ((List (List Int)) × Int)
 | 0,_,_=>none
 | n + 1,v33,b501' => zkS (zf0 a0 a1 x4 v29 k1 n) a0 a1 x4 v29 k1 v33 b501'
def zkT (a0 : Int) (a1 : Int) (x4 : List (List Int)) (v29 : Int) (k1 : (List (List Int)) -> Option ((List (List Int)) × Int)) : Lp (Nat × Int × (List (List Int))) (Nat × Unit) ((List (List Int)) × Int) := lpm ⟨[0,1,6,7,28,29,32,33],[501],[],[]⟩ (λ (n,v33,b501')=>zf0 a0 a1 x4 v29 k1 n v33 b501') (λ (_,v33,_) (m0,_)=>[.dat (iN a0), .dat (iN a1), .rs 501 m0, .dat (iN v29), .dat (iN (List.length x4 : Int)), .dat (iN v29), .dat (iN a0), .dat (iN v33)]) (λ (_,_,b501') (_,_)=>[.nest 43 3 1 none (List.map (List.map iN) (b501'))]) λ (_,_,b501')=>(List.length (b501'),())
instance Ef119_10 {a0 a1 x4 v29 k1 n v33 b501'} : IsLp 1 2 (zf0 a0 a1 x4 v29 k1 n v33 b501') (zkT a0 a1 x4 v29 k1) (n,v33,b501') := ⟨rfl⟩
def zns (r7 : Int -> (List (List Int)) -> Option ((List (List Int)) × Int)) (a0 : Int) (a1 : Int) (N : Nat) (x4 : List (List Int)) (k0 : (List (List Int)) -> Option ((List (List Int)) × Int)) (v29 : Int) (b501 : List (List Int)) : Option ((List (List Int)) × Int) :=
 bif decide (v29 < (List.length x4 : Int)) then (zbM (zeB a0 a1 x4 v29 r7) λ k1 =>
 zf0 a0 a1 x4 v29 k1 N (0 : Int) b501)
 else (k0 b501)
def zjb (a0 : Int) (a1 : Int) (N : Nat) (x4 : List (List Int)) (k0 : (List (List Int)) -> Option ((List (List Int)) × Int)) : Nat -> Int -> (List (List Int)) -> Option ((List (List Int)) × Int)
 | 0,_,_=>none
 | n + 1,v29,b501=>zns (zjb a0 a1 N x4 k0 n) a0 a1 N x4 k0 v29 b501
def znt (a0 : Int) (a1 : Int) (N : Nat) (x4 : List (List Int)) (k0 : (List (List Int)) -> Option ((List (List Int)) × Int)) : Lp (Nat × Int × (List (List Int))) (Nat × Unit) ((List (List Int)) × Int) := lpm ⟨[0,1,6,28,29],[501],[],[]⟩ (λ (n,v29,b501)=>zjb a0 a1 N x4 k0 n v29 b501) (λ (_,v29,_) (m0,_)=>[.dat (iN a0), .dat (iN a1), .rs 501 m0, .dat (iN (List.length x4 : Int)), .dat (iN v29)]) (λ (_,_,b501) (_,_)=>[.nest 43 3 1 none (List.map (List.map iN) b501)]) λ (_,_,b501)=>(List.length b501,())
instance Ef119_7 {a0 a1 N x4 k0 n v29 b501} : IsLp 1 2 (zjb a0 a1 N x4 k0 n v29 b501) (znt a0 a1 N x4 k0) (n,v29,b501) := ⟨rfl⟩
def f119 (N : Nat) (a0 : Int) (a1 : Int) : Option ((List (List Int)) × Int) :=
 (f117 N (2 : Int) a0 (10 : Int)).bind λ x1 =>
 bif !x1 then (some ([],(4 : Int)))
 else ((f117 N (1 : Int) a1 (W (a0 - (1 : Int)))).bind λ x2 =>
 bif !x2 then (some ([],(4 : Int)))
 else ((f148 N a0 a1).bind λ x3 =>
 bif decide ((1 : Int) < x3) then (some ([],(12 : Int)))
 else ((mkS 24 [] a0 a0).bind λ x4 =>
 zbM zeA λ k0 =>
 zjb a0 a1 N x4 k0 N (0 : Int) x4)))
def G119 (ds : List D) (d : D) : Prop := ∃ (N : Nat) (a0 : Int) (a1 : Int) (r : (List (List Int)) × Int),ds = [iN a0,iN a1] /\ f119 N a0 a1 = some r /\ d = .tup [zaA r.1,iN r.2]
theorem G119.step {a0 a1} {A : _ -> Option ρ} {K : D -> Prop} (hd : ds = [iN a0,iN a1]) (h : ∀ r,A r = some q -> K (.tup [zaA r.1,iN r.2])) (hF : (f119 N a0 a1).bind A = some q) : ∃ d,G119 ds d /\ K d := by
 obtain ⟨r,hr,hA⟩ := bind_some hF;exact ⟨_,⟨N,a0,a1,r,hd,hr,rfl⟩,h r hA⟩
set_option maxRecDepth 20000 in
set_option maxHeartbeats 4000000 in
theorem P119 : PureOK Tryz.prog 119 G119 := by
 refine zaE (c := zar zah [(148,true,lendPg [[0],[0]] G148),(117,true,lendPg [[0],[0],[0]] G117)]) rfl tyOK (zaJ (zaa Tryz.func148 rfl rfl) P148 (zaJ (zaa Tryz.func117 rfl rfl) P117 (zac))) [[1],[0]] 2 Tryz.func119 rfl rfl (by decide) (by kernel_rfl) ?_;rintro ds d ⟨N,a0,a1,r,rfl,hF,rfl⟩ hok;clear hok;refine ⟨rfl, ?_⟩;show vc _ _ _ _ ⟨[(0, .dat (iN a0)),(1, .dat (iN a1))],[]⟩ _;unfold f119 at hF
 repeat' (first
 | ((with_reducible first | refine q0 _ _ ?_ | refine q1 _ _ _ _ ?_ | refine q2 _ _ _ ?_);clear Q q0 q1 q2)
 | ((with_reducible first | refine zaI ?hx (λ Q q0 q1 q2=>?_) | refine za2 ?hx (λ Q q0 q1 q2=>?_) | refine zby ?hx (λ Q q0 q1 q2=>?_) | refine zbC ?hx (λ Q q0 q1 q2=>?_));(case hx=>exact rfl);conv=>whnf)
 | ((with_reducible first | refine zbT ?hx ?_ | refine zbw ?hx ?_ | refine zcF ?hx ?_ | refine zcf ?hx ?_ | refine zbf ?hx ?_ | refine zbv ?hx ?_);(case hx=>exact rfl))
 | ((with_reducible refine zc5 ?_);(first | ((first | refine zcB rfl ?hy (λ Q q0 q1 q2=>?_) | refine zb4 rfl ?hy (λ Q q0 q1 q2=>?_));(case hy=>first | assumption | exact notT (by assumption) | exact rfl);conv=>whnf) | ((first | refine zb3 rfl ?hy ?_ | refine zbQ rfl ?hy ?_);(case hy=>first | assumption | exact notF (by assumption) | exact rfl)) | (revert hF;(with_reducible first | refine zcC ?hx ?_ ?_ | refine zb5 ?hx ?_ ?_);(case hx=>exact rfl);(intro hc hF Q q0 q1 q2;conv=>whnf);rotate_left;(intro hc hF);rotate_right) | (revert hF;(with_reducible first | refine zcD ?hx ?_ ?_ | refine zb6 ?hx ?_ ?_);(case hx=>exact rfl);(intro hc hF);rotate_left;(intro hc hF Q q0 q1 q2;conv=>whnf);rotate_right)))
 | ((with_reducible refine zaP ?_);(first | ((refine zbb rfl ?hy ?_);(case hy=>first | assumption | exact notT (by assumption) | exact rfl)) | ((refine zbc rfl ?hy ?_);(case hy=>first | assumption | exact notF (by assumption) | exact rfl)) | (revert hF;(with_reducible refine zbP ?hx ?_ ?_);(case hx=>exact rfl);all_goals (intro hc hF))))
 | ((with_reducible refine zay ?_);(first | ((with_reducible refine hR _ ?_);clear R hR) | ((with_reducible refine hL _ ?_);clear L hL)))
 | ((with_reducible refine zaR ?_);(with_reducible refine hR _ _ ?hx ?_);(case hx=>kernel_rfl);clear R hR)
 | ((with_reducible first | refine zaK ?_ | refine zbm ?_ | refine idx2 (by assumption) ?_ | refine idx3 (by assumption) ?_);conv=>whnf)
 | (with_reducible first | refine zaB ?_ | refine zax ?_ | refine zaH ?_ | refine zaM ?_ | refine zak (λ R hR=>?_) | refine zaj ?_ | refine zan ?_ | refine zbO ?_ | refine zav ?_ | refine zap ?_ | refine zaW ?_ | refine zaN ?_)
 | ((with_reducible refine zaz [15,14] ?hx ?_);(case hx=>exact rfl))
 | ((with_reducible refine za4 ?hx (λ R L hL hR=>?_));(case hx=>exact rfl))
 | ((with_reducible replace hF := isE hF);(dsimp only [zfY,zfZ,zkT,znt,zf0,zjb] at hF);first | rewrite [zeA] at hF | rewrite [zeB] at hF | rewrite [zkS] at hF | rewrite [zns] at hF)
 | ((with_reducible refine zbn ?_);(with_reducible replace hF := zcA 1 hF);((refine Lp.cutI hF rfl rfl ?_ ?_) <;> clear hF);(intro hF);rotate_left;(rintro _ hF);rotate_right)
 | ((with_reducible refine zbd ?_);(with_reducible replace hF := toLp 1 1 hF);exact Lp.headI hF (_,()) ⟨_,rfl,rfl,rfl,rfl⟩ (pr2 (by first | exact rfl | assumption | omega | (simp only [List.length_set];done)) rfl))
 | ((with_reducible refine zbr ?_);(with_reducible replace hF := toLp 1 2 hF);((refine Lp.loopI hF (_,()) rfl ⟨_,rfl,rfl,rfl,rfl⟩ (pr2 (by first | exact rfl | assumption | omega | (simp only [List.length_set];done)) rfl) (λ _=>rfl) ?_);clear hF);(rintro n ⟨_,_⟩ hF))
 | ((with_reducible refine zbs ?_);(with_reducible replace hF := toLp 1 2 hF);exact Lp.backI hF (_,()) ⟨_,rfl,rfl,rfl,rfl⟩ (pr2 (by first | exact rfl | assumption | omega | (simp only [List.length_set];done)) rfl))
 | (revert hF;(with_reducible refine G117.lend ?hx ?_);(case hx=>exact rfl);intro v hF;conv=>whnf)
 | (revert hF;(with_reducible refine G148.lend ?hx ?_);(case hx=>exact rfl);intro v hF;conv=>whnf)
 | (revert hF;(refine zot (d := iN) ?_);intro x hF;conv=>whnf)
 | ((refine zmN (d := iN) (by assumption) ?_);conv=>whnf)
 | ((with_reducible have hG := zdD hF);clear hF;(refine zpG (d := iN) hG ?hn ?ho (λ q hl hF=>?_));(case hn=>first | exact rfl | assumption | omega);(case ho=>(rintro p h;first | cases h;done | (cases h;rfl)));clear hG;conv=>whnf)
 | ((refine zou (e := zbN) (d := iN) (λ _=>rfl) ?hn ?_);(case hn=>first | exact rfl | assumption | omega);conv=>whnf)
 | (revert hF;(with_reducible refine idx1 ?hn ?_);(case hn=>first | exact rfl | exact (List.length_map _) | assumption | omega | simp);intro x hx hF;conv=>whnf)
 | ((with_reducible have hG := zc4 hF);clear hF;(first | ((refine zdq hG ?hn ?hs (λ q hF=>?_));(case hn=>first | exact rfl | assumption | omega);(case hs=>exact rfl)) | ((refine zdB (d := iN) hG ?hs (λ q hF=>?_));(case hs=>exact rfl)) | ((refine zdC (d := iN) hG ?ho ?hn ?hs (λ q hF=>?_));(case ho=>exact rfl);(case hn=>exact rfl);(case hs=>exact rfl)));clear hG;conv=>whnf)
 | ((refine zdr ?hn ?_);(case hn=>first | exact rfl | (simp;done) | (simp;omega));conv=>whnf)
 | ((with_reducible refine zcq ?_);conv=>whnf)
 | ((with_reducible have hG := zhu hF);clear hF;(refine ⟨?hx, ?_⟩);(case hx=>(first | exact of_decide_eq_true hG.1 | exact hG.1));have hF := hG.2;clear hG;conv=>whnf)
 | ((with_reducible refine zcR ?hx ?_);(case hx=>first | exact rfl | assumption | exact notT (by assumption));conv=>whnf)
 | ((with_reducible refine zbZ ?hx ?_);(case hx=>first | exact rfl | assumption | exact notF (by assumption));conv=>whnf)
 | ((refine ⟨?hx,trivial⟩);(case hx=>(cases hF;exact rfl)))
 | with_reducible refine zbe ?_)

end Go.Vc
