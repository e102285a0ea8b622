/-
  A library for proofs about Go functions by symbolic evaluation,and plain Lean functions that the walked Go functions compute (written by a program of this claim).
-/
import Derived.Test.YtijmkjnlgcockaaGreatDoorVc3
import Derived.Test.YtijmkjnlgcockaaGreatDoorProg
import Derived.Test.YtijmkjnlgcockaaGreatDoorVc4
import Derived.Shelf.Strings.Builder1
import Derived.Shelf.Utf8.RuneCount
import Derived.Shelf.Strconv.Atoi
import Derived.Shelf.Strconv.Itoa0
import Derived.Shelf.Strconv.Itoa1
import Derived.Shelf.LaysM
import Derived.Shelf.Strconv.Itoa2
import Derived.Shelf.Strconv.Itoa3
import Derived.Shelf.Strings.Search1
import Derived.Shelf.Strings.Search2
import Derived.Shelf.Strings.Search3
import Derived.Shelf.Strings.Count
import Derived.Shelf.Strings.Shaped
import Derived.Shelf.Strings.LastIndex
import Derived.Shelf.Strings.Prefix
import Derived.Shelf.Strings.Split
import Derived.Shelf.Strings.SplitShaped
import Derived.Shelf.Unicode.Decode
import Derived.Shelf.Strings.RuneCount
import Derived.Shelf.Strings.Explode
import Derived.Shelf.Unicode.DecodeSlow
import Derived.Shelf.Unicode.DecodeAny
import Derived.Ground.Names2Prog
import Derived.Shelf.Slices.Clone
import Derived.Ground.SlgnProg
import Derived.Shelf.SlicesE.Clone
import Derived.Lib.SplitLaws
import Derived.Lib.CutLaws
import Derived.Lib.Builder
import Derived.Laws.Externs
set_option linter.unusedVariables false
set_option linter.unnecessarySimpa false
set_option linter.unusedSimpArgs false
namespace Go.Vc
abbrev zAs:Nat:=302000801000101
abbrev zAt:Nat:=302000801000107090004
abbrev zAu:Nat:=302000801000100
abbrev zAv:Nat:=302000801000107090520
abbrev zAw:Nat:=302000801000107001501000101
abbrev zAx:Nat:=302000801000102
abbrev zAy:Nat:=302000801000104
abbrev zAz:Nat:=302090500
abbrev zAA:Nat:=302000801000106
abbrev zAB:Nat:=101000101
abbrev zAC:Nat:=101000106
abbrev zAD:Nat:=101000100
abbrev zAE:Nat:=101000102
abbrev zAF:Nat:=101000104
abbrev zAG:Nat:=302001402
abbrev zAH:Nat:=603000000
abbrev zAI:Nat:=302000801000107000000024
abbrev zAJ:Nat:=302000801000107000000013
open Go.Proofs
set_option maxRecDepth 20000
def tyF:Option TI:=some ⟨.fn,1,8,false,[0],[.nilFunc],[],false,0⟩
def ty1:Option TI:=some ⟨.ptr,1,8,false,[0],[.pointer none],[],false,0⟩
def ty2:Option TI:=some ⟨.iface,1,16,false,[0],[.nilIface],[],false,0⟩
def ty3:Option TI:=some ⟨(.struct [(0,1,false)]),1,16,true,[0],[.string ⟨#[]⟩],[],false,0⟩
def ty4:Option TI:=some ⟨(.int .i64),1,8,false,[0],[.int .i64 0],[],false,0⟩
def ty5:Option TI:=some ⟨(.int .u64),1,8,false,[0],[.int .u64 0],[],false,0⟩
def ty6:Option TI:=some ⟨(.struct [(0,1,false),(1,1,false),(2,1,false),(3,1,false),(4,1,false)]),5,40,true,[0,0,0,0,0],[.int .i64 0, .int .i64 0, .int .i64 0, .int .i64 0, .int .i64 0],[],false,0⟩
def ty7:Option TI:=some ⟨(.struct [(0,1,false),(1,1,false)]),2,32,true,[0,1],[.pointer none, .slice none 0 0],[],false,0⟩
def ty8:Option TI:=some ⟨(.struct [(0,1,false),(1,1,false),(2,1,false)]),3,64,true,[0,1,1],[.string ⟨#[]⟩, .slice none 0 0, .slice none 0 0],[],false,0⟩
def ty9:Option TI:=some ⟨(.struct [(0,1,false),(1,1,false),(2,1,false)]),3,72,true,[4,7,4],[.slice none 0 0, .slice none 0 0, .slice none 0 0],[],false,0⟩
def ty10:Option TI:=some ⟨(.struct [(0,1,false),(1,1,false),(2,1,false),(3,1,false)]),4,48,true,[0,0,0,0],[.string ⟨#[]⟩, .int .i64 0, .string ⟨#[]⟩, .int .i64 0],[],false,0⟩
def ty11:Option TI:=some ⟨(.struct [(0,1,false),(1,1,false),(2,1,false),(3,1,false),(4,1,false),(5,1,false),(6,1,false)]),7,80,true,[0,0,1,0,0,0,0],[.string ⟨#[]⟩, .bool false, .slice none 0 0, .int .i64 0, .int .i64 0, .int .i64 0, .int .i64 0],[],false,0⟩
def ty12:Option TI:=some ⟨(.struct [(0,1,false),(1,1,false),(2,1,false),(3,1,false),(4,1,false)]),5,72,true,[1,1,0,0,0],[.slice none 0 0, .slice none 0 0, .int .i64 0, .bool false, .map none],[],false,0⟩
def ty13:Option TI:=some ⟨(.struct [(0,1,false),(1,1,false),(2,1,false),(3,1,false)]),4,48,true,[0,0,0,0],[.string ⟨#[]⟩, .string ⟨#[]⟩, .int .i64 0, .int .i64 0],[],false,0⟩
def ty14:Option TI:=some ⟨(.struct [(0,1,false),(1,1,false),(2,1,false)]),3,24,true,[0,0,0],[.map none, .map none, .map none],[],false,0⟩
def ty15:Option TI:=some ⟨(.struct [(0,1,false),(1,1,false)]),2,32,true,[0,1],[.bool false, .slice none 0 0],[],false,0⟩
def ty16:Option TI:=some ⟨(.struct [(0,1,false),(1,1,false)]),2,24,true,[0,0],[.string ⟨#[]⟩, .int .i64 0],[],false,0⟩
def ty17:Option TI:=some ⟨(.struct [(0,1,false),(1,1,false),(2,1,false)]),3,24,true,[0,0,0],[.int .i64 0, .pointer none, .int .i64 0],[],false,0⟩
def ty18:Option TI:=some ⟨(.struct [(0,1,false),(1,1,false),(2,1,false),(3,1,false),(4,1,false),(5,1,false),(6,1,false),(7,1,false),(8,1,false)]),9,96,true,[0,0,1,0,0,0,0,0,0],[.string ⟨#[]⟩, .bool false, .slice none 0 0, .int .i64 0, .int .i64 0, .int .i64 0, .int .i64 0, .map none, .int .i64 0],[],false,0⟩
def ty19:Option TI:=some ⟨(.struct [(0,1,false),(1,1,false),(2,1,false)]),3,48,true,[0,0,0],[.string ⟨#[]⟩, .string ⟨#[]⟩, .nilIface],[],false,0⟩
def ty20:Option TI:=some ⟨(.struct [(0,1,false),(1,1,false)]),2,2,true,[0,0],[.int .u8 0, .int .u8 0],[],false,0⟩
def tyN:Tree (Option TI) := .node .leaf none .leaf
def tyL:Tree (Option TI) := .node .leaf tyF .leaf
def zaf:Tree (Option TI) :=
 (.node (.node (.node (.node (.node (.node (.node (.node tyL tyF tyN) tyF (.node tyN tyF (.node .leaf (some ⟨(.arr 0 1 false),0,0,true,[],[],[],false,0⟩) .leaf))) tyF (.node (.node tyN tyF tyN) tyF (.node tyN none tyN))) ty1 (.node (.node (.node tyL tyF tyN) tyF (.node tyN tyF (.node .leaf (some ⟨(.struct [(0,1,false),(1,1,false),(2,1,false),(3,1,false),(4,1,false),(5,1,false),(6,1,false),(7,1,false),(8,1,false),(9,1,false),(10,1,false)]),11,48,true,(List.replicate 11 0),[.int .u64 0, .int .u64 0, .int .u32 0, .int .u8 0, .int .u8 0, .int .u8 0, .int .u8 0, .nilFunc, .pointer none, .int .i32 0, .int .i32 0],[],false,0⟩) .leaf))) tyF (.node (.node tyN tyF (.node .leaf ty1 .leaf)) tyF (.node tyL ty8 .leaf)))) none (.node (.node (.node (.node .leaf ty8 .leaf) tyF tyN) tyF (.node tyL tyF tyL)) ty1 (.node (.node tyL tyF (.node .leaf (some ⟨(.slice 43 1 false),1,24,false,[1],[.slice none 0 0],[],false,0⟩) .leaf)) (some ⟨(.slice 112 4 true),1,24,false,[4],[.slice none 0 0],[],false,0⟩) (.node tyL (some ⟨(.int .u16),1,2,false,[0],[.int .u16 0],[],false,0⟩) tyL)))) ty4 (.node (.node (.node (.node (.node .leaf (some ⟨.ptr,1,8,false,[0],[.pointer none],[],false,5⟩) .leaf) (some ⟨(.slice 5 1 false),1,24,false,[1],[.slice none 0 0],[],false,0⟩) tyL) (some ⟨(.slice 112 4 true),1,24,false,[4],[.slice none 0 0],[("tusche/tuschelaw14.lines", 26)],false,0⟩) (.node (.node .leaf (some ⟨(.slice 153 4 true),1,24,false,[4],[.slice none 0 0],[],false,0⟩) .leaf) tyF (.node .leaf (some ⟨(.slice 155 7 true),1,24,false,[7],[.slice none 0 0],[],false,0⟩) .leaf))) ty1 (.node (.node (.node .leaf (some ⟨(.slice 162 4 true),1,24,false,[4],[.slice none 0 0],[],false,0⟩) .leaf) (some ⟨(.mp 9 77),1,8,false,[0],[.map none],[],false,0⟩) (.node .leaf ty9 .leaf)) tyF (.node (.node .leaf ty9 .leaf) (some ⟨(.mp 9 84),1,8,false,[0],[.map none],[],false,0⟩) tyL))) none (.node (.node (.node tyL none (.node .leaf ty10 .leaf)) (some ⟨(.mp 9 9),1,8,false,[0],[.map none],[],false,0⟩) (.node (.node .leaf ty10 .leaf) tyF (.node .leaf ty11 .leaf))) none (.node (.node (.node .leaf ty11 .leaf) ty1 tyN) (some ⟨(.slice 22 1 false),1,24,false,[1],[.slice none 0 0],[],false,0⟩) (.node tyL (some ⟨(.mp 9 3),1,8,false,[0],[.map none],[],false,0⟩) tyL))))) tyF (.node (.node (.node (.node (.node tyL ty12 tyL) tyF (.node (.node .leaf ty13 .leaf) ty12 (.node .leaf ty13 .leaf))) none (.node (.node tyL tyF tyL) tyF (.node tyL tyF tyL))) (some ⟨.str,1,16,false,[0],[.string ⟨#[]⟩],[],false,0⟩) (.node (.node (.node tyN none tyL) none (.node tyL (some ⟨(.arr 2 1 false),2,32,true,[0,0],[.string ⟨#[]⟩, .string ⟨#[]⟩],[],false,0⟩) tyL)) ty2 (.node (.node tyL none tyN) tyF (.node tyL tyF tyL)))) (some ⟨.bool,1,1,false,[0],[.bool false],[],false,0⟩) (.node (.node (.node (.node tyN tyF tyL) (some ⟨(.slice 3 1 false),1,24,false,[1],[.slice none 0 0],[],false,0⟩) (.node tyL (some ⟨(.arr 2 1 false),2,16,true,[0,0],[.int .i64 0, .int .i64 0],[],false,0⟩) tyL)) (some ⟨(.int .i32),1,4,false,[0],[.int .i32 0],[],false,0⟩) (.node (.node tyN tyF tyL) none (.node (.node .leaf (some ⟨(.arr 24 1 false),24,24,true,(List.replicate 24 0),(List.replicate 24 (.int .u8 0)),[],false,0⟩) .leaf) (some ⟨(.mp 9 113),1,8,false,[0],[.map none],[],false,0⟩) (.node .leaf ty5 .leaf)))) none (.node (.node (.node tyL (some ⟨(.mp 9 114),1,8,false,[0],[.map none],[],false,0⟩) tyL) tyF (.node tyN (some ⟨(.mp 9 4),1,8,false,[0],[.map none],[],false,0⟩) tyL)) (some ⟨(.slice 9 1 false),1,24,false,[1],[.slice none 0 0],[],false,0⟩) (.node (.node tyL ty14 tyL) ty6 (.node tyL ty14 tyL)))))) none (.node (.node (.node (.node (.node (.node tyN ty15 tyN) ty6 (.node tyL ty15 (.node .leaf ty1 .leaf))) tyF (.node (.node tyL ty2 tyL) none (.node tyL ty2 (.node .leaf ty16 .leaf)))) none (.node (.node (.node (.node .leaf (some ⟨(.struct [(0,1,false),(1,1,false)]),2,24,true,[0,0],[.string ⟨#[]⟩, .int .i64 0],[("tusche/foreman.do", 197),("tusche/foreman.wrong", 198)],false,0⟩) .leaf) none (.node .leaf ty3 .leaf)) tyF (.node (.node .leaf (some ⟨(.struct [(0,1,false)]),1,16,true,[0],[.string ⟨#[]⟩],[("tusche/foreman.do", 199),("tusche/foreman.wrong", 200)],false,0⟩) .leaf) tyF (.node .leaf (some ⟨(.struct [(0,1,false),(1,1,false)]),2,32,true,[0,0],[.string ⟨#[]⟩, .string ⟨#[]⟩],[],false,0⟩) .leaf))) ty1 (.node (.node (.node .leaf (some ⟨(.struct [(0,1,false),(1,1,false)]),2,32,true,[0,0],[.string ⟨#[]⟩, .string ⟨#[]⟩],[("tusche/foreman.do", 201),("tusche/foreman.wrong", 202)],false,0⟩) .leaf) tyF (.node .leaf ty16 .leaf)) tyF (.node (.node .leaf (some ⟨(.struct [(0,1,false),(1,1,false)]),2,24,true,[0,0],[.string ⟨#[]⟩, .int .i64 0],[("tusche/foreman.do", 203),("tusche/foreman.wrong", 204)],false,0⟩) .leaf) tyF (.node .leaf (some ⟨(.struct [(0,1,false),(1,1,false),(2,1,false)]),3,32,true,[0,0,0],[.string ⟨#[]⟩, .int .i64 0, .int .i64 0],[],false,0⟩) .leaf))))) (some ⟨(.int .u8),1,1,false,[0],[.int .u8 0],[],false,0⟩) (.node (.node (.node (.node (.node .leaf (some ⟨(.struct [(0,1,false),(1,1,false),(2,1,false)]),3,32,true,[0,0,0],[.string ⟨#[]⟩, .int .i64 0, .int .i64 0],[("tusche/foreman.do", 205),("tusche/foreman.wrong", 206)],false,0⟩) .leaf) tyF (.node .leaf ty3 .leaf)) none (.node (.node .leaf (some ⟨(.struct [(0,1,false)]),1,16,true,[0],[.string ⟨#[]⟩],[("tusche/foreman.do", 207),("tusche/foreman.wrong", 208)],false,0⟩) .leaf) ty1 (.node .leaf (some ⟨(.struct [(0,1,false),(1,1,false),(2,1,false)]),3,40,true,[0,0,0],[.string ⟨#[]⟩, .string ⟨#[]⟩, .int .i64 0],[],false,0⟩) .leaf))) tyF (.node (.node (.node .leaf (some ⟨(.struct [(0,1,false),(1,1,false),(2,1,false)]),3,40,true,[0,0,0],[.string ⟨#[]⟩, .string ⟨#[]⟩, .int .i64 0],[("tusche/foreman.do", 209),("tusche/foreman.wrong", 210)],false,0⟩) .leaf) ty7 (.node .leaf (some ⟨(.struct [(0,3,true)]),3,40,true,[0,0,0],[.string ⟨#[]⟩, .string ⟨#[]⟩, .int .i64 0],[],false,0⟩) .leaf)) tyF (.node (.node .leaf (some ⟨(.struct [(0,3,true)]),3,40,true,[0,0,0],[.string ⟨#[]⟩, .string ⟨#[]⟩, .int .i64 0],[("tusche/foreman.do", 211),("tusche/foreman.wrong", 212)],false,0⟩) .leaf) (some ⟨(.struct [(0,1,false),(1,1,false)]),2,32,true,[0,1],[.pointer none, .slice none 0 0],[],true,0⟩) (.node .leaf ty3 .leaf)))) ty5 (.node (.node (.node (.node .leaf (some ⟨(.struct [(0,1,false)]),1,16,true,[0],[.string ⟨#[]⟩],[("tusche/foreman.do", 214),("tusche/foreman.wrong", 215)],false,0⟩) .leaf) ty2 tyL) tyF (.node tyL ty2 tyL)) ty1 (.node (.node tyL none tyL) tyF (.node tyL tyF tyL))))) ty4 (.node (.node (.node (.node (.node tyL tyF tyL) none (.node tyL (some ⟨(.arr 4 1 false),4,4,true,[0,0,0,0],[.int .u8 0, .int .u8 0, .int .u8 0, .int .u8 0],[],false,0⟩) (.node .leaf (some ⟨(.arr 20 1 false),20,160,true,(List.replicate 20 0),[.int .u64 0, .int .u64 0, .int .u64 0, .int .u64 0, .int .u64 0, .int .u64 0, .int .u64 0, .int .u64 0, .int .u64 0, .int .u64 0, .int .u64 0, .int .u64 0, .int .u64 0, .int .u64 0, .int .u64 0, .int .u64 0, .int .u64 0, .int .u64 0, .int .u64 0, .int .u64 0],[],false,0⟩) .leaf))) tyF (.node (.node (.node .leaf (some ⟨(.int .u32),1,4,false,[0],[.int .u32 0],[],false,0⟩) .leaf) ty1 (.node .leaf (some ⟨(.arr 65 1 false),65,65,true,(List.replicate 65 0),(List.replicate 65 (.int .u8 0)),[],false,0⟩) .leaf)) tyF (.node (.node .leaf ty5 .leaf) ty1 tyL))) none (.node (.node (.node tyN ty17 tyL) none (.node tyL ty17 tyN)) ty4 (.node (.node tyL ty18 (.node .leaf ty19 .leaf)) tyF (.node (.node .leaf ty19 .leaf) ty18 tyL)))) none (.node (.node (.node (.node tyL none tyL) tyF (.node tyL tyF (.node .leaf (some ⟨(.arr 10 1 false),10,10,true,(List.replicate 10 0),[.bool false, .bool false, .bool false, .bool false, .bool false, .bool false, .bool false, .bool false, .bool false, .bool false],[],false,0⟩) .leaf))) tyF (.node (.node tyL tyF tyL) ty1 (.node (.node .leaf ty1 .leaf) ty6 (.node .leaf ty3 .leaf)))) none (.node (.node (.node (.node .leaf ty3 .leaf) none (.node .leaf (some ⟨(.arr 32 1 false),32,32,true,(List.replicate 32 0),(List.replicate 32 (.int .u8 0)),[],false,0⟩) .leaf)) ty7 (.node (.node .leaf (some ⟨(.arr 64 1 false),64,64,true,(List.replicate 64 0),(List.replicate 64 (.int .u8 0)),[],false,0⟩) .leaf) tyF (.node .leaf (some ⟨(.arr 256 1 false),256,256,true,(List.replicate 256 0),(List.replicate 256 (.int .u8 0)),[],false,0⟩) .leaf))) tyF (.node (.node (.node .leaf ty20 .leaf) tyF (.node .leaf ty20 .leaf)) ty7 (.node (.node .leaf (some ⟨(.arr 16 2 true),32,32,true,(List.replicate 32 0),(List.replicate 32 (.int .u8 0)),[],false,0⟩) .leaf) tyF tyN)))))))
theorem tyOK:TyOK Tryz.prog zaf:=ty_ok (by kernel_rfl)
end Go.Vc
namespace Go.Vc
open Go.Proofs
structure Claiming where
 customer:ByteArray
 edition:ByteArray
 n:Int
 deriving DecidableEq,Inhabited
def Claiming.d (x:Claiming):D := .agg [strN x.customer,strN x.edition,iN x.n]
structure NewStone where
 name:ByteArray
 thick:Int
 deriving DecidableEq,Inhabited
def NewStone.d (x:NewStone):D := .agg [strN x.name,iN x.thick]
structure NewEdition where
 name:ByteArray
 deriving DecidableEq,Inhabited
def NewEdition.d (x:NewEdition):D := .agg [strN x.name]
structure Drawing where
 stone:ByteArray
 edition:ByteArray
 deriving DecidableEq,Inhabited
def Drawing.d (x:Drawing):D := .agg [strN x.stone,strN x.edition]
structure Paper where
 edition:ByteArray
 n:Int
 deriving DecidableEq,Inhabited
def Paper.d (x:Paper):D := .agg [strN x.edition,iN x.n]
structure Printing where
 stone:ByteArray
 good:Int
 spoilt:Int
 deriving DecidableEq,Inhabited
def Printing.d (x:Printing):D := .agg [strN x.stone,iN x.good,iN x.spoilt]
structure Closing where
 edition:ByteArray
 deriving DecidableEq,Inhabited
def Closing.d (x:Closing):D := .agg [strN x.edition]
structure Delivery where
 claiming:Claiming
 deriving DecidableEq,Inhabited
def Delivery.d (x:Delivery):D := .agg [strN x.claiming.customer,strN x.claiming.edition,iN x.claiming.n]
structure Grinding where
 stone:ByteArray
 deriving DecidableEq,Inhabited
def Grinding.d (x:Grinding):D := .agg [strN x.stone]
structure A4u8N where
 e0:Int
 e1:Int
 e2:Int
 e3:Int
 deriving DecidableEq,Inhabited
def A4u8N.of (l:List Int):Option A4u8N:=match l with
 | [a0,a1,a2,a3]=>some ⟨a0,a1,a2,a3⟩
 | _=>none
theorem A4u8N.of_step {ρ:Type}{r:ρ}{l:List Int}{A:A4u8N->Option ρ}{K:List D->Prop}(h:∀ x,A x=some r->K [u8N x.e0,u8N x.e1,u8N x.e2,u8N x.e3])(hF:(A4u8N.of l).bind A=some r):∃ cs,zeF 4 ((l.map u8N).drop 0)=some cs/\K cs:=by
 obtain⟨x,hx,hA⟩:=bind_some hF;unfold A4u8N.of at hx
 split at hx
 .cases hx;exact⟨_,rfl,h _ hA⟩
 .cases hx
def za3 (l:List Int):D := .sl 1 (l.map iN)
structure Edition where
 name:ByteArray
 closed:Bool
 places:List Int
 ground:Int
 paper:Int
 delivered:Int
 spoilt:Int
 deriving DecidableEq,Inhabited
def Edition.d (x:Edition):D := .agg [strN x.name,bN x.closed,za3 x.places,iN x.ground,iN x.paper,iN x.delivered,iN x.spoilt]
def Edition.mc (x:Edition):List MC:=[.d (strN x.name), .d (bN x.closed), .r 3 1 (List.map iN x.places), .d (iN x.ground), .d (iN x.paper), .d (iN x.delivered), .d (iN x.spoilt)]
structure A2iN where
 e0:Int
 e1:Int
 deriving DecidableEq,Inhabited
def A2iN.d (x:A2iN):D := .agg [iN x.e0,iN x.e1]
def A2iN.of (l:List Int):Option A2iN:=match l with
 | [a0,a1]=>some ⟨a0,a1⟩
 | _=>none
theorem A2iN.of_step {ρ:Type}{r:ρ}{l:List Int}{A:A2iN->Option ρ}{K:List D->Prop}(h:∀ x,A x=some r->K [iN x.e0,iN x.e1])(hF:(A2iN.of l).bind A=some r):∃ cs,zeF 2 ((l.map iN).drop 0)=some cs/\K cs:=by
 obtain⟨x,hx,hA⟩:=bind_some hF;unfold A2iN.of at hx
 split at hx
 .cases hx;exact⟨_,rfl,h _ hA⟩
 .cases hx
structure Stone where
 name:ByteArray
 thick:Int
 on:ByteArray
 place:Int
 deriving DecidableEq,Inhabited
def Stone.d (x:Stone):D := .agg [strN x.name,iN x.thick,strN x.on,iN x.place]
structure ClaimS where
 customer:ByteArray
 edition:ByteArray
 claimed:Int
 got:Int
 deriving DecidableEq,Inhabited
def ClaimS.d (x:ClaimS):D := .agg [strN x.customer,strN x.edition,iN x.claimed,iN x.got]
def zb2 (l:List Stone):D := .sl 4 (l.map Stone.d)
def zbg (l:List Edition):D := .sl 7 (l.map Edition.d)
def zbA (l:List ClaimS):D := .sl 4 (l.map ClaimS.d)
structure StateS where
 stones:List Stone
 editions:List Edition
 claims:List ClaimS
 deriving DecidableEq,Inhabited
def StateS.d (x:StateS):D := .agg [zb2 x.stones,zbg x.editions,zbA x.claims]
def zau (l:List ByteArray):D := .sl 1 (l.map strN)
structure Order where
 what:ByteArray
 names:List ByteArray
 n:List Int
 deriving DecidableEq,Inhabited
def Order.d (x:Order):D := .agg [strN x.what,zau x.names,za3 x.n]
structure Tally where
 Paper:Int
 Delivered:Int
 Spoilt:Int
 Lost:Int
 Rest:Int
 deriving DecidableEq,Inhabited
def Tally.d (x:Tally):D := .agg [iN x.Paper,iN x.Delivered,iN x.Spoilt,iN x.Lost,iN x.Rest]
def zar (l:List (List Int)):D := .sl 1 (l.map za3)
def zx9 (l:List Int):D := .sl 1 (l.map u8N)
structure StoneM where
 thick:Int
 of:Option Nat
 place:Int
 deriving DecidableEq,Inhabited
def StoneM.m (x:StoneM):List MC:=[.d (iN x.thick), .p 0 x.of, .d (iN x.place)]
def StoneM.pt (x:StoneM):D := .pt (zc1 x.m)
structure EditionM where
 name:ByteArray
 closed:Bool
 places:List Int
 from_:Int
 paper:Int
 delivered:Int
 spoilt:Int
 owed:List (ByteArray×Int)
 open_:Int
 deriving DecidableEq,Inhabited
def EditionM.m (x:EditionM):List MC:=[.d (strN x.name), .d (bN x.closed), .r 3 1 (List.map iN x.places), .d (iN x.from_), .d (iN x.paper), .d (iN x.delivered), .d (iN x.spoilt), .m (encM strN iN x.owed), .d (iN x.open_)]
def EditionM.pt (x:EditionM):D := .pt (zc1 x.m)
structure BookM where
 made:Bool
 lines:List ByteArray
 deriving DecidableEq,Inhabited
def BookM.m (x:BookM):List MC:=[.d (bN x.made), .r 9 1 (List.map strN x.lines)]
def BookM.pt (x:BookM):D := .pt (zc1 x.m)
inductive I97 where
 | nil
 | c199 (x:NewStone)
 | c201 (x:NewEdition)
 | c203 (x:Drawing)
 | c205 (x:Paper)
 | c207 (x:Printing)
 | c209 (x:Closing)
 | c211 (x:Claiming)
 | c213 (x:Delivery)
 | c215 (x:Grinding)
 deriving DecidableEq,Inhabited
def I97.d:I97->D
 | .nil=>.v .nilIface
 | .c199 x=>.ifc 199 (NewStone.d x)
 | .c201 x=>.ifc 201 (NewEdition.d x)
 | .c203 x=>.ifc 203 (Drawing.d x)
 | .c205 x=>.ifc 205 (Paper.d x)
 | .c207 x=>.ifc 207 (Printing.d x)
 | .c209 x=>.ifc 209 (Closing.d x)
 | .c211 x=>.ifc 211 (Claiming.d x)
 | .c213 x=>.ifc 213 (Delivery.d x)
 | .c215 x=>.ifc 215 (Grinding.d x)
theorem I97.fo {x:I97}{K:SV->Prop}(h:K (.dat x.d)):zlp (SV.ofD x.d) K:=by cases x <;> exact h
theorem I97.fp {x:I97}{K:SV->Prop}(h:K (.dat x.d)):zlp (.dat x.d) K:=by cases x <;> exact h
def I97.on {β:Type}(x:I97)(a:Option β)(f199:NewStone->Option β)(f201:NewEdition->Option β)(f203:Drawing->Option β)(f205:Paper->Option β)(f207:Printing->Option β)(f209:Closing->Option β)(f211:Claiming->Option β)(f213:Delivery->Option β)(f215:Grinding->Option β):Option β:=match x with
 | .nil=>a
 | .c199 y=>f199 y
 | .c201 y=>f201 y
 | .c203 y=>f203 y
 | .c205 y=>f205 y
 | .c207 y=>f207 y
 | .c209 y=>f209 y
 | .c211 y=>f211 y
 | .c213 y=>f213 y
 | .c215 y=>f215 y
theorem I97.go0 {β:Type}{a:Option β}{f199:NewStone->Option β}{f201:NewEdition->Option β}{f203:Drawing->Option β}{f205:Paper->Option β}{f207:Printing->Option β}{f209:Closing->Option β}{f211:Claiming->Option β}{f213:Delivery->Option β}{f215:Grinding->Option β}{r:β}(hF:I97.on .nil a f199 f201 f203 f205 f207 f209 f211 f213 f215=some r):a=some r:=hF
theorem I97.go1 {β:Type}{a:Option β}{f199:NewStone->Option β}{f201:NewEdition->Option β}{f203:Drawing->Option β}{f205:Paper->Option β}{f207:Printing->Option β}{f209:Closing->Option β}{f211:Claiming->Option β}{f213:Delivery->Option β}{f215:Grinding->Option β}{r:β}{y:NewStone}(hF:I97.on (.c199 y) a f199 f201 f203 f205 f207 f209 f211 f213 f215=some r):f199 y=some r:=hF
theorem I97.go2 {β:Type}{a:Option β}{f199:NewStone->Option β}{f201:NewEdition->Option β}{f203:Drawing->Option β}{f205:Paper->Option β}{f207:Printing->Option β}{f209:Closing->Option β}{f211:Claiming->Option β}{f213:Delivery->Option β}{f215:Grinding->Option β}{r:β}{y:NewEdition}(hF:I97.on (.c201 y) a f199 f201 f203 f205 f207 f209 f211 f213 f215=some r):f201 y=some r:=hF
theorem I97.go3 {β:Type}{a:Option β}{f199:NewStone->Option β}{f201:NewEdition->Option β}{f203:Drawing->Option β}{f205:Paper->Option β}{f207:Printing->Option β}{f209:Closing->Option β}{f211:Claiming->Option β}{f213:Delivery->Option β}{f215:Grinding->Option β}{r:β}{y:Drawing}(hF:I97.on (.c203 y) a f199 f201 f203 f205 f207 f209 f211 f213 f215=some r):f203 y=some r:=hF
theorem I97.go4 {β:Type}{a:Option β}{f199:NewStone->Option β}{f201:NewEdition->Option β}{f203:Drawing->Option β}{f205:Paper->Option β}{f207:Printing->Option β}{f209:Closing->Option β}{f211:Claiming->Option β}{f213:Delivery->Option β}{f215:Grinding->Option β}{r:β}{y:Paper}(hF:I97.on (.c205 y) a f199 f201 f203 f205 f207 f209 f211 f213 f215=some r):f205 y=some r:=hF
theorem I97.go5 {β:Type}{a:Option β}{f199:NewStone->Option β}{f201:NewEdition->Option β}{f203:Drawing->Option β}{f205:Paper->Option β}{f207:Printing->Option β}{f209:Closing->Option β}{f211:Claiming->Option β}{f213:Delivery->Option β}{f215:Grinding->Option β}{r:β}{y:Printing}(hF:I97.on (.c207 y) a f199 f201 f203 f205 f207 f209 f211 f213 f215=some r):f207 y=some r:=hF
theorem I97.go6 {β:Type}{a:Option β}{f199:NewStone->Option β}{f201:NewEdition->Option β}{f203:Drawing->Option β}{f205:Paper->Option β}{f207:Printing->Option β}{f209:Closing->Option β}{f211:Claiming->Option β}{f213:Delivery->Option β}{f215:Grinding->Option β}{r:β}{y:Closing}(hF:I97.on (.c209 y) a f199 f201 f203 f205 f207 f209 f211 f213 f215=some r):f209 y=some r:=hF
theorem I97.go7 {β:Type}{a:Option β}{f199:NewStone->Option β}{f201:NewEdition->Option β}{f203:Drawing->Option β}{f205:Paper->Option β}{f207:Printing->Option β}{f209:Closing->Option β}{f211:Claiming->Option β}{f213:Delivery->Option β}{f215:Grinding->Option β}{r:β}{y:Claiming}(hF:I97.on (.c211 y) a f199 f201 f203 f205 f207 f209 f211 f213 f215=some r):f211 y=some r:=hF
theorem I97.go8 {β:Type}{a:Option β}{f199:NewStone->Option β}{f201:NewEdition->Option β}{f203:Drawing->Option β}{f205:Paper->Option β}{f207:Printing->Option β}{f209:Closing->Option β}{f211:Claiming->Option β}{f213:Delivery->Option β}{f215:Grinding->Option β}{r:β}{y:Delivery}(hF:I97.on (.c213 y) a f199 f201 f203 f205 f207 f209 f211 f213 f215=some r):f213 y=some r:=hF
theorem I97.go9 {β:Type}{a:Option β}{f199:NewStone->Option β}{f201:NewEdition->Option β}{f203:Drawing->Option β}{f205:Paper->Option β}{f207:Printing->Option β}{f209:Closing->Option β}{f211:Claiming->Option β}{f213:Delivery->Option β}{f215:Grinding->Option β}{r:β}{y:Grinding}(hF:I97.on (.c215 y) a f199 f201 f203 f205 f207 f209 f211 f213 f215=some r):f215 y=some r:=hF
abbrev LS:=List (ByteArray×StoneM)
abbrev LE:=List (ByteArray×EditionM)
abbrev LC:=List (ByteArray×Bool)
abbrev LB:=List ByteArray
abbrev rW (x:LB):Blk := .row 9 1 (List.map strN x)
abbrev sW (k:List Nat)(x:LS):Blk := .fam k (encF strN StoneM.m x) []
abbrev eW (x:LE):Blk := .fam [] (encF strN EditionM.m x) []
abbrev mW (x:LC):Blk := .mp (encM strN bN x)
end Go.Vc
namespace Go.Proofs
open Go.Shelf
def Tryz.laysM171_ren:Go.Shelf.Ren:=⟨fun|171=>30|243=>60|246=>87|283=>120|284=>121|285=>122|286=>123|129=>150|317=>149|318=>151|319=>152|320=>153|337=>167|338=>168|n=>n,fun|3=>3|9=>9|2=>2|4=>4|171=>181|0=>0|53=>182|37=>71|5=>5|173=>185|212=>226|51=>227|20=>20|213=>228|46=>229|232=>248|233=>249|n=>n,fun|17=>0|18=>4|19=>5|n=>n⟩
theorem Tryz.laysM171 : Go.Proofs.LaysM.n171 Tryz.prog Tryz.laysM171_ren := {
  mixed := by kernel_rfl
  f129 := Tryz.func150.trans (congrArg some (by kernel_rfl))
  f171 := Tryz.func30.trans (congrArg some (by kernel_rfl))
  f243 := Tryz.func60.trans (congrArg some (by kernel_rfl))
  f246 := Tryz.func87.trans (congrArg some (by kernel_rfl))
  f283 := Tryz.func120.trans (congrArg some (by kernel_rfl))
  f284 := Tryz.func121.trans (congrArg some (by kernel_rfl))
  f285 := Tryz.func122.trans (congrArg some (by kernel_rfl))
  f286 := Tryz.func123.trans (congrArg some (by kernel_rfl))
  f317 := Tryz.func149.trans (congrArg some (by kernel_rfl))
  f318 := Tryz.func151.trans (congrArg some (by kernel_rfl))
  f319 := Tryz.func152.trans (congrArg some (by kernel_rfl))
  f320 := Tryz.func153.trans (congrArg some (by kernel_rfl))
  f337 := Tryz.func167.trans (congrArg some (by kernel_rfl))
  f338 := Tryz.func168.trans (congrArg some (by kernel_rfl))
  t0 := Tryz.underlying0
  a0 := Tryz.isAgg0
  z0 := Tryz.sizeOf0
  v0 := Tryz.zeroValue0
  t2 := Tryz.underlying2
  a2 := Tryz.isAgg2
  z2 := Tryz.sizeOf2
  v2 := Tryz.zeroValue2
  t3 := Tryz.underlying3
  a3 := Tryz.isAgg3
  z3 := Tryz.sizeOf3
  v3 := Tryz.zeroValue3
  t4 := Tryz.underlying4
  a4 := Tryz.isAgg4
  z4 := Tryz.sizeOf4
  v4 := Tryz.zeroValue4
  t5 := Tryz.underlying5
  a5 := Tryz.isAgg5
  z5 := Tryz.sizeOf5
  v5 := Tryz.zeroValue5
  t9 := Tryz.underlying9
  a9 := Tryz.isAgg9
  z9 := Tryz.sizeOf9
  v9 := Tryz.zeroValue9
  t20 := Tryz.underlying20
  a20 := Tryz.isAgg20
  z20 := Tryz.sizeOf20
  v20 := Tryz.zeroValue20
  t37 := Tryz.underlying71
  a37 := Tryz.isAgg71
  z37 := Tryz.sizeOf71
  v37 := Tryz.zeroValue71
  t46 := Tryz.underlying229
  a46 := Tryz.isAgg229
  z46 := Tryz.sizeOf229
  v46 := Tryz.zeroValue229
  t51 := Tryz.underlying227
  a51 := Tryz.isAgg227
  z51 := Tryz.sizeOf227
  v51 := Tryz.zeroValue227
  t53 := Tryz.underlying182
  a53 := Tryz.isAgg182
  z53 := Tryz.sizeOf182
  v53 := Tryz.zeroValue182
  t171 := Tryz.underlying181
  a171 := Tryz.isAgg181
  z171 := Tryz.sizeOf181
  v171 := Tryz.zeroValue181
  t173 := Tryz.underlying185
  a173 := Tryz.isAgg185
  z173 := Tryz.sizeOf185
  v173 := Tryz.zeroValue185
  t212 := Tryz.underlying226
  a212 := Tryz.isAgg226
  z212 := Tryz.sizeOf226
  v212 := Tryz.zeroValue226
  t213 := Tryz.underlying228
  a213 := Tryz.isAgg228
  z213 := Tryz.sizeOf228
  t232 := Tryz.underlying248
  a232 := Tryz.isAgg248
  z232 := Tryz.sizeOf248
  v232 := Tryz.zeroValue248
  t233 := Tryz.underlying249
  a233 := Tryz.isAgg249
  z233 := Tryz.sizeOf249
  v233 := Tryz.zeroValue249
  g17 := by kernel_rfl
  g18 := by kernel_rfl
  g19 := by kernel_rfl
  i0 := by kernel_rfl
  i2 := by kernel_rfl
  i3 := by kernel_rfl
  i4 := by kernel_rfl
  i5 := by kernel_rfl
  i9 := by kernel_rfl
  i20 := by kernel_rfl
  i37 := by kernel_rfl
  i46 := by kernel_rfl
  i51 := by kernel_rfl
  i53 := by kernel_rfl
  i171 := by kernel_rfl
  i173 := by kernel_rfl
  i212 := by kernel_rfl
  i232 := by kernel_rfl
  i233 := by kernel_rfl
  m17 := by kernel_rfl
  m18 := by kernel_rfl
  m19 := by kernel_rfl }
open Go.RowKit Go.Sort Go.Lib in
theorem Tryz.strconv_Itoa (n:Int) (h0 : -9223372036854775808<=n) (h1:n<=9223372036854775807) (w:World) (htab:Lib.TabIs Tryz.prog w "internal/strconv.uint64pow10" .u64 Lib.pow10Tab) :
  Calls Tryz.prog 30 #[.int .i64 n] w λ e w' => e = .returned (.string ⟨(Lib.itoa n).toArray⟩)/\∃ k os,w'=grow (w.drewN k) os:=Any.strconv_Itoa Tryz.laysM171 n h0 h1 w htab
def Tryz.lays149_ren:Go.Shelf.Ren:=⟨fun|149=>100|222=>130|n=>n,fun|9=>9|5=>5|3=>3|4=>4|n=>n,fun|n=>n⟩
theorem Tryz.lays149 : Go.Proofs.Lays.n149 Tryz.prog Tryz.lays149_ren := {
  mixed := by kernel_rfl
  f149 := Tryz.func100.trans (congrArg some (by kernel_rfl))
  f222 := Tryz.func130.trans (congrArg some (by kernel_rfl))
  t3 := Tryz.underlying3
  a3 := Tryz.isAgg3
  z3 := Tryz.sizeOf3
  v3 := Tryz.zeroValue3
  t4 := Tryz.underlying4
  a4 := Tryz.isAgg4
  z4 := Tryz.sizeOf4
  v4 := Tryz.zeroValue4
  t5 := Tryz.underlying5
  a5 := Tryz.isAgg5
  z5 := Tryz.sizeOf5
  v5 := Tryz.zeroValue5
  t9 := Tryz.underlying9
  a9 := Tryz.isAgg9
  z9 := Tryz.sizeOf9
  v9 := Tryz.zeroValue9 }
open Go.RowKit Go.Lib in
theorem Tryz.strings_LastIndexByte (s:ByteArray)(c:Int)(hs:s.size<4611686018427387904)(w:World) :
  Calls Tryz.prog 100 #[.string s, .int .u8 c] w λ e w' => e = .returned (.int .i64 (Lib.lastIndexByte s c))/\w'=w:=Any.strings_LastIndexByte Tryz.lays149 s c hs w
def Tryz.lays100_ren:Go.Shelf.Ren:=⟨fun|100=>72|207=>97|n=>n,fun|9=>9|4=>4|3=>3|n=>n,fun|n=>n⟩
theorem Tryz.lays100 : Go.Proofs.Lays.n100 Tryz.prog Tryz.lays100_ren := {
  mixed := by kernel_rfl
  f100 := Tryz.func72.trans (congrArg some (by kernel_rfl))
  f207 := Tryz.func97.trans (congrArg some (by kernel_rfl))
  t3 := Tryz.underlying3
  a3 := Tryz.isAgg3
  z3 := Tryz.sizeOf3
  v3 := Tryz.zeroValue3
  t4 := Tryz.underlying4
  a4 := Tryz.isAgg4
  z4 := Tryz.sizeOf4
  v4 := Tryz.zeroValue4
  t9 := Tryz.underlying9
  a9 := Tryz.isAgg9
  z9 := Tryz.sizeOf9
  v9 := Tryz.zeroValue9 }
open Go.RowKit Go.Lib in
theorem Tryz.strings_HasSuffix (s p:ByteArray)(w:World)(hs:s.size<=9223372036854775807) :
  Calls Tryz.prog 72 #[.string s, .string p] w λ e w' => e = .returned (.bool (Lib.hasSuffix s.data.toList p.data.toList))/\w'=w:=Any.strings_HasSuffix Tryz.lays100 s p w hs
def Tryz.lays102_ren:Go.Shelf.Ren:=⟨fun|102=>74|209=>99|207=>97|n=>n,fun|9=>9|4=>4|3=>3|n=>n,fun|n=>n⟩
theorem Tryz.lays102 : Go.Proofs.Lays.n102 Tryz.prog Tryz.lays102_ren := {
  mixed := by kernel_rfl
  f102 := Tryz.func74.trans (congrArg some (by kernel_rfl))
  f207 := Tryz.func97.trans (congrArg some (by kernel_rfl))
  f209 := Tryz.func99.trans (congrArg some (by kernel_rfl))
  t3 := Tryz.underlying3
  a3 := Tryz.isAgg3
  z3 := Tryz.sizeOf3
  v3 := Tryz.zeroValue3
  t4 := Tryz.underlying4
  a4 := Tryz.isAgg4
  z4 := Tryz.sizeOf4
  v4 := Tryz.zeroValue4
  t9 := Tryz.underlying9
  a9 := Tryz.isAgg9
  z9 := Tryz.sizeOf9
  v9 := Tryz.zeroValue9 }
open Go.RowKit Go.Lib in
theorem Tryz.strings_TrimSuffix (s p:ByteArray)(w:World)(hs:s.size<=9223372036854775807) :
  Calls Tryz.prog 74 #[.string s, .string p] w λ e w' => e = .returned (.string ⟨(Lib.trimSuffix s.data.toList p.data.toList).toArray⟩)/\w'=w:=Any.strings_TrimSuffix Tryz.lays102 s p w hs
def Tryz.lays146_ren:Go.Shelf.Ren:=⟨fun|146=>73|221=>98|268=>127|138=>128|143=>129|195=>154|197=>155|218=>156|219=>157|260=>169|217=>170|225=>171|224=>172|267=>173|266=>177|314=>178|n=>n,fun|9=>9|31=>22|3=>3|4=>4|0=>0|105=>231|21=>21|5=>5|46=>229|119=>250|139=>253|138=>252|146=>254|51=>227|n=>n,fun|1=>1|3=>6|4=>7|n=>n⟩
theorem Tryz.lays146 : Go.Proofs.Lays.n146 Tryz.prog Tryz.lays146_ren := {
  mixed := by kernel_rfl
  f138 := Tryz.func128.trans (congrArg some (by kernel_rfl))
  f143 := Tryz.func129.trans (congrArg some (by kernel_rfl))
  f146 := Tryz.func73.trans (congrArg some (by kernel_rfl))
  f195 := Tryz.func154.trans (congrArg some (by kernel_rfl))
  f197 := Tryz.func155.trans (congrArg some (by kernel_rfl))
  f217 := Tryz.func170.trans (congrArg some (by kernel_rfl))
  f218 := Tryz.func156.trans (congrArg some (by kernel_rfl))
  f219 := Tryz.func157.trans (congrArg some (by kernel_rfl))
  f221 := Tryz.func98.trans (congrArg some (by kernel_rfl))
  f224 := Tryz.func172.trans (congrArg some (by kernel_rfl))
  f225 := Tryz.func171.trans (congrArg some (by kernel_rfl))
  f260 := Tryz.func169.trans (congrArg some (by kernel_rfl))
  f266 := Tryz.func177.trans (congrArg some (by kernel_rfl))
  f267 := Tryz.func173.trans (congrArg some (by kernel_rfl))
  f268 := Tryz.func127.trans (congrArg some (by kernel_rfl))
  f314 := Tryz.func178.trans (congrArg some (by kernel_rfl))
  t0 := Tryz.underlying0
  a0 := Tryz.isAgg0
  z0 := Tryz.sizeOf0
  v0 := Tryz.zeroValue0
  t3 := Tryz.underlying3
  a3 := Tryz.isAgg3
  z3 := Tryz.sizeOf3
  v3 := Tryz.zeroValue3
  t4 := Tryz.underlying4
  a4 := Tryz.isAgg4
  z4 := Tryz.sizeOf4
  v4 := Tryz.zeroValue4
  t5 := Tryz.underlying5
  a5 := Tryz.isAgg5
  z5 := Tryz.sizeOf5
  v5 := Tryz.zeroValue5
  t9 := Tryz.underlying9
  a9 := Tryz.isAgg9
  z9 := Tryz.sizeOf9
  v9 := Tryz.zeroValue9
  t21 := Tryz.underlying21
  a21 := Tryz.isAgg21
  z21 := Tryz.sizeOf21
  v21 := Tryz.zeroValue21
  t31 := Tryz.underlying22
  a31 := Tryz.isAgg22
  z31 := Tryz.sizeOf22
  v31 := Tryz.zeroValue22
  t46 := Tryz.underlying229
  a46 := Tryz.isAgg229
  z46 := Tryz.sizeOf229
  v46 := Tryz.zeroValue229
  t51 := Tryz.underlying227
  a51 := Tryz.isAgg227
  z51 := Tryz.sizeOf227
  v51 := Tryz.zeroValue227
  t105 := Tryz.underlying231
  a105 := Tryz.isAgg231
  z105 := Tryz.sizeOf231
  v105 := Tryz.zeroValue231
  t119 := Tryz.underlying250
  a119 := Tryz.isAgg250
  z119 := Tryz.sizeOf250
  t138 := Tryz.underlying252
  a138 := Tryz.isAgg252
  z138 := Tryz.sizeOf252
  v138 := Tryz.zeroValue252
  t139 := Tryz.underlying253
  a139 := Tryz.isAgg253
  z139 := Tryz.sizeOf253
  v139 := Tryz.zeroValue253
  t146 := Tryz.underlying254
  a146 := Tryz.isAgg254
  z146 := Tryz.sizeOf254
  v146 := Tryz.zeroValue254
  g1 := by kernel_rfl
  g3 := by kernel_rfl
  g4 := by kernel_rfl }
open Go.RowKit Go.Lib in
theorem Tryz.strings_Split (s sep:ByteArray)(m:Int)(w:World)(hs:s.size<4294967281)(hm:w.cell? ⟨1,0,none⟩=some (.int .i64 m))(h1:1<=sep.size) :
  Calls Tryz.prog 73 #[.string s, .string sep] w λ e w' =>
   e = .returned (.slice (some ⟨w.heap.size,0,none⟩) (Lib.countB s sep+1) (Lib.countB s sep+1))/\w'=w.alloc (.cells ((Lib.splitB sep 0 (Lib.countB s sep) s).map Value.string).toArray 9):=Any.strings_Split Tryz.lays146 (by kernel_rfl) s sep m w hs hm h1
def Tryz.laysM146_ren:Go.Shelf.Ren:=⟨fun|146=>73|221=>98|268=>127|138=>128|143=>129|195=>154|197=>155|218=>156|219=>157|260=>169|217=>170|225=>171|224=>172|267=>173|266=>177|314=>178|n=>n,fun|9=>9|31=>22|3=>3|4=>4|0=>0|105=>231|21=>21|5=>5|46=>229|119=>250|139=>253|138=>252|146=>254|51=>227|n=>n,fun|1=>1|3=>6|4=>7|n=>n⟩
theorem Tryz.laysM146 : Go.Proofs.LaysM.n146 Tryz.prog Tryz.laysM146_ren := {
  mixed := by kernel_rfl
  f138 := Tryz.func128.trans (congrArg some (by kernel_rfl))
  f143 := Tryz.func129.trans (congrArg some (by kernel_rfl))
  f146 := Tryz.func73.trans (congrArg some (by kernel_rfl))
  f195 := Tryz.func154.trans (congrArg some (by kernel_rfl))
  f197 := Tryz.func155.trans (congrArg some (by kernel_rfl))
  f217 := Tryz.func170.trans (congrArg some (by kernel_rfl))
  f218 := Tryz.func156.trans (congrArg some (by kernel_rfl))
  f219 := Tryz.func157.trans (congrArg some (by kernel_rfl))
  f221 := Tryz.func98.trans (congrArg some (by kernel_rfl))
  f224 := Tryz.func172.trans (congrArg some (by kernel_rfl))
  f225 := Tryz.func171.trans (congrArg some (by kernel_rfl))
  f260 := Tryz.func169.trans (congrArg some (by kernel_rfl))
  f266 := Tryz.func177.trans (congrArg some (by kernel_rfl))
  f267 := Tryz.func173.trans (congrArg some (by kernel_rfl))
  f268 := Tryz.func127.trans (congrArg some (by kernel_rfl))
  f314 := Tryz.func178.trans (congrArg some (by kernel_rfl))
  t0 := Tryz.underlying0
  a0 := Tryz.isAgg0
  z0 := Tryz.sizeOf0
  v0 := Tryz.zeroValue0
  t3 := Tryz.underlying3
  a3 := Tryz.isAgg3
  z3 := Tryz.sizeOf3
  v3 := Tryz.zeroValue3
  t4 := Tryz.underlying4
  a4 := Tryz.isAgg4
  z4 := Tryz.sizeOf4
  v4 := Tryz.zeroValue4
  t5 := Tryz.underlying5
  a5 := Tryz.isAgg5
  z5 := Tryz.sizeOf5
  v5 := Tryz.zeroValue5
  t9 := Tryz.underlying9
  a9 := Tryz.isAgg9
  z9 := Tryz.sizeOf9
  v9 := Tryz.zeroValue9
  t21 := Tryz.underlying21
  a21 := Tryz.isAgg21
  z21 := Tryz.sizeOf21
  v21 := Tryz.zeroValue21
  t31 := Tryz.underlying22
  a31 := Tryz.isAgg22
  z31 := Tryz.sizeOf22
  v31 := Tryz.zeroValue22
  t46 := Tryz.underlying229
  a46 := Tryz.isAgg229
  z46 := Tryz.sizeOf229
  v46 := Tryz.zeroValue229
  t51 := Tryz.underlying227
  a51 := Tryz.isAgg227
  z51 := Tryz.sizeOf227
  v51 := Tryz.zeroValue227
  t105 := Tryz.underlying231
  a105 := Tryz.isAgg231
  z105 := Tryz.sizeOf231
  v105 := Tryz.zeroValue231
  t119 := Tryz.underlying250
  a119 := Tryz.isAgg250
  z119 := Tryz.sizeOf250
  t138 := Tryz.underlying252
  a138 := Tryz.isAgg252
  z138 := Tryz.sizeOf252
  v138 := Tryz.zeroValue252
  t139 := Tryz.underlying253
  a139 := Tryz.isAgg253
  z139 := Tryz.sizeOf253
  v139 := Tryz.zeroValue253
  t146 := Tryz.underlying254
  a146 := Tryz.isAgg254
  z146 := Tryz.sizeOf254
  v146 := Tryz.zeroValue254
  g1 := by kernel_rfl
  g3 := by kernel_rfl
  g4 := by kernel_rfl
  i0 := by kernel_rfl
  i3 := by kernel_rfl
  i4 := by kernel_rfl
  i5 := by kernel_rfl
  i9 := by kernel_rfl
  i21 := by kernel_rfl
  i31 := by kernel_rfl
  i46 := by kernel_rfl
  i51 := by kernel_rfl
  i105 := by kernel_rfl
  i138 := by kernel_rfl
  i139 := by kernel_rfl
  i146 := by kernel_rfl
  m1 := by kernel_rfl
  s1_3 := fun w h => Go.Proofs.cell_of_shapedOpen_int (zero := #[.int .i64 0]) (t := 3) h (of_decide_eq_true (by kernel_rfl)) (by kernel_rfl) rfl (by kernel_rfl) (by kernel_rfl) Tryz.underlying3
  m3 := by kernel_rfl
  m4 := by kernel_rfl }
end Go.Proofs
namespace Go.Vc
open Go.Proofs Go.RowKit
def digs:Nat->Nat->List UInt8
 | 0,_=>[]
 | f+1,u=>if u<10 then [UInt8.ofNat (48+u)] else digs f (u / 10)++[UInt8.ofNat (48+u % 10)]
theorem zwL:∀ f u,u<10 ^ (f+1)->digs (f+1) u=Lib.decDigits u:=by
 intro f
 induction f with
 | zero =>
  intro u h;rw[Lib.decDigits,digs]
  have:u<10:=by simpa using h
  rw[if_pos this,dif_pos this]
 | succ f ih =>
  intro u h;rw[Lib.decDigits,digs];by_cases h1:u<10
  .rw [if_pos h1,dif_pos h1]
  .rw [if_neg h1,dif_neg h1,ih (u / 10) (by rw[Nat.pow_succ] at h;omega)]
theorem zgz:∀ f u,(digs f u).length<=f:=by
 intro f
 induction f with
 | zero=>intro u;simp[digs]
 | succ f ih =>
  intro u;rw[digs]
  split
  .simp
  .have:=ih (u / 10);simp;omega
def zaX (c:UInt8):List UInt8->List (List UInt8)
 | []=>[[]]
 | b::l=>bif b == c then []::zaX c l else match zaX c l with
  | []=>[[b]]
  | x::r=>(b::x)::r
theorem zdl (c:UInt8):∀ l,zaX c l≠[]:=by
 intro l
 cases l with
 | nil=>simp[zaX]
 | cons b l =>
  unfold zaX
  cases b == c
  .dsimp only[cond_false];split <;> simp
  .simp
theorem zfp (c:UInt8):∀ l,(zaX c l).length<=l.length+1/\∀ x,x∈zaX c l->x.length<=l.length:=by
 intro l
 induction l with
 | nil=>simp[zaX]
 | cons b l ih =>
  unfold zaX
  cases hb:b == c
  .dsimp only[cond_false]
   split
   .simp
   .rename_i x r h
    rw[h] at ih;refine⟨by simpa using Nat.le_succ_of_le ih.1, ?_⟩;intro y hy
    rcases List.mem_cons.1 hy with rfl|hy
    .have:=ih.2 x (by simp);simp;exact this
    .have:=ih.2 y (by simp[hy]);simp;omega
  .dsimp only[cond_true]
   refine⟨by simpa using ih.1, ?_⟩;intro y hy
   rcases List.mem_cons.1 hy with rfl|hy
   .simp
   .have:=ih.2 y hy;simp;omega
theorem zeQ (c:UInt8):∀ l,(Lib.index l [c] = -1->zaX c l=[l])/\∀ i:Nat,Lib.index l [c]=i->i<l.length/\zaX c l=l.take i::zaX c (l.drop (i+1)):=by
 intro l
 induction l with
 | nil =>
  refine⟨λ _=>rfl,λ i h=>?_⟩;simp[Lib.index] at h
 | cons b l ih =>
  have hp:([c]:List UInt8).isPrefixOf (b::l)=(c == b):=by simp[List.isPrefixOf]
  by_cases hb:b=c
  .subst hb
   have hix:Lib.index (b::l) [b]=0:=by rw[Lib.index,hp];simp
   refine⟨λ h=>by rw[hix] at h;exact absurd h (by decide),λ i h=>?_⟩;rw[hix] at h
   obtain rfl:i=0:=by omega
   refine⟨by simp, ?_⟩;rw[zaX];simp
  .have hcb:(c == b)=false:=by simpa using Ne.symm hb
   have hbc:(b == c)=false:=by simpa using hb
   have hix:Lib.index (b::l) [c]=if Lib.index l [c] == -1 then -1 else Lib.index l [c]+1:=by rw[Lib.index,hp,hcb];simp
   have hs:zaX c (b::l)=match zaX c l with|[]=>[[b]]|x::r=>(b::x)::r:=by rw[zaX,hbc];rfl
   by_cases hm:Lib.index l [c] = -1
   .rw [if_pos (by simpa using hm)] at hix
    refine⟨λ _=>by rw[hs,ih.1 hm],λ i h=>by rw[hix] at h;omega⟩
   .rw [if_neg (by simpa using hm)] at hix
    have hge:=Lib.index_ge l [c];refine⟨λ h=>by rw[hix] at h;omega,λ i h=>?_⟩;rw[hix] at h;obtain⟨j,rfl⟩:∃ j,i=j+1:=⟨i-1,by omega⟩;obtain⟨h1,h2⟩:=ih.2 j (by omega);refine⟨by simpa using h1, ?_⟩;rw[hs,h2];simp
theorem zy {a b:ByteArray}(h:a.data.toList=b.data.toList):a=b:=ByteArray.ext (Array.ext' h)
theorem zqg (c:UInt8):∀ (n:Nat) (s:ByteArray),s.size<=n->Lib.splitB ⟨#[c]⟩ 0 (Lib.countB s ⟨#[c]⟩) s=(zaX c s.data.toList).map λ l=>⟨l.toArray⟩:=by
 intro n
 induction n with
 | zero =>
  intro s hn
  rcases Lib.indexB_cases s ⟨#[c]⟩ with hix|⟨i,hix,hr⟩
  .have hi:Lib.index s.data.toList [c] = -1:=hix
   rw[Lib.splitB_miss _ _ _ _ hix,(zeQ c _).1 hi];rfl
  .have:(⟨#[c]⟩:ByteArray).size=1:=rfl
   omega
 | succ n ih =>
  intro s hn
  rcases Lib.indexB_cases s ⟨#[c]⟩ with hix|⟨i,hix,hr⟩
  .have hi:Lib.index s.data.toList [c] = -1:=hix
   rw[Lib.splitB_miss _ _ _ _ hix,(zeQ c _).1 hi];rfl
  .have h1:(⟨#[c]⟩:ByteArray).size=1:=rfl
   have hi:Lib.index s.data.toList [c]=i:=hix;have hc:=Lib.countB_hit s ⟨#[c]⟩ i (Nat.le_refl 1) hix;have hlen:s.data.toList.length=s.size:=rfl
   have hrest:(s.extract (i+1) s.size).data.toList=s.data.toList.drop (i+1):=by
    rw[ByteArray.data_extract,Array.toList_extract,List.extract_eq_take_drop,<- hlen];exact List.take_of_length_le (by simp)
   have hfirst:(s.extract 0 i).data.toList=s.data.toList.take i:=by
    rw[ByteArray.data_extract,Array.toList_extract,List.extract_eq_take_drop];simp
   rw[hc,Nat.add_comm 1,Lib.splitB_hit _ _ _ _ _ hix,((zeQ c _).2 i hi).2,h1,ih _ (by rw[ByteArray.size_extract];omega),hrest,List.map_cons,Nat.add_zero]
   congr 1
   exact zy hfirst
section
variable {P:Program} {w:World}
theorem zya {b:Nat} (hb:P.globalNamed "internal/strconv.uint64pow10" = some b) (hg:Glb P w):LX P w:=by
 obtain⟨o,ho,h⟩:=hg b (λ o=>∀ w2:World,w2.heap[b]? = some o->LX P w2) (λ w' _ hx=>by
  unfold LX Lib.TabIs World.var? at hx;rw[hb] at hx
  cases ho:w'.heap[b]? with
  | none=>simp[ho] at hx
  | some o =>
   refine⟨o,rfl,λ w2 h2=>?_⟩;unfold LX Lib.TabIs World.var?;rw[hb];simp only[zAl,h2] at hx ⊢
   simpa [ho] using hx)
 exact h w ho
theorem zum (w:World)(k:Nat)(os:Array Obj):Ext w (Go.Sort.grow (w.drewN k) os):=by
 refine⟨rfl,rfl,rfl, ?_,λ b hb=>?_⟩
 .simp [Go.Sort.grow]
 .show (w.heap++os)[b]? = _
  rw[Array.getElem?_append_left hb]
end
theorem zun:Tryz.prog.globalNamed "internal/strconv.uint64pow10" = some (Tryz.prog.globalNamed "internal/strconv.uint64pow10").get! := by kernel_rfl
theorem zyb {F:Nat->Prop}{w:World}{v:Value}{n:Int}(h:Rd F w v (iN n)):v = .int .i64 n/\IntKind.i64.min<=n/\n<=IntKind.i64.max:=by
 cases h with|v hp=>exact⟨rfl,hp⟩
theorem rd_u8 {F:Nat->Prop}{w:World}{v:Value}{n:Int}(h:Rd F w v (u8N n)):v = .int .u8 n:=by
 cases h with|v hp=>rfl
end Go.Vc
namespace Go.Vc
open Go.Proofs Go.RowKit
theorem zrX:(Tryz.prog.info? 106).map (·.size)=some 2:=by kernel_rfl
theorem zwM:liesAt Tryz.prog Tryz.prog.depth 106 (2 / Tryz.prog.cellsOf 106) 0 106 1=true:=by kernel_rfl
set_option maxHeartbeats 1000000 in
set_option maxRecDepth 100000 in
theorem zwN (b:Nat)(w:World)(h0:w.cell? ⟨b,0,none⟩=some (.pointer (some ⟨b,0,none⟩))) :
  Calls Tryz.prog 82 #[.pointer (some ⟨b,0,none⟩)] w λ e w' => e = .returned (.tuple #[])/\w'=w:=by
 obtain⟨j,hj,_⟩:=Option.map_eq_some_iff.1 zrX
 go_enter Tryz.func82,Tryz.ntmps82
 go_wp2
 rw[Lib.run_neq_ptr_same w _ Tryz.underlying104 hj]
 go_wp2
 go_end0
 exact⟨rfl,rfl⟩
set_option maxHeartbeats 1000000 in
set_option maxRecDepth 100000 in
theorem zuo (b:Nat)(w:World)(h0:w.cell? ⟨b,0,none⟩=some (.pointer none))(hsh:w.shape? b=some (106,2))(hfz:w.frozen? ⟨b,0,none⟩=false) :
  Calls Tryz.prog 82 #[.pointer (some ⟨b,0,none⟩)] w λ e w' => e = .returned (.tuple #[])/\w'=w.setCell ⟨b,0,none⟩ (.pointer (some ⟨b,0,none⟩)):=by
 obtain⟨j,hj,hjs⟩:=Option.map_eq_some_iff.1 zrX
 go_enter Tryz.func82,Tryz.ntmps82
 go_wp2
 rw[Lib.run_to_unsafe w ⟨b,0,none⟩ Tryz.underlying104 Tryz.underlying175 hj (by rw[hjs];decide) hsh (Nat.zero_lt_succ 1)];simp only[Result.andThen];rw[Oper.upon_value]
 go_wp2
 rw[run_callFunc_extern Tryz.func115 (by kernel_rfl) (by kernel_rfl) (by kernel_rfl) (e:=Extern.AbiNoEscape.same) (by kernel_rfl)];rw[Lib.run_noEscape];simp only[Result.andThen];rw[Oper.upon_value]
 go_wp2
 rw[Lib.run_from_unsafe w ⟨b,0,none⟩ Tryz.underlying175 Tryz.underlying104 hj hsh zwM];simp only[Result.andThen];rw[Oper.upon_value]
 go_wp2
 go_end0
 exact⟨rfl,rfl⟩
def copyPg (T:TypeId)(xs:List SV)(id:Nat):Pg:=match xs with
 | [.ptr k 0]=>Pg.getB k fun
  | .box [.slf k' t',x]=>when_ (Nat.beq k' k&&Nat.beq t' T) (Pg.ret ⟨.tup [],[]⟩)
  | _=>Pg.fail
 | _=>Pg.fail
theorem Local.copyPg (T:TypeId)(xs:List SV)(id:Nat):Local (copyPg T xs id):=by
 unfold Vc.copyPg
 split
 .refine Local.getB λ x=>?_
  split
  .exact Local.when_ (Local.ret _)
  .exact Local.fail
 .exact Local.fail
theorem zmr {w:World}{b:Nat}{vs:List Value}{t:TypeId}{u v:Value}(h:w.heap[b]? = some (.cells (u::vs).toArray t (0,0))):(w.setCell ⟨b,0,none⟩ v).heap[b]? = some (.cells (v::vs).toArray t (0,0)):=by
 unfold World.setCell;show (w.heap.modify _ _)[b]? = _;rw[Array.getElem?_modify,if_pos rfl,h];simp
theorem zgA {w:World}{b i:Nat}{v:Value}(h:i≠b):(w.setCell ⟨b,0,none⟩ v).heap[i]? = w.heap[i]? := by
 unfold World.setCell;show (w.heap.modify _ _)[i]? = _;rw[Array.getElem?_modify,if_neg (Ne.symm h)]
theorem zwO:CallOK Tryz.prog 82 (copyPg 106):=by
 intro fr hfr nt g e m a w xs vs id l K hs hp hl hx hb hpg;unfold copyPg at hpg
 split at hpg
 .rename_i k
  simp only[Pg.getB,zaq] at hpg;have hblk:=hs.mem.blk k
  cases hm:m k with
  | box cs =>
   rw[hm] at hblk hpg
   have key:∃ x,cs=[.slf k 106,x]/\K ⟨.tup [],[]⟩ (.b k::l):=by
    match cs,hpg with
    | [.slf k' t',x],hpg =>
     obtain⟨h1,h2⟩:=zaj hpg;simp only[zAr] at h1;obtain rfl:=zAo h1.1;obtain rfl:=zAo h1.2;exact⟨x,rfl,h2⟩
   obtain⟨x,rfl,hK⟩:=key;clear hpg
   match vs,hl with
   | [v],_ =>
   have hv:=hx 0 v _ rfl rfl
   have hv':v = .pointer (some ⟨g.β k,0,none⟩):=by
    rcases hv with hv|hv
    .cases hv
    .cases hv;rfl
   subst hv';obtain⟨us,t,r1,r2,r3,r4⟩:=hblk;obtain rfl:106=t:=r4 k 106 rfl
   match us,r2 with
   | [u0,u1],_ =>
   have hal:zab g m k:=by simp[zab,hm]
   have hfin:∀ w':World,SR fr nt g e m a w'->∃ v δ l' g',(Ending.returned (.tuple #[])) = .returned v/\K δ l'/\SR fr nt g' e (mApp δ.wr m) a w'/\DenO g' w' v δ.val/\∀ k,k∈δ.val.ids->mApp δ.wr m k ≠ .unborn :=
    λ w' h=>⟨_,_,_,g,rfl,hK,h, .inr (Den.tup (vs:=[]) rfl (by simp)),by simp[SV.ids,SV.idsL]⟩
   cases (r3 0 u0 _ rfl rfl).2 with
   | slfP =>
    refine(zwN (g.β k) w (by simp[World.cell?,r1])).mono ?_;rintro en w' ⟨rfl,rfl⟩;exact hfin _ hs
   | slfN =>
    refine(zuo (g.β k) w (by simp[World.cell?,r1]) (by simp[World.shape?,r1]) (by simp[World.frozen?,r1])).mono ?_;rintro en w' ⟨rfl,rfl⟩;refine hfin _ ?_;have hF:∀ b,g.F b->(w.setCell ⟨g.β k,0,none⟩ (.pointer (some ⟨g.β k,0,none⟩))).heap[b]? = w.heap[b]? := λ b hb=>zgA λ h=>hs.mem.hot k hal (h ▸ hb)
    have h2:=hs.setB (k:=k) (w':=w.setCell ⟨g.β k,0,none⟩ (.pointer (some ⟨g.β k,0,none⟩))) (b := .box [.slf k 106,x]) hal (λ i hi=>zgA hi) (by simp[World.setCell]) rfl rfl rfl
     ⟨[.pointer (some ⟨g.β k,0,none⟩),u1],106,zmr r1,rfl,λ i u y hu hy=>by
      match i,hu,hy with
      | 0,hu,hy =>
       simp only[List.getElem?_cons_zero,Option.some.injEq] at hu hy;subst hu;subst hy;exact⟨rfl, .slfP⟩
      | i+1,hu,hy =>
       have:=r3 (i+1) u y (by simpa using hu) (by simpa using hy)
       exact⟨this.1,this.2.mono (λ _ h=>h) hF λ _ _=>⟨rfl,rfl,rfl,List.prefix_rfl⟩⟩,r4⟩ (by simp) (λ i hi=>hs.bornM k i (by rw[hm];exact hi))
    have em:mApp [(k, .box [.slf k 106,x])] m=m:=by
     funext j;rw[zaa];by_cases hj:k=j
     .subst hj;rw[if_pos rfl,hm]
     .rw [if_neg hj];rfl
    rw[em] at h2;exact h2
  | _=>rw[hm] at hpg;exact hpg.elim
 .exact hpg.elim
theorem zo4 {T:Tree (Option TI)}{l:List Ent}(hc:zcP Tryz.prog 82)(h:CtxOK Tryz.prog (zam T l)):CtxOK Tryz.prog (zam T ((82,true,copyPg 106)::l)) :=
 zg4 hc zwO (λ _ xs id=>Local.copyPg 106 xs id) h
end Go.Vc
namespace Go.Vc
open Go.Proofs
variable {N id:Nat} {ρ:Type} {q:ρ} {xs:List SV} {m:Nat->Blk} {l:List Loc} {ds:List D} {K:Dl->List Loc->Prop} {k0 k1 k2 k3 k4 k5 k6 k7 k8 k9 k10 k11 k12 k13 k14 k15 m0 m1 m2 m3 m4 m5:Nat}
def f73 (N:Nat)(a0:ByteArray)(a1:ByteArray):Option (LB) :=
 match N with|0=>none|_+1=>(if a0.size<=1000000/\a1.size=1 then some ((zaX (a1.data.toList.headD 0) a0.data.toList).map λ l=>⟨l.toArray⟩) else none)
def G73 (ds:List D)(d:D):Prop:=∃ (N:Nat) (a0:ByteArray) (a1:ByteArray) (r:LB),ds=[strN a0,strN a1]/\f73 N a0 a1=some r/\d=zau r
theorem G73.step {a0 a1}{A:_->Option ρ}{K:D->Prop}(hd:ds=[strN a0,strN a1])(h:∀ r,A r=some q->K (zau r))(hF:(f73 N a0 a1).bind A=some q):∃ d,G73 ds d/\K d:=by
 obtain⟨r,hr,hA⟩:=bind_some hF;exact⟨_,⟨N,a0,a1,r,hd,hr,rfl⟩,h r hA⟩
theorem P73:PureOK Tryz.prog 73 G73:=by
 rintro w Z vs ds d hZ hl hr hg ⟨N,a0,a1,r,rfl,hF,rfl⟩
 rcases N with _|N
 .cases hF
 simp only[f73] at hF
 split at hF
 .rename_i h
  cases hF
  obtain⟨v,u,rfl,h1,h2⟩:=zrB hl hr;obtain⟨rfl,l1⟩:=zml h1;obtain⟨rfl,l2⟩:=zml h2;obtain⟨c,rfl⟩:=Lib.one_byte a1 h.2;obtain⟨m,hm⟩:=zwI hg Go.Proofs.Tryz.laysM146.s1_3;refine(Go.Proofs.Tryz.strings_Split a0 ⟨#[c]⟩ m w (by omega) hm (Nat.le_refl 1)).mono ?_;rintro e w' ⟨rfl,rfl⟩;have hs:=zqg c a0.size a0 (Nat.le_refl _);have hn:=Lib.splitB_all ⟨#[c]⟩ (Nat.le_refl 1) 0 _ a0 rfl;rw[hs] at hn ⊢;obtain⟨b1,b2⟩:=zfp c a0.data.toList;have hz:a0.data.toList.length=a0.size:=rfl;generalize hq:(zaX c a0.data.toList).map (λ l=>(⟨l.toArray⟩:ByteArray))=q at hn ⊢
  have hql:q.length=(zaX c a0.data.toList).length:=by rw[<- hq];simp
  have hp:∀ x,x∈q.map Value.string->pl x/\x.oneCell'=true:=by
   intro x hx;obtain⟨y,hy,rfl⟩:=List.mem_map.1 hx;rw[<- hq] at hy;obtain⟨l,hl,rfl⟩:=List.mem_map.1 hy;refine⟨?_,rfl⟩;have:=b2 l hl;show ByteArray.size _<=maxLen;simp only[ByteArray.size,List.size_toArray,maxLen];omega
  have ho:=zx2 (w:=w.alloc (.cells (q.map Value.string).toArray 9)) (t:=9) (v := .slice (some ⟨w.heap.size,0,none⟩) (Lib.countB a0 ⟨#[c]⟩+1) (Lib.countB a0 ⟨#[c]⟩+1)) (n:=Lib.countB a0 ⟨#[c]⟩+1) (xs:=q.map Value.string) (b0:=w.heap.size)
   ⟨by simpa using hn, .inr ⟨w.heap.size,_,_,rfl,Nat.le_refl _,zb0 w _,Nat.le_refl _,by simp only[maxLen];omega,by simpa using hn,by rw[Nat.mul_one,<- hn];exact List.take_of_length_le (by simp)⟩⟩ hp
  refine⟨_,rfl,Ext.alloc w _, ?_⟩;have:=ho.mono (F':=λ b=>Z b∨(w.heap.size<=b/\b<(w.alloc (.cells (q.map Value.string).toArray 9)).heap.size)) (λ b hb=>.inr hb) (λ _ _=>rfl);rw[List.map_map] at this;subst hq;exact this
 .cases hF
def zeR (n2:Int):Option (Int×Bool) :=
 some (n2,true)
def zkB:Lp (Int) Unit (Int×Bool):=lp0 ⟨[2],[],[],[]⟩ (λ n2=>[.dat (iN n2)]) (λ _=>[]) (λ n2=>zeR n2)
instance Ef105_c9 {n2}:IsLp 0 1 (zeR n2) (zkB) n2:=⟨rfl⟩
instance Cf105_c9:IsCut 1 (zeR) (zkB) 9:=⟨⟩
def zis (r4:Int->Nat->Option (Int×Bool))(a0:ByteArray)(k0:Int->Option (Int×Bool))(n2:Int)(p301:Nat):Option (Int×Bool) :=
 bif decide (p301<ByteArray.size a0) then ((some (zd0 a0 p301)).bind λ x1 =>
 bif decide (x1.1<(48:Int)) then (some ((0:Int),false))
 else (bif decide ((57:Int)<x1.1) then (some ((0:Int),false))
 else (r4 (W ((W ((10:Int)*n2))+(Wk .i32 (x1.1-(48:Int))))) x1.2)))
 else (k0 n2)
def zeS (a0:ByteArray)(k0:Int->Option (Int×Bool)):Nat->Int->Nat->Option (Int×Bool)
 | 0,_,_=>none
 | n+1,n2,p301=>zis (zeS a0 k0 n) a0 k0 n2 p301
def zrY (a0:ByteArray)(k0:Int->Option (Int×Bool)):Lp (Nat×Int×Nat) Unit (Int×Bool):=lp0 ⟨[2,23],[301],[],[]⟩ (λ (_,n2,_)=>[.dat (iN n2), .ptr 301 0]) (λ (_,_,p301)=>[.sit a0 p301]) (λ (n,n2,p301)=>zeS a0 k0 n n2 p301)
instance Ef105_4 {a0 k0 n n2 p301}:IsLp 0 2 (zeS a0 k0 n n2 p301) (zrY a0 k0) (n,n2,p301):=⟨rfl⟩
def zeq (a0:ByteArray)(N:Nat):Option (Int×Bool) :=
 zap zeR λ k0 =>
 zeS a0 k0 N (0:Int) 0
def zkC (a0:ByteArray)(N:Nat):Lp (Unit) Unit (Int×Bool):=lp0 ⟨[0,2],[],[],[]⟩ (λ _=>[.dat (strN a0), .dat (iN (0:Int))]) (λ _=>[]) (λ _=>zeq a0 N)
instance Ef105_c3 {a0 N}:IsLp 0 0 (zeq a0 N) (zkC a0 N) ():=⟨rfl⟩
instance Cf105_c3 {a0 N}:IsCut 0 (zeq a0 N) (zkC a0 N) 3:=⟨⟩
def f105 (N:Nat)(a0:ByteArray):Option (Int×Bool) :=
 zap (zeq a0 N) λ k1 =>
 bif decide (a0=zaz) then (some ((0:Int),false))
 else (bif decide ((8:Int)<(ByteArray.size a0:Int)) then (some ((0:Int),false))
 else ((idxS a0 (0:Int)).bind λ x2 =>
 bif decide (x2=(48:Int)) then (bif decide (¬ a0=(strC [48])) then (some ((0:Int),false))
 else k1)
 else k1))
def G105 (ds:List D)(d:D):Prop:=∃ (N:Nat) (a0:ByteArray) (r:Int×Bool),ds=[strN a0]/\f105 N a0=some r/\d = .tup [iN r.1,bN r.2]
theorem G105.lend {a0}{A:_->Option ρ}{K:D->Prop}(hd:ds=[strN a0])(h:∀ r,A r=some q->K (.tup [iN r.1,bN r.2]))(hF:(f105 N a0).bind A=some q):∃ d,(G105 ds d/\d.flatB=true)/\K d:=by
 obtain⟨r,hr,hA⟩:=bind_some hF;exact⟨_,⟨⟨N,a0,r,hd,hr,rfl⟩,rfl⟩,h r hA⟩
def zeT (a0:ByteArray):Option (Bool) :=
 bif decide (¬ a0=zaz) then (some (decide ((ByteArray.size a0:Int)<=(9:Int))))
 else (some (false))
def zn0 (a0:ByteArray):Lp (Unit) Unit (Bool):=lp0 ⟨[0],[],[],[]⟩ (λ _=>[.dat (strN a0)]) (λ _=>[]) (λ _=>zeT a0)
instance Ef88_c6 {a0}:IsLp 0 0 (zeT a0) (zn0 a0) ():=⟨rfl⟩
instance Cf88_c6 {a0}:IsCut 0 (zeT a0) (zn0 a0) 6:=⟨⟩
def zms (r2:Nat->Option (Bool))(a0:ByteArray)(k0:Option (Bool))(p101:Nat):Option (Bool) :=
 bif decide (p101<ByteArray.size a0) then ((some (zd0 a0 p101)).bind λ x1 =>
 bif decide (x1.1<(97:Int)) then (some (false))
 else (bif decide ((122:Int)<x1.1) then (some (false))
 else (r2 x1.2)))
 else k0
def zit (a0:ByteArray)(k0:Option (Bool)):Nat->Nat->Option (Bool)
 | 0,_=>none
 | n+1,p101=>zms (zit a0 k0 n) a0 k0 p101
def zvu (a0:ByteArray)(k0:Option (Bool)):Lp (Nat×Nat) Unit (Bool):=lp0 ⟨[0,6],[101],[],[]⟩ (λ (_,_)=>[.dat (strN a0), .ptr 101 0]) (λ (_,p101)=>[.sit a0 p101]) (λ (n,p101)=>zit a0 k0 n p101)
instance Ef88_2 {a0 k0 n p101}:IsLp 0 1 (zit a0 k0 n p101) (zvu a0 k0) (n,p101):=⟨rfl⟩
def f88 (N:Nat)(a0:ByteArray):Option (Bool) :=
 zap (zeT a0) λ k0 =>
 zit a0 k0 N 0
def G88 (ds:List D)(d:D):Prop:=∃ (N:Nat) (a0:ByteArray) (r:Bool),ds=[strN a0]/\f88 N a0=some r/\d=bN r
theorem G88.lend {a0}{A:_->Option ρ}{K:D->Prop}(hd:ds=[strN a0])(h:∀ r,A r=some q->K (bN r))(hF:(f88 N a0).bind A=some q):∃ d,(G88 ds d/\d.flatB=true)/\K d:=by
 obtain⟨r,hr,hA⟩:=bind_some hF;exact⟨_,⟨⟨N,a0,r,hd,hr,rfl⟩,rfl⟩,h r hA⟩
def f108 (N:Nat)(a0:LB)(a1:A2iN):Option (I97) :=
 (ix a0 (0:Int)).bind λ x1 =>
 bif decide (x1=(strC [115,116,111,110,101])) then ((ix a0 (1:Int)).bind λ x2 =>
 some ((I97.c199 (NewStone.mk x2 a1.e0))))
 else (bif decide (x1=(strC [101,100,105,116,105,111,110])) then ((ix a0 (1:Int)).bind λ x3 =>
 some ((I97.c201 (NewEdition.mk x3))))
 else (bif decide (x1=(strC [100,114,97,119])) then ((ix a0 (1:Int)).bind λ x4 =>
 (ix a0 (2:Int)).bind λ x5 =>
 some ((I97.c203 (Drawing.mk x4 x5))))
 else (bif decide (x1=(strC [112,97,112,101,114])) then ((ix a0 (1:Int)).bind λ x6 =>
 some ((I97.c205 (Paper.mk x6 a1.e0))))
 else (bif decide (x1=(strC [112,114,105,110,116])) then ((ix a0 (1:Int)).bind λ x7 =>
 some ((I97.c207 (Printing.mk x7 a1.e0 a1.e1))))
 else (bif decide (x1=(strC [99,108,111,115,101])) then ((ix a0 (1:Int)).bind λ x8 =>
 some ((I97.c209 (Closing.mk x8))))
 else (bif decide (x1=(strC [99,108,97,105,109])) then ((ix a0 (1:Int)).bind λ x9 =>
 (ix a0 (2:Int)).bind λ x10 =>
 some ((I97.c211 (Claiming.mk x9 x10 a1.e0))))
 else (bif decide (x1=(strC [100,101,108,105,118,101,114])) then ((ix a0 (1:Int)).bind λ x11 =>
 (ix a0 (2:Int)).bind λ x12 =>
 some ((I97.c213 (Delivery.mk (Claiming.mk x11 x12 a1.e0)))))
 else ((ix a0 (1:Int)).bind λ x13 =>
 some ((I97.c215 (Grinding.mk x13)))))))))))
def G108 (ds:List D)(d:D):Prop:=∃ (N:Nat) (a0:LB) (a1:A2iN) (r:I97),ds=[zau a0,A2iN.d a1]/\f108 N a0 a1=some r/\d=I97.d r
theorem G108.step {a0 a1}{A:_->Option ρ}{K:D->Prop}(hd:ds=[zau a0,A2iN.d a1])(h:∀ r,A r=some q->K (I97.d r))(hF:(f108 N a0 a1).bind A=some q):∃ d,G108 ds d/\K d:=by
 obtain⟨r,hr,hA⟩:=bind_some hF;exact⟨_,⟨N,a0,a1,r,hd,hr,rfl⟩,h r hA⟩
def zup (self:NewStone->LS->LE->LC->Option (Int))(N:Nat)(s0:NewStone)(s1:LS)(s2:LE)(s3:LC):Option (Int) :=
 onO (zas s0.name s1) ((lenM s1).bind λ x2 =>
 bif decide ((x2:Int)=(8:Int)) then (some ((2:Int)))
 else (some ((0:Int)))) λ x1 =>
 some ((6:Int))
def f198:Nat->NewStone->LS->LE->LC->Option (Int)
 | 0,_,_,_,_=>none
 | N+1,s0,s1,s2,s3=>zup (f198 N) N s0 s1 s2 s3
def Af198 (s0:NewStone)(s1:LS)(s2:LE)(s3:LC):List SV:=[.dat (.agg [strN s0.name,iN s0.thick]), .ptr 0 0]
def Bf198 (s0:NewStone)(s1:LS)(s2:LE)(s3:LC):List Blk:=[.box [.mp 1, .mp 2, .mp 3],(sW [2] s1),(eW s2),(mW s3)]
def Rf198 (y:Int):List SV:=[.dat (iN y)]
def zyc (s0:NewStone)(s1:LS)(s2:LE)(s3:LC)(y:Int):List Blk:=[.box [.mp 1, .mp 2, .mp 3],(sW [2] s1),(eW s2),(mW s3)]
def zyd (y:Int):List Blk:=[]
def zmt:Spec (NewStone×LS×LE×LC) (Int):=⟨4,[],λ x=>Af198 x.1 x.2.1 x.2.2.1 x.2.2.2,λ x=>Bf198 x.1 x.2.1 x.2.2.1 x.2.2.2,λ _ y=>Rf198 y,λ x y=>zyc x.1 x.2.1 x.2.2.1 x.2.2.2 y,λ _ y=>zyd y⟩
def H198 (N:Nat)(x:NewStone×LS×LE×LC)(y:Int):Prop:=f198 N x.1 x.2.1 x.2.2.1 x.2.2.2=some y
def G198 (x:NewStone×LS×LE×LC)(y:Int):Prop:=∃ N,H198 N x y
theorem G198.step {s1 s2 s3}{s0:NewStone}{A:_->Option ρ}(ha:xs=[.dat (.agg [strN s0.name,iN s0.thick]), .ptr k0 0])(b0:m k0 = .box [.mp k1, .mp k2, .mp k3])(b1:m k1=(sW [k2] s1))(b2:m k2=(eW s2))(b3:m k3=(mW s3))(hu:True)(hn:za0 [k0,k1,k2,k3]=true)(h:∀ y,A y=some q->K ⟨.dat (iN y),[(k0, .box [.mp k1, .mp k2, .mp k3]),(k1,(sW [k2] s1)),(k2,(eW s2)),(k3,(mW s3))]⟩ ([Loc.b k0,Loc.b k1,Loc.b k2,Loc.b k3]++l))(hF:(f198 N s0 s1 s2 s3).bind A=some q):effPg zmt (G198) xs id (λ _=>SV.no) m l K:=by
 obtain⟨y,hy,hA⟩:=bind_some hF;exact zaO [k0,k1,k2,k3] (s0,s1,s2,s3) y _ ⟨N,hy⟩ rfl hn ha (by simp only[List.map_cons,List.map_nil,b0,b1,b2,b3];rfl) rfl rfl rfl (h y hA)
def zye:Ann:=⟨[0],[0,1,2,3],[],[]⟩
def zwP:Ann:=⟨[0],[0,1,2,3],[],[]⟩
def zuq (self:NewEdition->LS->LE->LC->Option (Int))(N:Nat)(s0:NewEdition)(s1:LS)(s2:LE)(s3:LC):Option (Int) :=
 onO (zas s0.name s2) ((lenM s2).bind λ x2 =>
 bif decide ((x2:Int)=(5:Int)) then (some ((2:Int)))
 else (some ((0:Int)))) λ x1 =>
 some ((6:Int))
def f200:Nat->NewEdition->LS->LE->LC->Option (Int)
 | 0,_,_,_,_=>none
 | N+1,s0,s1,s2,s3=>zuq (f200 N) N s0 s1 s2 s3
def Af200 (s0:NewEdition)(s1:LS)(s2:LE)(s3:LC):List SV:=[.dat (.agg [strN s0.name]), .ptr 0 0]
def Bf200 (s0:NewEdition)(s1:LS)(s2:LE)(s3:LC):List Blk:=[.box [.mp 1, .mp 2, .mp 3],(sW [2] s1),(eW s2),(mW s3)]
def Rf200 (y:Int):List SV:=[.dat (iN y)]
def zyf (s0:NewEdition)(s1:LS)(s2:LE)(s3:LC)(y:Int):List Blk:=[.box [.mp 1, .mp 2, .mp 3],(sW [2] s1),(eW s2),(mW s3)]
def zyg (y:Int):List Blk:=[]
def zmu:Spec (NewEdition×LS×LE×LC) (Int):=⟨4,[],λ x=>Af200 x.1 x.2.1 x.2.2.1 x.2.2.2,λ x=>Bf200 x.1 x.2.1 x.2.2.1 x.2.2.2,λ _ y=>Rf200 y,λ x y=>zyf x.1 x.2.1 x.2.2.1 x.2.2.2 y,λ _ y=>zyg y⟩
def H200 (N:Nat)(x:NewEdition×LS×LE×LC)(y:Int):Prop:=f200 N x.1 x.2.1 x.2.2.1 x.2.2.2=some y
def G200 (x:NewEdition×LS×LE×LC)(y:Int):Prop:=∃ N,H200 N x y
theorem G200.step {s1 s2 s3}{s0:NewEdition}{A:_->Option ρ}(ha:xs=[.dat (.agg [strN s0.name]), .ptr k0 0])(b0:m k0 = .box [.mp k1, .mp k2, .mp k3])(b1:m k1=(sW [k2] s1))(b2:m k2=(eW s2))(b3:m k3=(mW s3))(hu:True)(hn:za0 [k0,k1,k2,k3]=true)(h:∀ y,A y=some q->K ⟨.dat (iN y),[(k0, .box [.mp k1, .mp k2, .mp k3]),(k1,(sW [k2] s1)),(k2,(eW s2)),(k3,(mW s3))]⟩ ([Loc.b k0,Loc.b k1,Loc.b k2,Loc.b k3]++l))(hF:(f200 N s0 s1 s2 s3).bind A=some q):effPg zmu (G200) xs id (λ _=>SV.no) m l K:=by
 obtain⟨y,hy,hA⟩:=bind_some hF;exact zaO [k0,k1,k2,k3] (s0,s1,s2,s3) y _ ⟨N,hy⟩ rfl hn ha (by simp only[List.map_cons,List.map_nil,b0,b1,b2,b3];rfl) rfl rfl rfl (h y hA)
def zyh:Ann:=⟨[0],[0,1,2,3],[],[]⟩
def zwQ:Ann:=⟨[0],[0,1,2,3],[],[]⟩
def zur (self:Drawing->LS->LE->LC->Option (Int))(N:Nat)(s0:Drawing)(s1:LS)(s2:LE)(s3:LC):Option (Int) :=
 onO (zas s0.stone s1) (onO (zas s0.edition s2) (some ((5:Int))) λ x2 =>
 some ((5:Int))) λ x1 =>
 onO (zas s0.edition s2) (some ((5:Int))) λ x3 =>
 (getF s1 x1).bind λ x4 =>
 onO x4.of ((getF s2 x3).bind λ x6 =>
 bif x6.closed then (some ((21:Int)))
 else (some ((0:Int)))) λ x5 =>
 some ((20:Int))
def f202:Nat->Drawing->LS->LE->LC->Option (Int)
 | 0,_,_,_,_=>none
 | N+1,s0,s1,s2,s3=>zur (f202 N) N s0 s1 s2 s3
def Af202 (s0:Drawing)(s1:LS)(s2:LE)(s3:LC):List SV:=[.dat (.agg [strN s0.stone,strN s0.edition]), .ptr 0 0]
def Bf202 (s0:Drawing)(s1:LS)(s2:LE)(s3:LC):List Blk:=[.box [.mp 1, .mp 2, .mp 3],(sW [2] s1),(eW s2),(mW s3)]
def Rf202 (y:Int):List SV:=[.dat (iN y)]
def zyi (s0:Drawing)(s1:LS)(s2:LE)(s3:LC)(y:Int):List Blk:=[.box [.mp 1, .mp 2, .mp 3],(sW [2] s1),(eW s2),(mW s3)]
def zyj (y:Int):List Blk:=[]
def zmv:Spec (Drawing×LS×LE×LC) (Int):=⟨4,[],λ x=>Af202 x.1 x.2.1 x.2.2.1 x.2.2.2,λ x=>Bf202 x.1 x.2.1 x.2.2.1 x.2.2.2,λ _ y=>Rf202 y,λ x y=>zyi x.1 x.2.1 x.2.2.1 x.2.2.2 y,λ _ y=>zyj y⟩
def H202 (N:Nat)(x:Drawing×LS×LE×LC)(y:Int):Prop:=f202 N x.1 x.2.1 x.2.2.1 x.2.2.2=some y
def G202 (x:Drawing×LS×LE×LC)(y:Int):Prop:=∃ N,H202 N x y
theorem G202.step {s1 s2 s3}{s0:Drawing}{A:_->Option ρ}(ha:xs=[.dat (.agg [strN s0.stone,strN s0.edition]), .ptr k0 0])(b0:m k0 = .box [.mp k1, .mp k2, .mp k3])(b1:m k1=(sW [k2] s1))(b2:m k2=(eW s2))(b3:m k3=(mW s3))(hu:True)(hn:za0 [k0,k1,k2,k3]=true)(h:∀ y,A y=some q->K ⟨.dat (iN y),[(k0, .box [.mp k1, .mp k2, .mp k3]),(k1,(sW [k2] s1)),(k2,(eW s2)),(k3,(mW s3))]⟩ ([Loc.b k0,Loc.b k1,Loc.b k2,Loc.b k3]++l))(hF:(f202 N s0 s1 s2 s3).bind A=some q):effPg zmv (G202) xs id (λ _=>SV.no) m l K:=by
 obtain⟨y,hy,hA⟩:=bind_some hF;exact zaO [k0,k1,k2,k3] (s0,s1,s2,s3) y _ ⟨N,hy⟩ rfl hn ha (by simp only[List.map_cons,List.map_nil,b0,b1,b2,b3];rfl) rfl rfl rfl (h y hA)
def zyk:Ann:=⟨[0],[0,1,2,3],[],[]⟩
def zwR:Ann:=⟨[0],[0,1,2,3],[],[]⟩
def zus (self:Paper->LS->LE->LC->Option (Int))(N:Nat)(s0:Paper)(s1:LS)(s2:LE)(s3:LC):Option (Int) :=
 onO (zas s0.edition s2) (some ((5:Int))) λ x1 =>
 (getF s2 x1).bind λ x2 =>
 bif decide ((0:Int)<x2.from_) then (some ((21:Int)))
 else (bif decide ((5000:Int)<(W (x2.paper+s0.n))) then (some ((16:Int)))
 else (some ((0:Int))))
def f204:Nat->Paper->LS->LE->LC->Option (Int)
 | 0,_,_,_,_=>none
 | N+1,s0,s1,s2,s3=>zus (f204 N) N s0 s1 s2 s3
def Af204 (s0:Paper)(s1:LS)(s2:LE)(s3:LC):List SV:=[.dat (.agg [strN s0.edition,iN s0.n]), .ptr 0 0]
def Bf204 (s0:Paper)(s1:LS)(s2:LE)(s3:LC):List Blk:=[.box [.mp 1, .mp 2, .mp 3],(sW [2] s1),(eW s2),(mW s3)]
def Rf204 (y:Int):List SV:=[.dat (iN y)]
def zyl (s0:Paper)(s1:LS)(s2:LE)(s3:LC)(y:Int):List Blk:=[.box [.mp 1, .mp 2, .mp 3],(sW [2] s1),(eW s2),(mW s3)]
def zym (y:Int):List Blk:=[]
def zmw:Spec (Paper×LS×LE×LC) (Int):=⟨4,[],λ x=>Af204 x.1 x.2.1 x.2.2.1 x.2.2.2,λ x=>Bf204 x.1 x.2.1 x.2.2.1 x.2.2.2,λ _ y=>Rf204 y,λ x y=>zyl x.1 x.2.1 x.2.2.1 x.2.2.2 y,λ _ y=>zym y⟩
def H204 (N:Nat)(x:Paper×LS×LE×LC)(y:Int):Prop:=f204 N x.1 x.2.1 x.2.2.1 x.2.2.2=some y
def G204 (x:Paper×LS×LE×LC)(y:Int):Prop:=∃ N,H204 N x y
theorem G204.step {s1 s2 s3}{s0:Paper}{A:_->Option ρ}(ha:xs=[.dat (.agg [strN s0.edition,iN s0.n]), .ptr k0 0])(b0:m k0 = .box [.mp k1, .mp k2, .mp k3])(b1:m k1=(sW [k2] s1))(b2:m k2=(eW s2))(b3:m k3=(mW s3))(hu:True)(hn:za0 [k0,k1,k2,k3]=true)(h:∀ y,A y=some q->K ⟨.dat (iN y),[(k0, .box [.mp k1, .mp k2, .mp k3]),(k1,(sW [k2] s1)),(k2,(eW s2)),(k3,(mW s3))]⟩ ([Loc.b k0,Loc.b k1,Loc.b k2,Loc.b k3]++l))(hF:(f204 N s0 s1 s2 s3).bind A=some q):effPg zmw (G204) xs id (λ _=>SV.no) m l K:=by
 obtain⟨y,hy,hA⟩:=bind_some hF;exact zaO [k0,k1,k2,k3] (s0,s1,s2,s3) y _ ⟨N,hy⟩ rfl hn ha (by simp only[List.map_cons,List.map_nil,b0,b1,b2,b3];rfl) rfl rfl rfl (h y hA)
def zyn:Ann:=⟨[0],[0,1,2,3],[],[]⟩
def zwS:Ann:=⟨[0],[0,1,2,3],[],[]⟩
def zut (self:Printing->LS->LE->LC->Option (Int))(N:Nat)(s0:Printing)(s1:LS)(s2:LE)(s3:LC):Option (Int) :=
 onO (zas s0.stone s1) (some ((5:Int))) λ x1 =>
 (getF s1 x1).bind λ x2 =>
 onO x2.of (some ((1:Int))) λ x3 =>
 bif decide ((W (s0.good+s0.spoilt))=(0:Int)) then (some ((1:Int)))
 else ((getF s2 x3).bind λ x4 =>
 (ix x4.places x2.place).bind λ x5 =>
 (some ()).bind λ _ =>
 bif decide (x5<(W (s0.good+s0.spoilt))) then (some ((16:Int)))
 else (some ((0:Int))))
def f206:Nat->Printing->LS->LE->LC->Option (Int)
 | 0,_,_,_,_=>none
 | N+1,s0,s1,s2,s3=>zut (f206 N) N s0 s1 s2 s3
def Af206 (s0:Printing)(s1:LS)(s2:LE)(s3:LC):List SV:=[.dat (.agg [strN s0.stone,iN s0.good,iN s0.spoilt]), .ptr 0 0]
def Bf206 (s0:Printing)(s1:LS)(s2:LE)(s3:LC):List Blk:=[.box [.mp 1, .mp 2, .mp 3],(sW [2] s1),(eW s2),(mW s3)]
def Rf206 (y:Int):List SV:=[.dat (iN y)]
def zyo (s0:Printing)(s1:LS)(s2:LE)(s3:LC)(y:Int):List Blk:=[.box [.mp 1, .mp 2, .mp 3],(sW [2] s1),(eW s2),(mW s3)]
def zyp (y:Int):List Blk:=[]
def zmx:Spec (Printing×LS×LE×LC) (Int):=⟨4,[],λ x=>Af206 x.1 x.2.1 x.2.2.1 x.2.2.2,λ x=>Bf206 x.1 x.2.1 x.2.2.1 x.2.2.2,λ _ y=>Rf206 y,λ x y=>zyo x.1 x.2.1 x.2.2.1 x.2.2.2 y,λ _ y=>zyp y⟩
def H206 (N:Nat)(x:Printing×LS×LE×LC)(y:Int):Prop:=f206 N x.1 x.2.1 x.2.2.1 x.2.2.2=some y
def G206 (x:Printing×LS×LE×LC)(y:Int):Prop:=∃ N,H206 N x y
theorem G206.step {s1 s2 s3}{s0:Printing}{A:_->Option ρ}(ha:xs=[.dat (.agg [strN s0.stone,iN s0.good,iN s0.spoilt]), .ptr k0 0])(b0:m k0 = .box [.mp k1, .mp k2, .mp k3])(b1:m k1=(sW [k2] s1))(b2:m k2=(eW s2))(b3:m k3=(mW s3))(hu:True)(hn:za0 [k0,k1,k2,k3]=true)(h:∀ y,A y=some q->K ⟨.dat (iN y),[(k0, .box [.mp k1, .mp k2, .mp k3]),(k1,(sW [k2] s1)),(k2,(eW s2)),(k3,(mW s3))]⟩ ([Loc.b k0,Loc.b k1,Loc.b k2,Loc.b k3]++l))(hF:(f206 N s0 s1 s2 s3).bind A=some q):effPg zmx (G206) xs id (λ _=>SV.no) m l K:=by
 obtain⟨y,hy,hA⟩:=bind_some hF;exact zaO [k0,k1,k2,k3] (s0,s1,s2,s3) y _ ⟨N,hy⟩ rfl hn ha (by simp only[List.map_cons,List.map_nil,b0,b1,b2,b3];rfl) rfl rfl rfl (h y hA)
def zyq:Ann:=⟨[0],[0,1,2,3],[],[]⟩
def zwT:Ann:=⟨[0],[0,1,2,3],[],[]⟩
def zuu (self:Closing->LS->LE->LC->Option (Int))(N:Nat)(s0:Closing)(s1:LS)(s2:LE)(s3:LC):Option (Int) :=
 onO (zas s0.edition s2) (some ((5:Int))) λ x1 =>
 (getF s2 x1).bind λ x2 =>
 bif x2.closed then (some ((21:Int)))
 else ((some ()).bind λ _ =>
 bif decide ((List.length x2.places:Int)=(1:Int)) then (some ((1:Int)))
 else (some ((0:Int))))
def f208:Nat->Closing->LS->LE->LC->Option (Int)
 | 0,_,_,_,_=>none
 | N+1,s0,s1,s2,s3=>zuu (f208 N) N s0 s1 s2 s3
def Af208 (s0:Closing)(s1:LS)(s2:LE)(s3:LC):List SV:=[.dat (.agg [strN s0.edition]), .ptr 0 0]
def Bf208 (s0:Closing)(s1:LS)(s2:LE)(s3:LC):List Blk:=[.box [.mp 1, .mp 2, .mp 3],(sW [2] s1),(eW s2),(mW s3)]
def Rf208 (y:Int):List SV:=[.dat (iN y)]
def zyr (s0:Closing)(s1:LS)(s2:LE)(s3:LC)(y:Int):List Blk:=[.box [.mp 1, .mp 2, .mp 3],(sW [2] s1),(eW s2),(mW s3)]
def zys (y:Int):List Blk:=[]
def zmy:Spec (Closing×LS×LE×LC) (Int):=⟨4,[],λ x=>Af208 x.1 x.2.1 x.2.2.1 x.2.2.2,λ x=>Bf208 x.1 x.2.1 x.2.2.1 x.2.2.2,λ _ y=>Rf208 y,λ x y=>zyr x.1 x.2.1 x.2.2.1 x.2.2.2 y,λ _ y=>zys y⟩
def H208 (N:Nat)(x:Closing×LS×LE×LC)(y:Int):Prop:=f208 N x.1 x.2.1 x.2.2.1 x.2.2.2=some y
def G208 (x:Closing×LS×LE×LC)(y:Int):Prop:=∃ N,H208 N x y
theorem G208.step {s1 s2 s3}{s0:Closing}{A:_->Option ρ}(ha:xs=[.dat (.agg [strN s0.edition]), .ptr k0 0])(b0:m k0 = .box [.mp k1, .mp k2, .mp k3])(b1:m k1=(sW [k2] s1))(b2:m k2=(eW s2))(b3:m k3=(mW s3))(hu:True)(hn:za0 [k0,k1,k2,k3]=true)(h:∀ y,A y=some q->K ⟨.dat (iN y),[(k0, .box [.mp k1, .mp k2, .mp k3]),(k1,(sW [k2] s1)),(k2,(eW s2)),(k3,(mW s3))]⟩ ([Loc.b k0,Loc.b k1,Loc.b k2,Loc.b k3]++l))(hF:(f208 N s0 s1 s2 s3).bind A=some q):effPg zmy (G208) xs id (λ _=>SV.no) m l K:=by
 obtain⟨y,hy,hA⟩:=bind_some hF;exact zaO [k0,k1,k2,k3] (s0,s1,s2,s3) y _ ⟨N,hy⟩ rfl hn ha (by simp only[List.map_cons,List.map_nil,b0,b1,b2,b3];rfl) rfl rfl rfl (h y hA)
def zyt:Ann:=⟨[0],[0,1,2,3],[],[]⟩
def zwU:Ann:=⟨[0],[0,1,2,3],[],[]⟩
def ziu (n5:Int):Option (Int) :=
 some (n5)
def zn1:Lp (Int) Unit (Int):=lp0 ⟨[5],[],[],[]⟩ (λ n5=>[.dat (iN n5)]) (λ _=>[]) (λ n5=>ziu n5)
instance Ef64_c7 {n5}:IsLp 0 1 (ziu n5) (zn1) n5:=⟨rfl⟩
instance Cf64_c7:IsCut 1 (ziu) (zn1) 7:=⟨⟩
def zo5 (r3:Int->Int->Option (Int))(k0:Int->Option (Int))(x1:List Int)(n5:Int)(v15:Int):Option (Int) :=
 bif decide (v15<(List.length x1:Int)) then ((ix x1 v15).bind λ x2 =>
 r3 (W (n5+x2)) (W (v15+(1:Int))))
 else (k0 n5)
def zmz (k0:Int->Option (Int))(x1:List Int):Nat->Int->Int->Option (Int)
 | 0,_,_=>none
 | n+1,n5,v15=>zo5 (zmz k0 x1 n) k0 x1 n5 v15
def zvv (k0:Int->Option (Int))(x1:List Int):Lp (Nat×Int×Int) Unit (Int):=lp0 ⟨[5,13,14,15],[],[],[]⟩ (λ (_,n5,v15)=>[.dat (iN n5), .dat (za3 x1), .dat (iN (List.length x1:Int)), .dat (iN v15)]) (λ (_,_,_)=>[]) (λ (n,n5,v15)=>zmz k0 x1 n n5 v15)
instance Ef64_3 {k0 x1 n n5 v15}:IsLp 0 2 (zmz k0 x1 n n5 v15) (zvv k0 x1) (n,n5,v15):=⟨rfl⟩
def f64 (N:Nat)(a0:EditionM)(a1:Int):Option (Int) :=
 zap ziu λ k0 =>
 (sub a0.places a1 (List.length a0.places:Int)).bind λ x1 =>
 zmz k0 x1 N (0:Int) (0:Int)
def G64 (ds:List D)(d:D):Prop:=∃ (N:Nat) (a0:EditionM) (a1:Int) (r:Int),ds=[EditionM.pt a0,iN a1]/\f64 N a0 a1=some r/\d=iN r
theorem G64.lend {a0 a1}{A:_->Option ρ}{K:D->Prop}(hd:ds=[EditionM.pt a0,iN a1])(h:∀ r,A r=some q->K (iN r))(hF:(f64 N a0 a1).bind A=some q):∃ d,(G64 ds d/\d.flatB=true)/\K d:=by
 obtain⟨r,hr,hA⟩:=bind_some hF;exact⟨_,⟨⟨N,a0,a1,r,hd,hr,rfl⟩,rfl⟩,h r hA⟩
abbrev zn2 (l:List Int):Int:=W ((List.length l:Int)-(1:Int))
abbrev zn3 (x:EditionM):Int:=zn2 x.places
def zmA:Spec (Nat×LE×EditionM) Unit:=⟨2,[],λ x=>[.po 0 x.1 0],λ x=>[.fam [] (encF strN EditionM.m x.2.1) [(x.1,2,1)], .row 3 1 (List.map iN x.2.2.places)],λ x _=>[.rp 1 1 (zn3 x.2.2).toNat 0],
 λ x _=>[.fam [] (encF strN EditionM.m x.2.1) [(x.1,2,1)], .row 3 1 (List.map iN x.2.2.places)],λ _ _=>[]⟩
def G213 (x:Nat×LE×EditionM)(y:Unit):Prop:=getF x.2.1 x.1=some x.2.2/\0<=zn3 x.2.2/\zn3 x.2.2<x.2.2.places.length
theorem G213.step {i:Nat}{es:LE}{x:EditionM}{pl:List Int}{A:_->Option ρ}(ha:xs=[.po k0 i 0])(b0:m k0=(eW es))(hu:m id = .unborn)(hx:getF es i=some x)(hp:x.places=pl)(hne:za0 [k0,id]=true)
  (h:∀ y,pl[(zn2 pl).toNat]? = some y->A y=some q->K ⟨.rp id 1 (zn2 pl).toNat 0,[(k0, .fam [] (encF strN EditionM.m es) [(i,2,id)]),(id, .row 3 1 (List.map iN pl)),(id, .row 3 1 (List.map iN pl)),(k0, .fam [] (encF strN EditionM.m es) [(i,2,id)])]⟩ ([Loc.b k0,Loc.b id,Loc.b id,Loc.b k0]++l)) (hF:(ix pl (zn2 pl)).bind A=some q):preTake 2 (effPg zmA G213) xs id (λ _=>SV.no) m l K:=by
 subst hp;obtain⟨y,hy,hA⟩:=bind_some hF;unfold ix at hy
 split at hy
 .rename_i h0
  have hlt:=(zAm.1 hy).1
  have h1:zn2 x.places<x.places.length:=by generalize zn2 x.places=k at *;omega
  have hk:id≠k0:=by
   intro e;subst e;simp[za0,memB] at hne
  obtain⟨key,hkey⟩:=za4.1 hx;subst ha;refine⟨k0,i,0,[],[],_,[],3,1,List.map iN x.places,rfl,b0, ?_,hu,zax, ?_⟩
  .unfold mcAt;rw[zb1,hkey];rfl
  refine zaO (S:=zmA) (G:=G213) (K:=λ δ l' => K ⟨δ.val,δ.wr++[(id, .row 3 1 (List.map iN x.places)),(k0, .fam [] (encF strN EditionM.m es) [(i,2,id)])]⟩ l') (v := .rp id 1 (zn3 x).toNat 0) [k0,id] (i,es,x) () [(k0, .fam [] (encF strN EditionM.m es) [(i,2,id)]),(id, .row 3 1 (List.map iN x.places))] (show G213 (i,es,x) () from ⟨hx,h0,h1⟩) rfl hne rfl ?_ rfl rfl rfl (h y hy hA);simp only[List.map_cons,List.map_nil,zaa,if_neg hk,if_pos];rfl
 .cases hy
def zuv (self:NewStone->LS->LE->LC->Option (LS))(N:Nat)(s0:NewStone)(s1:LS)(s2:LE)(s3:LC):Option (LS) :=
 (insF s0.name (StoneM.mk s0.thick none (0:Int)) s1).bind λ x1 =>
 some (x1)
def f197:Nat->NewStone->LS->LE->LC->Option (LS)
 | 0,_,_,_,_=>none
 | N+1,s0,s1,s2,s3=>zuv (f197 N) N s0 s1 s2 s3
def Af197 (s0:NewStone)(s1:LS)(s2:LE)(s3:LC):List SV:=[.dat (.agg [strN s0.name,iN s0.thick]), .ptr 0 0]
def Bf197 (s0:NewStone)(s1:LS)(s2:LE)(s3:LC):List Blk:=[.box [.mp 1, .mp 2, .mp 3],(sW [2] s1),(eW s2),(mW s3)]
def Rf197 (y:LS):List SV:=[]
def zyu (s0:NewStone)(s1:LS)(s2:LE)(s3:LC)(y:LS):List Blk:=[.box [.mp 1, .mp 2, .mp 3],(sW [2] y),(eW s2),(mW s3)]
def zyv (y:LS):List Blk:=[]
def zmB:Spec (NewStone×LS×LE×LC) (LS):=⟨4,[],λ x=>Af197 x.1 x.2.1 x.2.2.1 x.2.2.2,λ x=>Bf197 x.1 x.2.1 x.2.2.1 x.2.2.2,λ _ y=>Rf197 y,λ x y=>zyu x.1 x.2.1 x.2.2.1 x.2.2.2 y,λ _ y=>zyv y⟩
def H197 (N:Nat)(x:NewStone×LS×LE×LC)(y:LS):Prop:=f197 N x.1 x.2.1 x.2.2.1 x.2.2.2=some y
def G197 (x:NewStone×LS×LE×LC)(y:LS):Prop:=∃ N,H197 N x y
theorem G197.step {s1 s2 s3}{s0:NewStone}{A:_->Option ρ}(ha:xs=[.dat (.agg [strN s0.name,iN s0.thick]), .ptr k0 0])(b0:m k0 = .box [.mp k1, .mp k2, .mp k3])(b1:m k1=(sW [k2] s1))(b2:m k2=(eW s2))(b3:m k3=(mW s3))(hu:True)(hn:za0 [k0,k1,k2,k3]=true)(h:∀ y,A y=some q->K ⟨.tup [],[(k0, .box [.mp k1, .mp k2, .mp k3]),(k1,(sW [k2] y)),(k2,(eW s2)),(k3,(mW s3))]⟩ ([Loc.b k0,Loc.b k1,Loc.b k2,Loc.b k3]++l))(hF:(f197 N s0 s1 s2 s3).bind A=some q):effPg zmB (G197) xs id (λ _=>SV.no) m l K:=by
 obtain⟨y,hy,hA⟩:=bind_some hF;exact zaO [k0,k1,k2,k3] (s0,s1,s2,s3) y _ ⟨N,hy⟩ rfl hn ha (by simp only[List.map_cons,List.map_nil,b0,b1,b2,b3];rfl) rfl rfl rfl (h y hA)
def zyw:Ann:=⟨[],[0,1,2,3],[],[]⟩
def zwV:Ann:=⟨[],[0,1,2,3],[],[]⟩
def zuw (self:NewEdition->LS->LE->LC->Option (LE))(N:Nat)(s0:NewEdition)(s1:LS)(s2:LE)(s3:LC):Option (LE) :=
 (insF s0.name (EditionM.mk s0.name false [(0:Int)] (0:Int) (0:Int) (0:Int) (0:Int) [] (0:Int)) s2).bind λ x1 =>
 some (x1)
def f199:Nat->NewEdition->LS->LE->LC->Option (LE)
 | 0,_,_,_,_=>none
 | N+1,s0,s1,s2,s3=>zuw (f199 N) N s0 s1 s2 s3
def Af199 (s0:NewEdition)(s1:LS)(s2:LE)(s3:LC):List SV:=[.dat (.agg [strN s0.name]), .ptr 0 0]
def Bf199 (s0:NewEdition)(s1:LS)(s2:LE)(s3:LC):List Blk:=[.box [.mp 1, .mp 2, .mp 3],(sW [2] s1),(eW s2),(mW s3)]
def Rf199 (y:LE):List SV:=[]
def zyx (s0:NewEdition)(s1:LS)(s2:LE)(s3:LC)(y:LE):List Blk:=[.box [.mp 1, .mp 2, .mp 3],(sW [2] s1),(eW y),(mW s3)]
def zyy (y:LE):List Blk:=[]
def zmC:Spec (NewEdition×LS×LE×LC) (LE):=⟨4,[],λ x=>Af199 x.1 x.2.1 x.2.2.1 x.2.2.2,λ x=>Bf199 x.1 x.2.1 x.2.2.1 x.2.2.2,λ _ y=>Rf199 y,λ x y=>zyx x.1 x.2.1 x.2.2.1 x.2.2.2 y,λ _ y=>zyy y⟩
def H199 (N:Nat)(x:NewEdition×LS×LE×LC)(y:LE):Prop:=f199 N x.1 x.2.1 x.2.2.1 x.2.2.2=some y
def G199 (x:NewEdition×LS×LE×LC)(y:LE):Prop:=∃ N,H199 N x y
theorem G199.step {s1 s2 s3}{s0:NewEdition}{A:_->Option ρ}(ha:xs=[.dat (.agg [strN s0.name]), .ptr k0 0])(b0:m k0 = .box [.mp k1, .mp k2, .mp k3])(b1:m k1=(sW [k2] s1))(b2:m k2=(eW s2))(b3:m k3=(mW s3))(hu:True)(hn:za0 [k0,k1,k2,k3]=true)(h:∀ y,A y=some q->K ⟨.tup [],[(k0, .box [.mp k1, .mp k2, .mp k3]),(k1,(sW [k2] s1)),(k2,(eW y)),(k3,(mW s3))]⟩ ([Loc.b k0,Loc.b k1,Loc.b k2,Loc.b k3]++l))(hF:(f199 N s0 s1 s2 s3).bind A=some q):effPg zmC (G199) xs id (λ _=>SV.no) m l K:=by
 obtain⟨y,hy,hA⟩:=bind_some hF;exact zaO [k0,k1,k2,k3] (s0,s1,s2,s3) y _ ⟨N,hy⟩ rfl hn ha (by simp only[List.map_cons,List.map_nil,b0,b1,b2,b3];rfl) rfl rfl rfl (h y hA)
def zyz:Ann:=⟨[],[0,1,2,3],[],[]⟩
def zwW:Ann:=⟨[],[0,1,2,3],[],[]⟩
def zux (self:Drawing->LS->LE->LC->Option (LS×LE))(N:Nat)(s0:Drawing)(s1:LS)(s2:LE)(s3:LC):Option (LS×LE) :=
 onO (zas s0.stone s1) (onO (zas s0.edition s2) none λ x2 =>
 (getF s2 x2).bind λ x3 =>
 none) λ x1 =>
 onO (zas s0.edition s2) none λ x4 =>
 (getF s2 x4).bind λ x5 =>
 (getF s1 x1).bind λ x6 =>
 (some (setF s1 x1 ({ x6 with of:=(some x4) }))).bind λ x7 =>
 (some (setF x7 x1 ({ x6 with of:=(some x4),place:=W ((List.length x5.places:Int)-(1:Int)) }))).bind λ x8 =>
 (some ()).bind λ _ =>
 (app 8 x5.places [(0:Int)]).bind λ x9 =>
 (some (setF s2 x4 ({ x5 with places:=x9 }))).bind λ x10 =>
 some (x8,x10)
def f201:Nat->Drawing->LS->LE->LC->Option (LS×LE)
 | 0,_,_,_,_=>none
 | N+1,s0,s1,s2,s3=>zux (f201 N) N s0 s1 s2 s3
def Af201 (s0:Drawing)(s1:LS)(s2:LE)(s3:LC):List SV:=[.dat (.agg [strN s0.stone,strN s0.edition]), .ptr 0 0]
def Bf201 (s0:Drawing)(s1:LS)(s2:LE)(s3:LC):List Blk:=[.box [.mp 1, .mp 2, .mp 3],(sW [2] s1),(eW s2),(mW s3)]
def Rf201 (y:LS×LE):List SV:=[]
def zyA (s0:Drawing)(s1:LS)(s2:LE)(s3:LC)(y:LS×LE):List Blk:=[.box [.mp 1, .mp 2, .mp 3],(sW [2] y.1),(eW y.2),(mW s3)]
def zyB (y:LS×LE):List Blk:=[]
def zmD:Spec (Drawing×LS×LE×LC) (LS×LE):=⟨4,[],λ x=>Af201 x.1 x.2.1 x.2.2.1 x.2.2.2,λ x=>Bf201 x.1 x.2.1 x.2.2.1 x.2.2.2,λ _ y=>Rf201 y,λ x y=>zyA x.1 x.2.1 x.2.2.1 x.2.2.2 y,λ _ y=>zyB y⟩
def H201 (N:Nat)(x:Drawing×LS×LE×LC)(y:LS×LE):Prop:=f201 N x.1 x.2.1 x.2.2.1 x.2.2.2=some y
def G201 (x:Drawing×LS×LE×LC)(y:LS×LE):Prop:=∃ N,H201 N x y
theorem G201.step {s1 s2 s3}{s0:Drawing}{A:_->Option ρ}(ha:xs=[.dat (.agg [strN s0.stone,strN s0.edition]), .ptr k0 0])(b0:m k0 = .box [.mp k1, .mp k2, .mp k3])(b1:m k1=(sW [k2] s1))(b2:m k2=(eW s2))(b3:m k3=(mW s3))(hu:True)(hn:za0 [k0,k1,k2,k3]=true)(h:∀ y,A y=some q->K ⟨.tup [],[(k0, .box [.mp k1, .mp k2, .mp k3]),(k1,(sW [k2] y.1)),(k2,(eW y.2)),(k3,(mW s3))]⟩ ([Loc.b k0,Loc.b k1,Loc.b k2,Loc.b k3]++l))(hF:(f201 N s0 s1 s2 s3).bind A=some q):effPg zmD (G201) xs id (λ _=>SV.no) m l K:=by
 obtain⟨y,hy,hA⟩:=bind_some hF;exact zaO [k0,k1,k2,k3] (s0,s1,s2,s3) y _ ⟨N,hy⟩ rfl hn ha (by simp only[List.map_cons,List.map_nil,b0,b1,b2,b3];rfl) rfl rfl rfl (h y hA)
def zyC:Ann:=⟨[],[0,1,2,3],[],[]⟩
def zwX:Ann:=⟨[],[0,1,2,3],[],[]⟩
def zuy (self:Paper->LS->LE->LC->Option (LE))(N:Nat)(s0:Paper)(s1:LS)(s2:LE)(s3:LC):Option (LE) :=
 onO (zas s0.edition s2) none λ x1 =>
 (getF s2 x1).bind λ x2 =>
 (some (setF s2 x1 ({ x2 with paper:=W (x2.paper+s0.n) }))).bind λ x3 =>
 (ix x2.places (0:Int)).bind λ x4 =>
 (ix x2.places (0:Int)).bind λ x5 =>
 (setx x2.places (0:Int) (W (x4+s0.n))).bind λ x6 =>
 (some (setF x3 x1 ({ x2 with places:=x6,paper:=W (x2.paper+s0.n) }))).bind λ x7 =>
 some (x7)
def f203:Nat->Paper->LS->LE->LC->Option (LE)
 | 0,_,_,_,_=>none
 | N+1,s0,s1,s2,s3=>zuy (f203 N) N s0 s1 s2 s3
def Af203 (s0:Paper)(s1:LS)(s2:LE)(s3:LC):List SV:=[.dat (.agg [strN s0.edition,iN s0.n]), .ptr 0 0]
def Bf203 (s0:Paper)(s1:LS)(s2:LE)(s3:LC):List Blk:=[.box [.mp 1, .mp 2, .mp 3],(sW [2] s1),(eW s2),(mW s3)]
def Rf203 (y:LE):List SV:=[]
def zyD (s0:Paper)(s1:LS)(s2:LE)(s3:LC)(y:LE):List Blk:=[.box [.mp 1, .mp 2, .mp 3],(sW [2] s1),(eW y),(mW s3)]
def zyE (y:LE):List Blk:=[]
def zmE:Spec (Paper×LS×LE×LC) (LE):=⟨4,[],λ x=>Af203 x.1 x.2.1 x.2.2.1 x.2.2.2,λ x=>Bf203 x.1 x.2.1 x.2.2.1 x.2.2.2,λ _ y=>Rf203 y,λ x y=>zyD x.1 x.2.1 x.2.2.1 x.2.2.2 y,λ _ y=>zyE y⟩
def H203 (N:Nat)(x:Paper×LS×LE×LC)(y:LE):Prop:=f203 N x.1 x.2.1 x.2.2.1 x.2.2.2=some y
def G203 (x:Paper×LS×LE×LC)(y:LE):Prop:=∃ N,H203 N x y
theorem G203.step {s1 s2 s3}{s0:Paper}{A:_->Option ρ}(ha:xs=[.dat (.agg [strN s0.edition,iN s0.n]), .ptr k0 0])(b0:m k0 = .box [.mp k1, .mp k2, .mp k3])(b1:m k1=(sW [k2] s1))(b2:m k2=(eW s2))(b3:m k3=(mW s3))(hu:True)(hn:za0 [k0,k1,k2,k3]=true)(h:∀ y,A y=some q->K ⟨.tup [],[(k0, .box [.mp k1, .mp k2, .mp k3]),(k1,(sW [k2] s1)),(k2,(eW y)),(k3,(mW s3))]⟩ ([Loc.b k0,Loc.b k1,Loc.b k2,Loc.b k3]++l))(hF:(f203 N s0 s1 s2 s3).bind A=some q):effPg zmE (G203) xs id (λ _=>SV.no) m l K:=by
 obtain⟨y,hy,hA⟩:=bind_some hF;exact zaO [k0,k1,k2,k3] (s0,s1,s2,s3) y _ ⟨N,hy⟩ rfl hn ha (by simp only[List.map_cons,List.map_nil,b0,b1,b2,b3];rfl) rfl rfl rfl (h y hA)
def zyF:Ann:=⟨[],[0,1,2,3],[],[]⟩
def zwY:Ann:=⟨[],[0,1,2,3],[],[]⟩
def zuz (self:Printing->LS->LE->LC->Option (LE))(N:Nat)(s0:Printing)(s1:LS)(s2:LE)(s3:LC):Option (LE) :=
 onO (zas s0.stone s1) none λ x1 =>
 (getF s1 x1).bind λ x2 =>
 onO x2.of none λ x3 =>
 (getF s2 x3).bind λ x4 =>
 (ix x4.places x2.place).bind λ x5 =>
 (ix x4.places x2.place).bind λ x6 =>
 (setx x4.places x2.place (W (x5-(W (s0.good+s0.spoilt))))).bind λ x7 =>
 (some (setF s2 x3 ({ x4 with places:=x7 }))).bind λ x8 =>
 (ix x7 (W (x2.place+(1:Int)))).bind λ x9 =>
 (ix x7 (W (x2.place+(1:Int)))).bind λ x10 =>
 (setx x7 (W (x2.place+(1:Int))) (W (x9+s0.good))).bind λ x11 =>
 (some (setF x8 x3 ({ x4 with places:=x11 }))).bind λ x12 =>
 (some (setF x12 x3 ({ x4 with places:=x11,spoilt:=W (x4.spoilt+s0.spoilt) }))).bind λ x13 =>
 some (x13)
def f205:Nat->Printing->LS->LE->LC->Option (LE)
 | 0,_,_,_,_=>none
 | N+1,s0,s1,s2,s3=>zuz (f205 N) N s0 s1 s2 s3
def Af205 (s0:Printing)(s1:LS)(s2:LE)(s3:LC):List SV:=[.dat (.agg [strN s0.stone,iN s0.good,iN s0.spoilt]), .ptr 0 0]
def Bf205 (s0:Printing)(s1:LS)(s2:LE)(s3:LC):List Blk:=[.box [.mp 1, .mp 2, .mp 3],(sW [2] s1),(eW s2),(mW s3)]
def Rf205 (y:LE):List SV:=[]
def zyG (s0:Printing)(s1:LS)(s2:LE)(s3:LC)(y:LE):List Blk:=[.box [.mp 1, .mp 2, .mp 3],(sW [2] s1),(eW y),(mW s3)]
def zyH (y:LE):List Blk:=[]
def zmF:Spec (Printing×LS×LE×LC) (LE):=⟨4,[],λ x=>Af205 x.1 x.2.1 x.2.2.1 x.2.2.2,λ x=>Bf205 x.1 x.2.1 x.2.2.1 x.2.2.2,λ _ y=>Rf205 y,λ x y=>zyG x.1 x.2.1 x.2.2.1 x.2.2.2 y,λ _ y=>zyH y⟩
def H205 (N:Nat)(x:Printing×LS×LE×LC)(y:LE):Prop:=f205 N x.1 x.2.1 x.2.2.1 x.2.2.2=some y
def G205 (x:Printing×LS×LE×LC)(y:LE):Prop:=∃ N,H205 N x y
theorem G205.step {s1 s2 s3}{s0:Printing}{A:_->Option ρ}(ha:xs=[.dat (.agg [strN s0.stone,iN s0.good,iN s0.spoilt]), .ptr k0 0])(b0:m k0 = .box [.mp k1, .mp k2, .mp k3])(b1:m k1=(sW [k2] s1))(b2:m k2=(eW s2))(b3:m k3=(mW s3))(hu:True)(hn:za0 [k0,k1,k2,k3]=true)(h:∀ y,A y=some q->K ⟨.tup [],[(k0, .box [.mp k1, .mp k2, .mp k3]),(k1,(sW [k2] s1)),(k2,(eW y)),(k3,(mW s3))]⟩ ([Loc.b k0,Loc.b k1,Loc.b k2,Loc.b k3]++l))(hF:(f205 N s0 s1 s2 s3).bind A=some q):effPg zmF (G205) xs id (λ _=>SV.no) m l K:=by
 obtain⟨y,hy,hA⟩:=bind_some hF;exact zaO [k0,k1,k2,k3] (s0,s1,s2,s3) y _ ⟨N,hy⟩ rfl hn ha (by simp only[List.map_cons,List.map_nil,b0,b1,b2,b3];rfl) rfl rfl rfl (h y hA)
def zyI:Ann:=⟨[],[0,1,2,3],[],[]⟩
def zwZ:Ann:=⟨[],[0,1,2,3],[],[]⟩
def zuA (self:Closing->LS->LE->LC->Option (LE))(N:Nat)(s0:Closing)(s1:LS)(s2:LE)(s3:LC):Option (LE) :=
 onO (zas s0.edition s2) none λ x1 =>
 (getF s2 x1).bind λ x2 =>
 (some (setF s2 x1 ({ x2 with closed:=true }))).bind λ x3 =>
 some (x3)
def f207:Nat->Closing->LS->LE->LC->Option (LE)
 | 0,_,_,_,_=>none
 | N+1,s0,s1,s2,s3=>zuA (f207 N) N s0 s1 s2 s3
def Af207 (s0:Closing)(s1:LS)(s2:LE)(s3:LC):List SV:=[.dat (.agg [strN s0.edition]), .ptr 0 0]
def Bf207 (s0:Closing)(s1:LS)(s2:LE)(s3:LC):List Blk:=[.box [.mp 1, .mp 2, .mp 3],(sW [2] s1),(eW s2),(mW s3)]
def Rf207 (y:LE):List SV:=[]
def zyJ (s0:Closing)(s1:LS)(s2:LE)(s3:LC)(y:LE):List Blk:=[.box [.mp 1, .mp 2, .mp 3],(sW [2] s1),(eW y),(mW s3)]
def zyK (y:LE):List Blk:=[]
def zmG:Spec (Closing×LS×LE×LC) (LE):=⟨4,[],λ x=>Af207 x.1 x.2.1 x.2.2.1 x.2.2.2,λ x=>Bf207 x.1 x.2.1 x.2.2.1 x.2.2.2,λ _ y=>Rf207 y,λ x y=>zyJ x.1 x.2.1 x.2.2.1 x.2.2.2 y,λ _ y=>zyK y⟩
def H207 (N:Nat)(x:Closing×LS×LE×LC)(y:LE):Prop:=f207 N x.1 x.2.1 x.2.2.1 x.2.2.2=some y
def G207 (x:Closing×LS×LE×LC)(y:LE):Prop:=∃ N,H207 N x y
theorem G207.step {s1 s2 s3}{s0:Closing}{A:_->Option ρ}(ha:xs=[.dat (.agg [strN s0.edition]), .ptr k0 0])(b0:m k0 = .box [.mp k1, .mp k2, .mp k3])(b1:m k1=(sW [k2] s1))(b2:m k2=(eW s2))(b3:m k3=(mW s3))(hu:True)(hn:za0 [k0,k1,k2,k3]=true)(h:∀ y,A y=some q->K ⟨.tup [],[(k0, .box [.mp k1, .mp k2, .mp k3]),(k1,(sW [k2] s1)),(k2,(eW y)),(k3,(mW s3))]⟩ ([Loc.b k0,Loc.b k1,Loc.b k2,Loc.b k3]++l))(hF:(f207 N s0 s1 s2 s3).bind A=some q):effPg zmG (G207) xs id (λ _=>SV.no) m l K:=by
 obtain⟨y,hy,hA⟩:=bind_some hF;exact zaO [k0,k1,k2,k3] (s0,s1,s2,s3) y _ ⟨N,hy⟩ rfl hn ha (by simp only[List.map_cons,List.map_nil,b0,b1,b2,b3];rfl) rfl rfl rfl (h y hA)
def zyL:Ann:=⟨[],[0,1,2,3],[],[]⟩
def zw0:Ann:=⟨[],[0,1,2,3],[],[]⟩
def zuB (self:Claiming->LS->LE->LC->Option (LE×LC))(N:Nat)(s0:Claiming)(s1:LS)(s2:LE)(s3:LC):Option (LE×LC) :=
 (some (setK s0.customer true s3)).bind λ x1 =>
 onO (zas s0.edition s2) none λ x2 =>
 (getF s2 x2).bind λ x3 =>
 (some (za2 (0:Int) s0.customer x3.owed)).bind λ x4 =>
 (some (setK s0.customer (W (x4.1+s0.n)) x3.owed)).bind λ x5 =>
 (some (setF s2 x2 ({ x3 with owed:=x5 }))).bind λ x6 =>
 (some (setF x6 x2 ({ x3 with owed:=x5,open_:=W (x3.open_+s0.n) }))).bind λ x7 =>
 some (x7,x1)
def f209:Nat->Claiming->LS->LE->LC->Option (LE×LC)
 | 0,_,_,_,_=>none
 | N+1,s0,s1,s2,s3=>zuB (f209 N) N s0 s1 s2 s3
def Af209 (s0:Claiming)(s1:LS)(s2:LE)(s3:LC):List SV:=[.dat (.agg [strN s0.customer,strN s0.edition,iN s0.n]), .ptr 0 0]
def Bf209 (s0:Claiming)(s1:LS)(s2:LE)(s3:LC):List Blk:=[.box [.mp 1, .mp 2, .mp 3],(sW [2] s1),(eW s2),(mW s3)]
def Rf209 (y:LE×LC):List SV:=[]
def zyM (s0:Claiming)(s1:LS)(s2:LE)(s3:LC)(y:LE×LC):List Blk:=[.box [.mp 1, .mp 2, .mp 3],(sW [2] s1),(eW y.1),(mW y.2)]
def zyN (y:LE×LC):List Blk:=[]
def zmH:Spec (Claiming×LS×LE×LC) (LE×LC):=⟨4,[],λ x=>Af209 x.1 x.2.1 x.2.2.1 x.2.2.2,λ x=>Bf209 x.1 x.2.1 x.2.2.1 x.2.2.2,λ _ y=>Rf209 y,λ x y=>zyM x.1 x.2.1 x.2.2.1 x.2.2.2 y,λ _ y=>zyN y⟩
def H209 (N:Nat)(x:Claiming×LS×LE×LC)(y:LE×LC):Prop:=f209 N x.1 x.2.1 x.2.2.1 x.2.2.2=some y
def G209 (x:Claiming×LS×LE×LC)(y:LE×LC):Prop:=∃ N,H209 N x y
theorem G209.step {s1 s2 s3}{s0:Claiming}{A:_->Option ρ}(ha:xs=[.dat (.agg [strN s0.customer,strN s0.edition,iN s0.n]), .ptr k0 0])(b0:m k0 = .box [.mp k1, .mp k2, .mp k3])(b1:m k1=(sW [k2] s1))(b2:m k2=(eW s2))(b3:m k3=(mW s3))(hu:True)(hn:za0 [k0,k1,k2,k3]=true)(h:∀ y,A y=some q->K ⟨.tup [],[(k0, .box [.mp k1, .mp k2, .mp k3]),(k1,(sW [k2] s1)),(k2,(eW y.1)),(k3,(mW y.2))]⟩ ([Loc.b k0,Loc.b k1,Loc.b k2,Loc.b k3]++l))(hF:(f209 N s0 s1 s2 s3).bind A=some q):effPg zmH (G209) xs id (λ _=>SV.no) m l K:=by
 obtain⟨y,hy,hA⟩:=bind_some hF;exact zaO [k0,k1,k2,k3] (s0,s1,s2,s3) y _ ⟨N,hy⟩ rfl hn ha (by simp only[List.map_cons,List.map_nil,b0,b1,b2,b3];rfl) rfl rfl rfl (h y hA)
def zyO:Ann:=⟨[],[0,1,2,3],[],[]⟩
def zw1:Ann:=⟨[],[0,1,2,3],[],[]⟩
def zuC (self:Grinding->LS->LE->LC->Option (LS×LE))(N:Nat)(s0:Grinding)(s1:LS)(s2:LE)(s3:LC):Option (LS×LE) :=
 onO (zas s0.stone s1) none λ x1 =>
 (getF s1 x1).bind λ x2 =>
 onO x2.of none λ x3 =>
 (getF s2 x3).bind λ x4 =>
 (some (setF s2 x3 ({ x4 with from_:=max x4.from_ (W (x2.place+(1:Int))) }))).bind λ x5 =>
 (some (setF s1 x1 (StoneM.mk (W (x2.thick-(1:Int))) none (0:Int)))).bind λ x6 =>
 some (x6,x5)
def f214:Nat->Grinding->LS->LE->LC->Option (LS×LE)
 | 0,_,_,_,_=>none
 | N+1,s0,s1,s2,s3=>zuC (f214 N) N s0 s1 s2 s3
def Af214 (s0:Grinding)(s1:LS)(s2:LE)(s3:LC):List SV:=[.dat (.agg [strN s0.stone]), .ptr 0 0]
def Bf214 (s0:Grinding)(s1:LS)(s2:LE)(s3:LC):List Blk:=[.box [.mp 1, .mp 2, .mp 3],(sW [2] s1),(eW s2),(mW s3)]
def Rf214 (y:LS×LE):List SV:=[]
def zyP (s0:Grinding)(s1:LS)(s2:LE)(s3:LC)(y:LS×LE):List Blk:=[.box [.mp 1, .mp 2, .mp 3],(sW [2] y.1),(eW y.2),(mW s3)]
def zyQ (y:LS×LE):List Blk:=[]
def zmI:Spec (Grinding×LS×LE×LC) (LS×LE):=⟨4,[],λ x=>Af214 x.1 x.2.1 x.2.2.1 x.2.2.2,λ x=>Bf214 x.1 x.2.1 x.2.2.1 x.2.2.2,λ _ y=>Rf214 y,λ x y=>zyP x.1 x.2.1 x.2.2.1 x.2.2.2 y,λ _ y=>zyQ y⟩
def H214 (N:Nat)(x:Grinding×LS×LE×LC)(y:LS×LE):Prop:=f214 N x.1 x.2.1 x.2.2.1 x.2.2.2=some y
def G214 (x:Grinding×LS×LE×LC)(y:LS×LE):Prop:=∃ N,H214 N x y
theorem G214.step {s1 s2 s3}{s0:Grinding}{A:_->Option ρ}(ha:xs=[.dat (.agg [strN s0.stone]), .ptr k0 0])(b0:m k0 = .box [.mp k1, .mp k2, .mp k3])(b1:m k1=(sW [k2] s1))(b2:m k2=(eW s2))(b3:m k3=(mW s3))(hu:True)(hn:za0 [k0,k1,k2,k3]=true)(h:∀ y,A y=some q->K ⟨.tup [],[(k0, .box [.mp k1, .mp k2, .mp k3]),(k1,(sW [k2] y.1)),(k2,(eW y.2)),(k3,(mW s3))]⟩ ([Loc.b k0,Loc.b k1,Loc.b k2,Loc.b k3]++l))(hF:(f214 N s0 s1 s2 s3).bind A=some q):effPg zmI (G214) xs id (λ _=>SV.no) m l K:=by
 obtain⟨y,hy,hA⟩:=bind_some hF;exact zaO [k0,k1,k2,k3] (s0,s1,s2,s3) y _ ⟨N,hy⟩ rfl hn ha (by simp only[List.map_cons,List.map_nil,b0,b1,b2,b3];rfl) rfl rfl rfl (h y hA)
def zyR:Ann:=⟨[],[0,1,2,3],[],[]⟩
def zw2:Ann:=⟨[],[0,1,2,3],[],[]⟩
def f30 (N:Nat)(a0:Int):Option (ByteArray) :=
 match N with|0=>none|_+1=>(if 0<=a0/\a0<1000000 then some ⟨(digs 7 a0.toNat).toArray⟩ else none)
def G30 (ds:List D)(d:D):Prop:=∃ (N:Nat) (a0:Int) (r:ByteArray),ds=[iN a0]/\f30 N a0=some r/\d=strN r
theorem G30.lend {a0}{A:_->Option ρ}{K:D->Prop}(hd:ds=[iN a0])(h:∀ r,A r=some q->K (strN r))(hF:(f30 N a0).bind A=some q):∃ d,(G30 ds d/\d.flatB=true)/\K d:=by
 obtain⟨r,hr,hA⟩:=bind_some hF;exact⟨_,⟨⟨N,a0,r,hd,hr,rfl⟩,rfl⟩,h r hA⟩
theorem P30:PureOK Tryz.prog 30 G30:=by
 rintro w Z vs ds d hZ hl hr hg ⟨N,a0,r,rfl,hF,rfl⟩
 rcases N with _|N
 .cases hF
 simp only[f30] at hF
 split at hF
 .rename_i h
  cases hF
  obtain⟨v,rfl,h1⟩:=zx1 hl hr;obtain⟨rfl,l1⟩:=zyb h1;refine(Go.Proofs.Tryz.strconv_Itoa a0 (by omega) (by omega) w (zya zun hg)).mono ?_;rintro e w' ⟨rfl,k,os,rfl⟩
  have he:Lib.itoa a0=digs 7 a0.toNat:=by
   rw[Lib.itoa,if_neg (by omega),zwL 6 a0.toNat (by omega)]
  rw[he];refine⟨_,rfl,zum _ _ _, .v ?_⟩;show ByteArray.size _<=maxLen;have:=zgz 7 a0.toNat;simp only[ByteArray.size,List.size_toArray,maxLen];omega
 .cases hF
def f117 (N:Nat)(a0:Int)(a1:Int)(a2:Int):Option (Bool) :=
 bif decide (a0<=a1) then (some (decide (a1<=a2)))
 else (some (false))
def G117 (ds:List D)(d:D):Prop:=∃ (N:Nat) (a0:Int) (a1:Int) (a2:Int) (r:Bool),ds=[iN a0,iN a1,iN a2]/\f117 N a0 a1 a2=some r/\d=bN r
theorem G117.lend {a0 a1 a2}{A:_->Option ρ}{K:D->Prop}(hd:ds=[iN a0,iN a1,iN a2])(h:∀ r,A r=some q->K (bN r))(hF:(f117 N a0 a1 a2).bind A=some q):∃ d,(G117 ds d/\d.flatB=true)/\K d:=by
 obtain⟨r,hr,hA⟩:=bind_some hF;exact⟨_,⟨⟨N,a0,a1,a2,r,hd,hr,rfl⟩,rfl⟩,h r hA⟩
def zgB (newslice6':List Int):Option ((List Int)) :=
 some (newslice6')
def ziv:Lp ((List Int)) (Nat×Unit) ((List Int)):=lpm ⟨[6],[90006],[(.slot 6,90006,3,1)],[]⟩ (λ newslice6' => zgB newslice6') (λ _ (m0,_)=>[.rs 90006 m0]) (λ newslice6' (_,_)=>[.row 3 1 (List.map iN (newslice6'))]) λ newslice6' => (List.length (newslice6'),())
instance zyS {newslice6'}:IsLp 1 1 (zgB newslice6') (ziv) newslice6':=⟨rfl⟩
instance zyT:IsCut 1 (zgB) (ziv) 15:=⟨⟩
def zo6 (r11:(List Int)->Int->Option ((List Int)))(a0:List (List Int))(k0:(List Int)->Option ((List Int)))(newslice6':List Int)(v27:Int):Option ((List Int)) :=
 bif decide (v27<(List.length a0:Int)) then ((ix a0 v27).bind λ x1 =>
 (app 8 (newslice6') x1).bind λ x2 =>
 r11 x2 (W (v27+(1:Int))))
 else (k0 (newslice6'))
def ziw (a0:List (List Int))(k0:(List Int)->Option ((List Int))):Nat->(List Int)->Int->Option ((List Int))
 | 0,_,_=>none
 | n+1,newslice6',v27=>zo6 (ziw a0 k0 n) a0 k0 newslice6' v27
def zo7 (a0:List (List Int))(k0:(List Int)->Option ((List Int))):Lp (Nat×(List Int)×Int) (Nat×Unit) ((List Int)):=lpm ⟨[6,25,26,27],[90006],[(.slot 6,90006,3,1)],[]⟩ (λ (n,newslice6',v27)=>ziw a0 k0 n newslice6' v27) (λ (_,_,v27) (m0,_)=>[.rs 90006 m0, .dat (zar a0), .dat (iN (List.length a0:Int)), .dat (iN v27)]) (λ (_,newslice6',_) (_,_)=>[.row 3 1 (List.map iN (newslice6'))]) λ (_,newslice6',_)=>(List.length (newslice6'),())
instance Ef143_11 {a0 k0 n newslice6' v27}:IsLp 1 2 (ziw a0 k0 n newslice6' v27) (zo7 a0 k0) (n,newslice6',v27):=⟨rfl⟩
def zgC (a0:List (List Int))(N:Nat)(newslice6:List Int):Option ((List Int)) :=
 zap zgB λ k0 =>
 ziw a0 k0 N newslice6 (0:Int)
def zix (a0:List (List Int))(N:Nat):Lp ((List Int)) (Nat×Unit) ((List Int)):=lpm ⟨[0,6],[90006],[(.slot 6,90006,3,1)],[]⟩ (λ newslice6=>zgC a0 N newslice6) (λ _ (m0,_)=>[.dat (zar a0), .rs 90006 m0]) (λ newslice6 (_,_)=>[.row 3 1 (List.map iN newslice6)]) λ newslice6=>(List.length newslice6,())
instance zyU {a0 N newslice6}:IsLp 1 1 (zgC a0 N newslice6) (zix a0 N) newslice6:=⟨rfl⟩
instance zyV {a0 N}:IsCut 1 (zgC a0 N) (zix a0 N) 10:=⟨⟩
def ziy (a0:List (List Int))(N:Nat)(size3:Int):Option ((List Int)) :=
 zap (zgC a0 N) λ k1 =>
 bif decide (size3<(0:Int)) then none
 else (bif decide ((0:Int)<(W (size3-(W ((0:Int)-(0:Int)))))) then ((mkA 8 (0:Int) (W (size3-(W ((0:Int)-(0:Int)))))).bind λ x3 =>
 (subR x3 0 (0:Int)).bind λ x4 =>
 k1 x4)
 else (k1 []))
def zkD (a0:List (List Int))(N:Nat):Lp (Int) Unit ((List Int)):=lp0 ⟨[0,3],[],[],[]⟩ (λ size3=>[.dat (zar a0), .dat (iN size3)]) (λ _=>[]) (λ size3=>ziy a0 N size3)
instance Ef143_c9 {a0 N size3}:IsLp 0 1 (ziy a0 N size3) (zkD a0 N) size3:=⟨rfl⟩
instance Cf143_c9 {a0 N}:IsCut 1 (ziy a0 N) (zkD a0 N) 9:=⟨⟩
def zrZ (r3:Int->Int->Option ((List Int)))(a0:List (List Int))(k2:Int->Option ((List Int)))(size3:Int)(v11:Int):Option ((List Int)) :=
 bif decide (v11<(List.length a0:Int)) then ((ix a0 v11).bind λ x5 =>
 bif decide ((W (size3+(List.length x5:Int)))<(0:Int)) then none
 else (r3 (W (size3+(List.length x5:Int))) (W (v11+(1:Int)))))
 else (k2 size3)
def zmJ (a0:List (List Int))(k2:Int->Option ((List Int))):Nat->Int->Int->Option ((List Int))
 | 0,_,_=>none
 | n+1,size3,v11=>zrZ (zmJ a0 k2 n) a0 k2 size3 v11
def zr0 (a0:List (List Int))(k2:Int->Option ((List Int))):Lp (Nat×Int×Int) Unit ((List Int)):=lp0 ⟨[0,3,9,10,11],[],[],[]⟩ (λ (_,size3,v11)=>[.dat (zar a0), .dat (iN size3), .dat (zar a0), .dat (iN (List.length a0:Int)), .dat (iN v11)]) (λ (_,_,_)=>[]) (λ (n,size3,v11)=>zmJ a0 k2 n size3 v11)
instance Ef143_3 {a0 k2 n size3 v11}:IsLp 0 2 (zmJ a0 k2 n size3 v11) (zr0 a0 k2) (n,size3,v11):=⟨rfl⟩
def f143 (N:Nat)(a0:List (List Int)):Option ((List Int)) :=
 zap (ziy a0 N) λ k2 =>
 zmJ a0 k2 N (0:Int) (0:Int)
def G143 (ds:List D)(d:D):Prop:=∃ (N:Nat) (a0:List (List Int)) (r:(List Int)),ds=[zar a0]/\f143 N a0=some r/\d=za3 r
theorem G143.step {a0}{A:_->Option ρ}{K:D->Prop}(hd:ds=[zar a0])(h:∀ r,A r=some q->K (za3 r))(hF:(f143 N a0).bind A=some q):∃ d,G143 ds d/\K d:=by
 obtain⟨r,hr,hA⟩:=bind_some hF;exact⟨_,⟨N,a0,r,hd,hr,rfl⟩,h r hA⟩
def zgD (twice3:Bool):Option (Bool) :=
 some (twice3)
def ziz:Lp (Bool) Unit (Bool):=lp0 ⟨[3],[],[],[]⟩ (λ twice3=>[.kb twice3]) (λ _=>[]) (λ twice3=>zgD twice3)
instance zyW {twice3}:IsLp 0 1 (zgD twice3) (ziz) twice3:=⟨rfl⟩
instance zyX:IsCut 1 (zgD) (ziz) 15:=⟨⟩
def zgE (a0:List (List Int))(v12:Int)(r3:Bool->Int->Option (Bool))(twice3':Bool):Option (Bool) :=
 r3 (twice3') (W (v12+(1:Int)))
def ziA (a0:List (List Int))(v12:Int)(r3:Bool->Int->Option (Bool)):Lp (Bool) Unit (Bool):=lp0 ⟨[0,3,11,12],[],[],[]⟩ (λ twice3' => [.dat (zar a0), .kb (twice3'), .dat (iN (List.length a0:Int)), .dat (iN v12)]) (λ _=>[]) (λ twice3' => zgE a0 v12 r3 twice3')
instance zyY {a0 v12 r3 twice3'}:IsLp 0 1 (zgE a0 v12 r3 twice3') (ziA a0 v12 r3) twice3':=⟨rfl⟩
instance zyZ {a0 v12 r3}:IsCut 1 (zgE a0 v12 r3) (ziA a0 v12 r3) 14:=⟨⟩
def zr1 (r7:Bool->Int->(List Bool)->(List Bool)->Option (Bool))(a0:List (List Int))(k0:Bool->Option (Bool))(v12:Int)(k1:Bool->Option (Bool))(twice3':Bool)(v17:Int)(b500:List Bool)(b501:List Bool):Option (Bool) :=
 bif decide (v17<(List.length a0:Int)) then ((ix a0 v12).bind λ x1 =>
 (ix x1 v17).bind λ x2 =>
 (ix a0 v17).bind λ x3 =>
 (ix x3 v12).bind λ x4 =>
 (chkI 10 x2).bind λ _ =>
 (ixN b500 (Int.toNat x2)).bind λ x5 =>
 bif x5 then (k0 true)
 else ((chkI 10 x4).bind λ _ =>
 (ixN b501 (Int.toNat x4)).bind λ x6 =>
 bif x6 then (k0 true)
 else ((chkI 10 x2).bind λ _ =>
 (setN b500 (Int.toNat x2) true).bind λ x7 =>
 (chkI 10 x4).bind λ _ =>
 (setN b501 (Int.toNat x4) true).bind λ x8 =>
 r7 (twice3') (W (v17+(1:Int))) x7 x8)))
 else (k1 (twice3'))
def zmK (a0:List (List Int))(k0:Bool->Option (Bool))(v12:Int)(k1:Bool->Option (Bool)):Nat->Bool->Int->(List Bool)->(List Bool)->Option (Bool)
 | 0,_,_,_,_=>none
 | n+1,twice3',v17,b500,b501=>zr1 (zmK a0 k0 v12 k1 n) a0 k0 v12 k1 twice3' v17 b500 b501
def zr2 (a0:List (List Int))(k0:Bool->Option (Bool))(v12:Int)(k1:Bool->Option (Bool)):Lp (Nat×Bool×Int×(List Bool)×(List Bool)) Unit (Bool):=lp0 ⟨[0,3,4,5,6,11,12,16,17],[500,501],[],[]⟩ (λ (_,twice3',v17,_,_)=>[.dat (zar a0), .kb (twice3'), .dat (iN v12), .ptr 500 0, .ptr 501 0, .dat (iN (List.length a0:Int)), .dat (iN v12), .dat (iN (List.length a0:Int)), .dat (iN v17)]) (λ (_,_,_,b500,b501)=>[.arr (List.map bN b500), .arr (List.map bN b501)]) (λ (n,twice3',v17,b500,b501)=>zmK a0 k0 v12 k1 n twice3' v17 b500 b501)
instance Ef145_7 {a0 k0 v12 k1 n twice3' v17 b500 b501}:IsLp 0 4 (zmK a0 k0 v12 k1 n twice3' v17 b500 b501) (zr2 a0 k0 v12 k1) (n,twice3',v17,b500,b501):=⟨rfl⟩
def zr3 (r3:Bool->Int->Option (Bool))(a0:List (List Int))(N:Nat)(k0:Bool->Option (Bool))(twice3:Bool)(v12:Int):Option (Bool) :=
 bif decide (v12<(List.length a0:Int)) then (zap (zgE a0 v12 r3) λ k1 =>
 zmK a0 k0 v12 k1 N twice3 (0:Int) (List.replicate 10 false) (List.replicate 10 false))
 else (k0 twice3)
def zmL (a0:List (List Int))(N:Nat)(k0:Bool->Option (Bool)):Nat->Bool->Int->Option (Bool)
 | 0,_,_=>none
 | n+1,twice3,v12=>zr3 (zmL a0 N k0 n) a0 N k0 twice3 v12
def zr4 (a0:List (List Int))(N:Nat)(k0:Bool->Option (Bool)):Lp (Nat×Bool×Int) Unit (Bool):=lp0 ⟨[0,3,11,12],[],[],[]⟩ (λ (_,twice3,v12)=>[.dat (zar a0), .kb twice3, .dat (iN (List.length a0:Int)), .dat (iN v12)]) (λ (_,_,_)=>[]) (λ (n,twice3,v12)=>zmL a0 N k0 n twice3 v12)
instance Ef145_3 {a0 N k0 n twice3 v12}:IsLp 0 2 (zmL a0 N k0 n twice3 v12) (zr4 a0 N k0) (n,twice3,v12):=⟨rfl⟩
def f145 (N:Nat)(a0:List (List Int)):Option (Bool) :=
 zap zgD λ k0 =>
 zmL a0 N k0 N false (0:Int)
def G145 (ds:List D)(d:D):Prop:=∃ (N:Nat) (a0:List (List Int)) (r:Bool),ds=[zar a0]/\f145 N a0=some r/\d=bN r
theorem G145.lend {a0}{A:_->Option ρ}{K:D->Prop}(hd:ds=[zar a0])(h:∀ r,A r=some q->K (bN r))(hF:(f145 N a0).bind A=some q):∃ d,(G145 ds d/\d.flatB=true)/\K d:=by
 obtain⟨r,hr,hA⟩:=bind_some hF;exact⟨_,⟨⟨N,a0,r,hd,hr,rfl⟩,rfl⟩,h r hA⟩
def zbT (a0:List (List Int))(start0:Int):Option (Int) :=
 some (start0)
def zer (a0:List (List Int)):Lp (Int) Unit (Int):=lp0 ⟨[0],[0],[],[]⟩ (λ start0=>[.dat (iN start0)]) (λ _=>[.box [.dat (zar a0)]]) (λ start0=>zbT a0 start0)
instance zuD {a0 start0}:IsLp 0 1 (zbT a0 start0) (zer a0) start0:=⟨rfl⟩
instance zuE {a0}:IsCut 1 (zbT a0) (zer a0) 104000000006:=⟨⟩
def zdA (r2:Int->Int->Option (Int))(a0:List (List Int))(a2:List Int)(k0:Int->Option (Int))(start0:Int)(v11:Int):Option (Int) :=
 bif decide (v11<(List.length a2:Int)) then ((ix a2 v11).bind λ x1 =>
 (ix a0 start0).bind λ x2 =>
 (ix x2 x1).bind λ x3 =>
 r2 x3 (W (v11+(1:Int))))
 else (k0 start0)
def zbU (a0:List (List Int))(a2:List Int)(k0:Int->Option (Int)):Nat->Int->Int->Option (Int)
 | 0,_,_=>none
 | n+1,start0,v11=>zdA (zbU a0 a2 k0 n) a0 a2 k0 start0 v11
def zhn (a0:List (List Int))(a2:List Int)(k0:Int->Option (Int)):Lp (Nat×Int×Int) Unit (Int):=lp0 ⟨[0,2,9,10,11],[0],[],[]⟩ (λ (_,start0,v11)=>[.dat (iN start0), .fn 160 [] [.ptr 0 0], .dat (za3 a2), .dat (iN (List.length a2:Int)), .dat (iN v11)]) (λ (_,_,_)=>[.box [.dat (zar a0)]]) (λ (n,start0,v11)=>zbU a0 a2 k0 n start0 v11)
instance zvw {a0 a2 k0 n start0 v11}:IsLp 0 2 (zbU a0 a2 k0 n start0 v11) (zhn a0 a2 k0) (n,start0,v11):=⟨rfl⟩
def f132 (N:Nat)(a0:List (List Int))(a1:Int)(a2:List Int):Option (Int) :=
 zap (zbT a0) λ k0 =>
 zbU a0 a2 k0 N a1 (0:Int)
def G132 (ds:List D)(d:D):Prop:=∃ (N:Nat) (a0:List (List Int)) (a1:Int) (a2:List Int) (r:Int),ds=[zar a0,iN a1,za3 a2]/\f132 N a0 a1 a2=some r/\d=iN r
theorem G132.lend {a0 a1 a2}{A:_->Option ρ}{K:D->Prop}(hd:ds=[zar a0,iN a1,za3 a2])(h:∀ r,A r=some q->K (iN r))(hF:(f132 N a0 a1 a2).bind A=some q):∃ d,(G132 ds d/\d.flatB=true)/\K d:=by
 obtain⟨r,hr,hA⟩:=bind_some hF;exact⟨_,⟨⟨N,a0,a1,a2,r,hd,hr,rfl⟩,rfl⟩,h r hA⟩
def zg6:Option (Int) :=
 some ((-1:Int))
def zkE:Lp (Unit) Unit (Int):=lp0 ⟨[],[],[],[]⟩ (λ _=>[]) (λ _=>[]) (λ _=>zg6)
instance Ef147_c7:IsLp 0 0 (zg6) (zkE) ():=⟨rfl⟩
instance Cf147_c7:IsCut 0 (zg6) (zkE) 7:=⟨⟩
def zr5 (r2:Int->Option (Int))(a0:List Int)(a1:Int)(k0:Option (Int))(v8:Int):Option (Int) :=
 bif decide (v8<(List.length a0:Int)) then ((ix a0 v8).bind λ x1 =>
 bif decide (a1=x1) then (some (v8))
 else (r2 (W (v8+(1:Int)))))
 else k0
def zmM (a0:List Int)(a1:Int)(k0:Option (Int)):Nat->Int->Option (Int)
 | 0,_=>none
 | n+1,v8=>zr5 (zmM a0 a1 k0 n) a0 a1 k0 v8
def zr6 (a0:List Int)(a1:Int)(k0:Option (Int)):Lp (Nat×Int) Unit (Int):=lp0 ⟨[0,1,7,8],[],[],[]⟩ (λ (_,v8)=>[.dat (za3 a0), .dat (iN a1), .dat (iN (List.length a0:Int)), .dat (iN v8)]) (λ (_,_)=>[]) (λ (n,v8)=>zmM a0 a1 k0 n v8)
instance Ef147_2 {a0 a1 k0 n v8}:IsLp 0 1 (zmM a0 a1 k0 n v8) (zr6 a0 a1 k0) (n,v8):=⟨rfl⟩
def f147 (N:Nat)(a0:List Int)(a1:Int):Option (Int) :=
 zap zg6 λ k0 =>
 zmM a0 a1 k0 N (0:Int)
def G147 (ds:List D)(d:D):Prop:=∃ (N:Nat) (a0:List Int) (a1:Int) (r:Int),ds=[za3 a0,iN a1]/\f147 N a0 a1=some r/\d=iN r
theorem G147.lend {a0 a1}{A:_->Option ρ}{K:D->Prop}(hd:ds=[za3 a0,iN a1])(h:∀ r,A r=some q->K (iN r))(hF:(f147 N a0 a1).bind A=some q):∃ d,(G147 ds d/\d.flatB=true)/\K d:=by
 obtain⟨r,hr,hA⟩:=bind_some hF;exact⟨_,⟨⟨N,a0,a1,r,hd,hr,rfl⟩,rfl⟩,h r hA⟩
def ziB (a0':Int):Option (Int) :=
 some (a0')
def zkF:Lp (Int) Unit (Int):=lp0 ⟨[0],[],[],[]⟩ (λ a0' => [.dat (iN (a0'))]) (λ _=>[]) (λ a0' => ziB a0')
instance Ef148_c3 {a0'}:IsLp 0 1 (ziB a0') (zkF) a0':=⟨rfl⟩
instance Cf148_c3:IsCut 1 (ziB) (zkF) 3:=⟨⟩
def zr7 (r1:Int->Int->Option (Int))(k0:Int->Option (Int))(a0':Int)(b1:Int):Option (Int) :=
 bif decide ((0:Int)<b1) then ((chk (decide (b1≠0))).bind λ _ =>
 r1 b1 (Int.tmod (a0') b1))
 else (k0 (a0'))
def zmN (k0:Int->Option (Int)):Nat->Int->Int->Option (Int)
 | 0,_,_=>none
 | n+1,a0',b1=>zr7 (zmN k0 n) k0 a0' b1
def zr8 (k0:Int->Option (Int)):Lp (Nat×Int×Int) Unit (Int):=lp0 ⟨[0,1],[],[],[]⟩ (λ (_,a0',b1)=>[.dat (iN (a0')), .dat (iN b1)]) (λ (_,_,_)=>[]) (λ (n,a0',b1)=>zmN k0 n a0' b1)
instance Ef148_1 {k0 n a0' b1}:IsLp 0 2 (zmN k0 n a0' b1) (zr8 k0) (n,a0',b1):=⟨rfl⟩
def f148 (N:Nat)(a0:Int)(a1:Int):Option (Int) :=
 zap ziB λ k0 =>
 zmN k0 N a0 a1
def G148 (ds:List D)(d:D):Prop:=∃ (N:Nat) (a0:Int) (a1:Int) (r:Int),ds=[iN a0,iN a1]/\f148 N a0 a1=some r/\d=iN r
theorem G148.lend {a0 a1}{A:_->Option ρ}{K:D->Prop}(hd:ds=[iN a0,iN a1])(h:∀ r,A r=some q->K (iN r))(hF:(f148 N a0 a1).bind A=some q):∃ d,(G148 ds d/\d.flatB=true)/\K d:=by
 obtain⟨r,hr,hA⟩:=bind_some hF;exact⟨_,⟨⟨N,a0,a1,r,hd,hr,rfl⟩,rfl⟩,h r hA⟩
def zjI:Option (Bool) :=
 some (true)
def zn4:Lp (Unit) Unit (Bool):=lp0 ⟨[],[],[],[]⟩ (λ _=>[]) (λ _=>[]) (λ _=>zjI)
instance Ef35_c8:IsLp 0 0 (zjI) (zn4) ():=⟨rfl⟩
instance Cf35_c8:IsCut 0 (zjI) (zn4) 8:=⟨⟩
def zvx (r4:Int->Option (Bool))(a0:List Int)(a1:List Int)(k0:Option (Bool))(i5:Int):Option (Bool) :=
 bif decide (i5<(List.length a0:Int)) then ((ix a0 i5).bind λ x1 =>
 (ix a1 i5).bind λ x2 =>
 bif decide (¬ x1=x2) then (some (false))
 else (r4 (W (i5+(1:Int)))))
 else k0
def zr9 (a0:List Int)(a1:List Int)(k0:Option (Bool)):Nat->Int->Option (Bool)
 | 0,_=>none
 | n+1,i5=>zvx (zr9 a0 a1 k0 n) a0 a1 k0 i5
def zvy (a0:List Int)(a1:List Int)(k0:Option (Bool)):Lp (Nat×Int) Unit (Bool):=lp0 ⟨[0,1,5],[],[],[]⟩ (λ (_,i5)=>[.dat (za3 a0), .dat (za3 a1), .dat (iN i5)]) (λ (_,_)=>[]) (λ (n,i5)=>zr9 a0 a1 k0 n i5)
instance Ef35_4 {a0 a1 k0 n i5}:IsLp 0 1 (zr9 a0 a1 k0 n i5) (zvy a0 a1 k0) (n,i5):=⟨rfl⟩
def f35 (N:Nat)(a0:List Int)(a1:List Int):Option (Bool) :=
 bif decide (¬ (List.length a0:Int)=(List.length a1:Int)) then (some (false))
 else (zap zjI λ k0 =>
 zr9 a0 a1 k0 N (0:Int))
def G35 (ds:List D)(d:D):Prop:=∃ (N:Nat) (a0:List Int) (a1:List Int) (r:Bool),ds=[za3 a0,za3 a1]/\f35 N a0 a1=some r/\d=bN r
theorem G35.lend {a0 a1}{A:_->Option ρ}{K:D->Prop}(hd:ds=[za3 a0,za3 a1])(h:∀ r,A r=some q->K (bN r))(hF:(f35 N a0 a1).bind A=some q):∃ d,(G35 ds d/\d.flatB=true)/\K d:=by
 obtain⟨r,hr,hA⟩:=bind_some hF;exact⟨_,⟨⟨N,a0,a1,r,hd,hr,rfl⟩,rfl⟩,h r hA⟩
def f44 (N:Nat):Option (LB) :=
 some ([(strC [115,116,111,110,101,32,97,32,50]),(strC [115,116,111,110,101,32,98,32,57]),(strC [101,100,105,116,105,111,110,32,109,97,112]),(strC [112,97,112,101,114,32,109,97,112,32,49,48,48]),(strC [100,114,97,119,32,97,32,109,97,112]),(strC [100,114,97,119,32,98,32,109,97,112]),(strC [112,114,105,110,116,32,97,32,56,48,32,53]),(strC [112,114,105,110,116,32,98,32,53,48,32,50]),(strC [99,108,97,105,109,32,97,110,110,32,109,97,112,32,54,48]),(strC [99,108,111,115,101,32,109,97,112])])
def G44 (ds:List D)(d:D):Prop:=∃ (N:Nat) (r:LB),ds=[]/\f44 N  = some r/\d=zau r
theorem G44.step {A:_->Option ρ}{K:D->Prop}(hd:ds=[])(h:∀ r,A r=some q->K (zau r))(hF:(f44 N ).bind A=some q):∃ d,G44 ds d/\K d:=by
 obtain⟨r,hr,hA⟩:=bind_some hF;exact⟨_,⟨N,r,hd,hr,rfl⟩,h r hA⟩
def ziC:Option (Bool) :=
 some (true)
def zn5:Lp (Unit) Unit (Bool):=lp0 ⟨[],[],[],[]⟩ (λ _=>[]) (λ _=>[]) (λ _=>ziC)
instance Ef20_c8:IsLp 0 0 (ziC) (zn5) ():=⟨rfl⟩
instance Cf20_c8:IsCut 0 (ziC) (zn5) 8:=⟨⟩
def zo8 (r4:Int->Option (Bool))(a0:LB)(a1:LB)(k0:Option (Bool))(i5:Int):Option (Bool) :=
 bif decide (i5<(List.length a0:Int)) then ((ix a0 i5).bind λ x1 =>
 (ix a1 i5).bind λ x2 =>
 bif decide (¬ x1=x2) then (some (false))
 else (r4 (W (i5+(1:Int)))))
 else k0
def zmO (a0:LB)(a1:LB)(k0:Option (Bool)):Nat->Int->Option (Bool)
 | 0,_=>none
 | n+1,i5=>zo8 (zmO a0 a1 k0 n) a0 a1 k0 i5
def zvz (a0:LB)(a1:LB)(k0:Option (Bool)):Lp (Nat×Int) Unit (Bool):=lp0 ⟨[0,1,5],[],[],[]⟩ (λ (_,i5)=>[.dat (zau a0), .dat (zau a1), .dat (iN i5)]) (λ (_,_)=>[]) (λ (n,i5)=>zmO a0 a1 k0 n i5)
instance Ef20_4 {a0 a1 k0 n i5}:IsLp 0 1 (zmO a0 a1 k0 n i5) (zvz a0 a1 k0) (n,i5):=⟨rfl⟩
def f20 (N:Nat)(a0:LB)(a1:LB):Option (Bool) :=
 bif decide (¬ (List.length a0:Int)=(List.length a1:Int)) then (some (false))
 else (zap ziC λ k0 =>
 zmO a0 a1 k0 N (0:Int))
def G20 (ds:List D)(d:D):Prop:=∃ (N:Nat) (a0:LB) (a1:LB) (r:Bool),ds=[zau a0,zau a1]/\f20 N a0 a1=some r/\d=bN r
theorem G20.lend {a0 a1}{A:_->Option ρ}{K:D->Prop}(hd:ds=[zau a0,zau a1])(h:∀ r,A r=some q->K (bN r))(hF:(f20 N a0 a1).bind A=some q):∃ d,(G20 ds d/\d.flatB=true)/\K d:=by
 obtain⟨r,hr,hA⟩:=bind_some hF;exact⟨_,⟨⟨N,a0,a1,r,hd,hr,rfl⟩,rfl⟩,h r hA⟩
def f21b (self:LB->LS->LE->LC->Option (LB))(N:Nat)(s0:LB)(s1:LS)(s2:LE)(s3:LC):Option (LB) :=
 demB s0 (some ([]))
 ((app 16 [] s0).bind λ x1 =>
 some (x1))
def f21:Nat->LB->LS->LE->LC->Option (LB)
 | 0,_,_,_,_=>none
 | N+1,s0,s1,s2,s3=>f21b (f21 N) N s0 s1 s2 s3
def Af21 (s0:LB)(s1:LS)(s2:LE)(s3:LC):List SV:=[.ptr 0 0]
def Bf21 (s0:LB)(s1:LS)(s2:LE)(s3:LC):List Blk:=[.box [.ptr 1 0, .rs 2 (List.length s0)], .box [.mp 3, .mp 4, .mp 5],(rW s0),(sW [4] s1),(eW s2),(mW s3)]
def Rf21 (y:LB):List SV:=[.rs 500 (List.length y)]
def B1f21 (s0:LB)(s1:LS)(s2:LE)(s3:LC)(y:LB):List Blk:=[.box [.ptr 1 0, .rs 2 (List.length s0)], .box [.mp 3, .mp 4, .mp 5],(rW s0),(sW [4] s1),(eW s2),(mW s3)]
def BZf21 (y:LB):List Blk:=[(rW y)]
def zsa:Spec (LB×LS×LE×LC) (LB):=⟨6,[500],λ x=>Af21 x.1 x.2.1 x.2.2.1 x.2.2.2,λ x=>Bf21 x.1 x.2.1 x.2.2.1 x.2.2.2,λ _ y=>Rf21 y,λ x y=>B1f21 x.1 x.2.1 x.2.2.1 x.2.2.2 y,λ _ y=>BZf21 y⟩
def H21 (N:Nat)(x:LB×LS×LE×LC)(y:LB):Prop:=f21 N x.1 x.2.1 x.2.2.1 x.2.2.2=some y
def G21 (x:LB×LS×LE×LC)(y:LB):Prop:=∃ N,H21 N x y
theorem G21.step {s0 s1 s2 s3}{A:_->Option ρ}(ha:xs=[.ptr k0 0])(b0:m k0 = .box [.ptr k1 0, .rs k2 m0])(b1:m k1 = .box [.mp k3, .mp k4, .mp k5])(b2:m k2=(rW s0))(b3:m k3=(sW [k4] s1))(b4:m k4=(eW s2))(b5:m k5=(mW s3))(em0:m0=List.length s0)(hu:(zc2 id 1).map m=List.replicate 1 .unborn)(hn:za0 [k0,k1,k2,k3,k4,k5]=true)(h:∀ y,A y=some q->K ⟨.rs (id+BIG*0) (List.length y),[(k0, .box [.ptr k1 0, .rs k2 (List.length s0)]),(k1, .box [.mp k3, .mp k4, .mp k5]),(k2,(rW s0)),(k3,(sW [k4] s1)),(k4,(eW s2)),(k5,(mW s3)),(id,(rW y))]⟩ ([Loc.b k0,Loc.b k1,Loc.b k2,Loc.b k3,Loc.b k4,Loc.b k5,Loc.b id]++l))(hF:(f21 N s0 s1 s2 s3).bind A=some q):effPg zsa (G21) xs id (λ _=>SV.no) m l K:=by
 subst em0;obtain⟨y,hy,hA⟩:=bind_some hF;exact zaO [k0,k1,k2,k3,k4,k5] (s0,s1,s2,s3) y _ ⟨N,hy⟩ rfl hn ha (by simp only[List.map_cons,List.map_nil,b0,b1,b2,b3,b4,b5];rfl) hu rfl rfl (h y hA)
def Srf21:Ann:=⟨[0],[0,1,2,3,4,5,500],[(.slot 0,500,9,1)],[]⟩
def zy0:Ann:=⟨[0],[0,1,2,3,4,5],[],[]⟩
def f55 (N:Nat)(a0:BookM):Option (Bool) :=
 some (!a0.made)
def G55 (ds:List D)(d:D):Prop:=∃ (N:Nat) (a0:BookM) (r:Bool),ds=[BookM.pt a0]/\f55 N a0=some r/\d=bN r
theorem G55.lend {a0}{A:_->Option ρ}{K:D->Prop}(hd:ds=[BookM.pt a0])(h:∀ r,A r=some q->K (bN r))(hF:(f55 N a0).bind A=some q):∃ d,(G55 ds d/\d.flatB=true)/\K d:=by
 obtain⟨r,hr,hA⟩:=bind_some hF;exact⟨_,⟨⟨N,a0,r,hd,hr,rfl⟩,rfl⟩,h r hA⟩
def ziD (s3:Int):Option (Int) :=
 some (s3)
def zn6:Lp (Int) Unit (Int):=lp0 ⟨[3],[],[],[]⟩ (λ s3=>[.dat (iN s3)]) (λ _=>[]) (λ s3=>ziD s3)
instance Ef86_c6 {s3}:IsLp 0 1 (ziD s3) (zn6) s3:=⟨rfl⟩
instance Cf86_c6:IsCut 1 (ziD) (zn6) 6:=⟨⟩
def zo9 (r3:Int->Int->Option (Int))(a0:ByteArray)(k0:Int->Option (Int))(s3:Int)(i4:Int):Option (Int) :=
 bif decide (i4<(ByteArray.size a0:Int)) then ((idxS a0 i4).bind λ x1 =>
 r3 (Int.tmod (W ((W ((3:Int)*s3))+(Wk .u8 (x1-(48:Int))))) (10:Int)) (W (i4+(1:Int))))
 else (k0 s3)
def zmP (a0:ByteArray)(k0:Int->Option (Int)):Nat->Int->Int->Option (Int)
 | 0,_,_=>none
 | n+1,s3,i4=>zo9 (zmP a0 k0 n) a0 k0 s3 i4
def zvA (a0:ByteArray)(k0:Int->Option (Int)):Lp (Nat×Int×Int) Unit (Int):=lp0 ⟨[0,3,4],[],[],[]⟩ (λ (_,s3,i4)=>[.dat (strN a0), .dat (iN s3), .dat (iN i4)]) (λ (_,_,_)=>[]) (λ (n,s3,i4)=>zmP a0 k0 n s3 i4)
instance Ef86_3 {a0 k0 n s3 i4}:IsLp 0 2 (zmP a0 k0 n s3 i4) (zvA a0 k0) (n,s3,i4):=⟨rfl⟩
def f86 (N:Nat)(a0:ByteArray):Option (Int) :=
 zap ziD λ k0 =>
 zmP a0 k0 N (0:Int) (0:Int)
def G86 (ds:List D)(d:D):Prop:=∃ (N:Nat) (a0:ByteArray) (r:Int),ds=[strN a0]/\f86 N a0=some r/\d=iN r
theorem G86.lend {a0}{A:_->Option ρ}{K:D->Prop}(hd:ds=[strN a0])(h:∀ r,A r=some q->K (iN r))(hF:(f86 N a0).bind A=some q):∃ d,(G86 ds d/\d.flatB=true)/\K d:=by
 obtain⟨r,hr,hA⟩:=bind_some hF;exact⟨_,⟨⟨N,a0,r,hd,hr,rfl⟩,rfl⟩,h r hA⟩
def f96 (N:Nat)(a0:Int)(a1:Int)(a2:Int):Option (Bool) :=
 bif decide (a1<=a0) then (some (decide (a0<=a2)))
 else (some (false))
def G96 (ds:List D)(d:D):Prop:=∃ (N:Nat) (a0:Int) (a1:Int) (a2:Int) (r:Bool),ds=[iN a0,iN a1,iN a2]/\f96 N a0 a1 a2=some r/\d=bN r
theorem G96.lend {a0 a1 a2}{A:_->Option ρ}{K:D->Prop}(hd:ds=[iN a0,iN a1,iN a2])(h:∀ r,A r=some q->K (bN r))(hF:(f96 N a0 a1 a2).bind A=some q):∃ d,(G96 ds d/\d.flatB=true)/\K d:=by
 obtain⟨r,hr,hA⟩:=bind_some hF;exact⟨_,⟨⟨N,a0,a1,a2,r,hd,hr,rfl⟩,rfl⟩,h r hA⟩
def f124 (N:Nat)(a0:Int)(a1:Int)(a2:Int):Option (Bool) :=
 bif decide (a1<=a0) then (some (decide (a0<=a2)))
 else (some (false))
def G124 (ds:List D)(d:D):Prop:=∃ (N:Nat) (a0:Int) (a1:Int) (a2:Int) (r:Bool),ds=[iN a0,iN a1,iN a2]/\f124 N a0 a1 a2=some r/\d=bN r
theorem G124.lend {a0 a1 a2}{A:_->Option ρ}{K:D->Prop}(hd:ds=[iN a0,iN a1,iN a2])(h:∀ r,A r=some q->K (bN r))(hF:(f124 N a0 a1 a2).bind A=some q):∃ d,(G124 ds d/\d.flatB=true)/\K d:=by
 obtain⟨r,hr,hA⟩:=bind_some hF;exact⟨_,⟨⟨N,a0,a1,a2,r,hd,hr,rfl⟩,rfl⟩,h r hA⟩
def zfq (out4:LB):Option (LB×Bool) :=
 some (out4,true)
def ziE:Lp (LB) (Nat×Unit) (LB×Bool):=lpm ⟨[4],[90004],[(.slot 4,90004,9,1)],[]⟩ (λ out4=>zfq out4) (λ _ (m0,_)=>[.rs 90004 m0]) (λ out4 (_,_)=>[(rW out4)]) λ out4=>(List.length out4,())
instance zy1 {out4}:IsLp 1 1 (zfq out4) (ziE) out4:=⟨rfl⟩
instance zy2:IsCut 1 (zfq) (ziE) 13:=⟨⟩
def zeU (a0:ByteArray)(out4:LB)(from5:Int)(i6:Int)(r4:LB->Int->Int->Option (LB×Bool)):Option (LB×Bool) :=
 bif decide (i6=from5) then (some ([],false))
 else ((subS a0 from5 i6).bind λ x1 =>
 (app 16 out4 [x1]).bind λ x2 =>
 r4 x2 (W (i6+(1:Int))) (W (i6+(1:Int))))
def zkG (a0:ByteArray)(out4:LB)(from5:Int)(i6:Int)(r4:LB->Int->Int->Option (LB×Bool)):Lp (Unit) (Nat×Unit) (LB×Bool):=lpm ⟨[0,4,5,6],[90004],[],[]⟩ (λ _=>zeU a0 out4 from5 i6 r4) (λ _ (m0,_)=>[.dat (strN a0), .rs 90004 m0, .dat (iN from5), .dat (iN i6)]) (λ _ (_,_)=>[(rW out4)]) λ _=>(List.length out4,())
instance Ef109_c9 {a0 out4 from5 i6 r4}:IsLp 1 0 (zeU a0 out4 from5 i6 r4) (zkG a0 out4 from5 i6 r4) ():=⟨rfl⟩
instance Cf109_c9 {a0 out4 from5 i6 r4}:IsCut 0 (zeU a0 out4 from5 i6 r4) (zkG a0 out4 from5 i6 r4) 9:=⟨⟩
def zkH (r4:LB->Int->Int->Option (LB×Bool))(a0:ByteArray)(k0:LB->Option (LB×Bool))(out4:LB)(from5:Int)(i6:Int):Option (LB×Bool) :=
 bif decide (i6<=(ByteArray.size a0:Int)) then (zap (zeU a0 out4 from5 i6 r4) λ k1 =>
 bif decide (i6<(ByteArray.size a0:Int)) then ((idxS a0 i6).bind λ x3 =>
 bif decide (¬ x3=(32:Int)) then ((idxS a0 i6).bind λ x4 =>
 bif decide (x4<(33:Int)) then (some ([],false))
 else ((idxS a0 i6).bind λ x5 =>
 bif decide ((126:Int)<x5) then (some ([],false))
 else (r4 out4 from5 (W (i6+(1:Int))))))
 else k1)
 else k1)
 else (k0 out4)
def zho (a0:ByteArray)(k0:LB->Option (LB×Bool)):Nat->LB->Int->Int->Option (LB×Bool)
 | 0,_,_,_=>none
 | n+1,out4,from5,i6=>zkH (zho a0 k0 n) a0 k0 out4 from5 i6
def zsb (a0:ByteArray)(k0:LB->Option (LB×Bool)):Lp (Nat×LB×Int×Int) (Nat×Unit) (LB×Bool):=lpm ⟨[0,4,5,6],[90004],[(.slot 4,90004,9,1)],[]⟩ (λ (n,out4,from5,i6)=>zho a0 k0 n out4 from5 i6) (λ (_,_,from5,i6) (m0,_)=>[.dat (strN a0), .rs 90004 m0, .dat (iN from5), .dat (iN i6)]) (λ (_,out4,_,_) (_,_)=>[(rW out4)]) λ (_,out4,_,_)=>(List.length out4,())
instance Ef109_4 {a0 k0 n out4 from5 i6}:IsLp 1 3 (zho a0 k0 n out4 from5 i6) (zsb a0 k0) (n,out4,from5,i6):=⟨rfl⟩
def f109 (N:Nat)(a0:ByteArray):Option (LB×Bool) :=
 zap zfq λ k0 =>
 zho a0 k0 N [] (0:Int) (0:Int)
def G109 (ds:List D)(d:D):Prop:=∃ (N:Nat) (a0:ByteArray) (r:LB×Bool),ds=[strN a0]/\f109 N a0=some r/\d = .tup [zau r.1,bN r.2]
theorem G109.step {a0}{A:_->Option ρ}{K:D->Prop}(hd:ds=[strN a0])(h:∀ r,A r=some q->K (.tup [zau r.1,bN r.2]))(hF:(f109 N a0).bind A=some q):∃ d,G109 ds d/\K d:=by
 obtain⟨r,hr,hA⟩:=bind_some hF;exact⟨_,⟨N,a0,r,hd,hr,rfl⟩,h r hA⟩
def f110 (N:Nat)(a0:ByteArray):Option (Int×Int×Bool) :=
 bif decide (a0=(strC [101,100,105,116,105,111,110])) then (some ((1:Int),(0:Int),true))
 else (bif decide (a0=(strC [99,108,111,115,101])) then (some ((1:Int),(0:Int),true))
 else (bif decide (a0=(strC [103,114,105,110,100])) then (some ((1:Int),(0:Int),true))
 else (bif decide (a0=(strC [115,116,111,110,101])) then (some ((1:Int),(1:Int),true))
 else (bif decide (a0=(strC [112,97,112,101,114])) then (some ((1:Int),(1:Int),true))
 else (bif decide (a0=(strC [112,114,105,110,116])) then (some ((1:Int),(2:Int),true))
 else (bif decide (a0=(strC [100,114,97,119])) then (some ((2:Int),(0:Int),true))
 else (bif decide (a0=(strC [99,108,97,105,109])) then (some ((2:Int),(1:Int),true))
 else (bif decide (a0=(strC [100,101,108,105,118,101,114])) then (some ((2:Int),(1:Int),true))
 else (some ((0:Int),(0:Int),false))))))))))
def G110 (ds:List D)(d:D):Prop:=∃ (N:Nat) (a0:ByteArray) (r:Int×Int×Bool),ds=[strN a0]/\f110 N a0=some r/\d = .tup [iN r.1,iN r.2.1,bN r.2.2]
theorem G110.lend {a0}{A:_->Option ρ}{K:D->Prop}(hd:ds=[strN a0])(h:∀ r,A r=some q->K (.tup [iN r.1,iN r.2.1,bN r.2.2]))(hF:(f110 N a0).bind A=some q):∃ d,(G110 ds d/\d.flatB=true)/\K d:=by
 obtain⟨r,hr,hA⟩:=bind_some hF;exact⟨_,⟨⟨N,a0,r,hd,hr,rfl⟩,rfl⟩,h r hA⟩
def ziF:Option (Int) :=
 some ((-1:Int))
def zn7:Lp (Unit) Unit (Int):=lp0 ⟨[],[],[],[]⟩ (λ _=>[]) (λ _=>[]) (λ _=>ziF)
instance Ef91_c6:IsLp 0 0 (ziF) (zn7) ():=⟨rfl⟩
instance Cf91_c6:IsCut 0 (ziF) (zn7) 6:=⟨⟩
def zvB (r2:Int->Option (Int))(a0:StateS)(a1:ByteArray)(k0:Option (Int))(i5:Int):Option (Int) :=
 bif decide (i5<(List.length a0.stones:Int)) then ((ix a0.stones i5).bind λ x1 =>
 bif decide (x1.name=a1) then (some (i5))
 else (r2 (W (i5+(1:Int)))))
 else k0
def zqh (a0:StateS)(a1:ByteArray)(k0:Option (Int)):Nat->Int->Option (Int)
 | 0,_=>none
 | n+1,i5=>zvB (zqh a0 a1 k0 n) a0 a1 k0 i5
def zvC (a0:StateS)(a1:ByteArray)(k0:Option (Int)):Lp (Nat×Int) Unit (Int):=lp0 ⟨[1,2,5],[0],[],[]⟩ (λ (_,i5)=>[.dat (strN a1), .ptr 0 0, .dat (iN i5)]) (λ (_,_)=>[.box [.dat (zb2 a0.stones), .dat (zbg a0.editions), .dat (zbA a0.claims)]]) (λ (n,i5)=>zqh a0 a1 k0 n i5)
instance Ef91_2 {a0 a1 k0 n i5}:IsLp 0 1 (zqh a0 a1 k0 n i5) (zvC a0 a1 k0) (n,i5):=⟨rfl⟩
def f91 (N:Nat)(a0:StateS)(a1:ByteArray):Option (Int) :=
 zap ziF λ k0 =>
 zqh a0 a1 k0 N (0:Int)
def G91 (ds:List D)(d:D):Prop:=∃ (N:Nat) (a0:StateS) (a1:ByteArray) (r:Int),ds=[StateS.d a0,strN a1]/\f91 N a0 a1=some r/\d=iN r
theorem G91.lend {a0 a1}{A:_->Option ρ}{K:D->Prop}(hd:ds=[StateS.d a0,strN a1])(h:∀ r,A r=some q->K (iN r))(hF:(f91 N a0 a1).bind A=some q):∃ d,(G91 ds d/\d.flatB=true)/\K d:=by
 obtain⟨r,hr,hA⟩:=bind_some hF;exact⟨_,⟨⟨N,a0,a1,r,hd,hr,rfl⟩,rfl⟩,h r hA⟩
def ziG:Option (Int) :=
 some ((-1:Int))
def zn8:Lp (Unit) Unit (Int):=lp0 ⟨[],[],[],[]⟩ (λ _=>[]) (λ _=>[]) (λ _=>ziG)
instance Ef95_c6:IsLp 0 0 (ziG) (zn8) ():=⟨rfl⟩
instance Cf95_c6:IsCut 0 (ziG) (zn8) 6:=⟨⟩
def zp (r2:Int->Option (Int))(a0:StateS)(a1:ByteArray)(a2:ByteArray)(k0:Option (Int))(i7:Int):Option (Int) :=
 bif decide (i7<(List.length a0.claims:Int)) then ((ix a0.claims i7).bind λ x1 =>
 bif decide (x1.customer=a1) then ((ix a0.claims i7).bind λ x2 =>
 bif decide (x2.edition=a2) then (some (i7))
 else (r2 (W (i7+(1:Int)))))
 else (r2 (W (i7+(1:Int)))))
 else k0
def zmQ (a0:StateS)(a1:ByteArray)(a2:ByteArray)(k0:Option (Int)):Nat->Int->Option (Int)
 | 0,_=>none
 | n+1,i7=>zp (zmQ a0 a1 a2 k0 n) a0 a1 a2 k0 i7
def zvD (a0:StateS)(a1:ByteArray)(a2:ByteArray)(k0:Option (Int)):Lp (Nat×Int) Unit (Int):=lp0 ⟨[1,2,3,7],[0],[],[]⟩ (λ (_,i7)=>[.dat (strN a1), .dat (strN a2), .ptr 0 0, .dat (iN i7)]) (λ (_,_)=>[.box [.dat (zb2 a0.stones), .dat (zbg a0.editions), .dat (zbA a0.claims)]]) (λ (n,i7)=>zmQ a0 a1 a2 k0 n i7)
instance Ef95_2 {a0 a1 a2 k0 n i7}:IsLp 0 1 (zmQ a0 a1 a2 k0 n i7) (zvD a0 a1 a2 k0) (n,i7):=⟨rfl⟩
def f95 (N:Nat)(a0:StateS)(a1:ByteArray)(a2:ByteArray):Option (Int) :=
 zap ziG λ k0 =>
 zmQ a0 a1 a2 k0 N (0:Int)
def G95 (ds:List D)(d:D):Prop:=∃ (N:Nat) (a0:StateS) (a1:ByteArray) (a2:ByteArray) (r:Int),ds=[StateS.d a0,strN a1,strN a2]/\f95 N a0 a1 a2=some r/\d=iN r
theorem G95.lend {a0 a1 a2}{A:_->Option ρ}{K:D->Prop}(hd:ds=[StateS.d a0,strN a1,strN a2])(h:∀ r,A r=some q->K (iN r))(hF:(f95 N a0 a1 a2).bind A=some q):∃ d,(G95 ds d/\d.flatB=true)/\K d:=by
 obtain⟨r,hr,hA⟩:=bind_some hF;exact⟨_,⟨⟨N,a0,a1,a2,r,hd,hr,rfl⟩,rfl⟩,h r hA⟩
def zf1:Option (Int) :=
 some ((-1:Int))
def zkI:Lp (Unit) Unit (Int):=lp0 ⟨[],[],[],[]⟩ (λ _=>[]) (λ _=>[]) (λ _=>zf1)
instance Ef112_c6:IsLp 0 0 (zf1) (zkI) ():=⟨rfl⟩
instance Cf112_c6:IsCut 0 (zf1) (zkI) 6:=⟨⟩
def zsc (r2:Int->Option (Int))(a0:StateS)(a1:ByteArray)(k0:Option (Int))(i5:Int):Option (Int) :=
 bif decide (i5<(List.length a0.editions:Int)) then ((ix a0.editions i5).bind λ x1 =>
 bif decide (x1.name=a1) then (some (i5))
 else (r2 (W (i5+(1:Int)))))
 else k0
def zjJ (a0:StateS)(a1:ByteArray)(k0:Option (Int)):Nat->Int->Option (Int)
 | 0,_=>none
 | n+1,i5=>zsc (zjJ a0 a1 k0 n) a0 a1 k0 i5
def zsd (a0:StateS)(a1:ByteArray)(k0:Option (Int)):Lp (Nat×Int) Unit (Int):=lp0 ⟨[1,2,5],[0],[],[]⟩ (λ (_,i5)=>[.dat (strN a1), .ptr 0 0, .dat (iN i5)]) (λ (_,_)=>[.box [.dat (zb2 a0.stones), .dat (zbg a0.editions), .dat (zbA a0.claims)]]) (λ (n,i5)=>zjJ a0 a1 k0 n i5)
instance Ef112_2 {a0 a1 k0 n i5}:IsLp 0 1 (zjJ a0 a1 k0 n i5) (zsd a0 a1 k0) (n,i5):=⟨rfl⟩
def f112 (N:Nat)(a0:StateS)(a1:ByteArray):Option (Int) :=
 zap zf1 λ k0 =>
 zjJ a0 a1 k0 N (0:Int)
def G112 (ds:List D)(d:D):Prop:=∃ (N:Nat) (a0:StateS) (a1:ByteArray) (r:Int),ds=[StateS.d a0,strN a1]/\f112 N a0 a1=some r/\d=iN r
theorem G112.lend {a0 a1}{A:_->Option ρ}{K:D->Prop}(hd:ds=[StateS.d a0,strN a1])(h:∀ r,A r=some q->K (iN r))(hF:(f112 N a0 a1).bind A=some q):∃ d,(G112 ds d/\d.flatB=true)/\K d:=by
 obtain⟨r,hr,hA⟩:=bind_some hF;exact⟨_,⟨⟨N,a0,a1,r,hd,hr,rfl⟩,rfl⟩,h r hA⟩
def zjK (n3:Int):Option (Int) :=
 some (n3)
def zn9:Lp (Int) Unit (Int):=lp0 ⟨[3],[],[],[]⟩ (λ n3=>[.dat (iN n3)]) (λ _=>[]) (λ n3=>zjK n3)
instance Ef93_c6 {n3}:IsLp 0 1 (zjK n3) (zn9) n3:=⟨rfl⟩
instance Cf93_c6:IsCut 1 (zjK) (zn9) 6:=⟨⟩
def zpa (r3:Int->Int->Option (Int))(a0:List Int)(k0:Int->Option (Int))(n3:Int)(i4:Int):Option (Int) :=
 bif decide (i4<(List.length a0:Int)) then ((ix a0 i4).bind λ x1 =>
 r3 (W (n3+x1)) (W (i4+(1:Int))))
 else (k0 n3)
def zmR (a0:List Int)(k0:Int->Option (Int)):Nat->Int->Int->Option (Int)
 | 0,_,_=>none
 | n+1,n3,i4=>zpa (zmR a0 k0 n) a0 k0 n3 i4
def zvE (a0:List Int)(k0:Int->Option (Int)):Lp (Nat×Int×Int) Unit (Int):=lp0 ⟨[0,3,4],[],[],[]⟩ (λ (_,n3,i4)=>[.dat (za3 a0), .dat (iN n3), .dat (iN i4)]) (λ (_,_,_)=>[]) (λ (n,n3,i4)=>zmR a0 k0 n n3 i4)
instance Ef93_3 {a0 k0 n n3 i4}:IsLp 0 2 (zmR a0 k0 n n3 i4) (zvE a0 k0) (n,n3,i4):=⟨rfl⟩
def f93 (N:Nat)(a0:List Int):Option (Int) :=
 zap zjK λ k0 =>
 zmR a0 k0 N (0:Int) (0:Int)
def G93 (ds:List D)(d:D):Prop:=∃ (N:Nat) (a0:List Int) (r:Int),ds=[za3 a0]/\f93 N a0=some r/\d=iN r
theorem G93.lend {a0}{A:_->Option ρ}{K:D->Prop}(hd:ds=[za3 a0])(h:∀ r,A r=some q->K (iN r))(hF:(f93 N a0).bind A=some q):∃ d,(G93 ds d/\d.flatB=true)/\K d:=by
 obtain⟨r,hr,hA⟩:=bind_some hF;exact⟨_,⟨⟨N,a0,r,hd,hr,rfl⟩,rfl⟩,h r hA⟩
def zg7 (n5:Int):Option (Int) :=
 some (n5)
def zkJ:Lp (Int) Unit (Int):=lp0 ⟨[5],[],[],[]⟩ (λ n5=>[.dat (iN n5)]) (λ _=>[]) (λ n5=>zg7 n5)
instance Ef126_c7 {n5}:IsLp 0 1 (zg7 n5) (zkJ) n5:=⟨rfl⟩
instance Cf126_c7:IsCut 1 (zg7) (zkJ) 7:=⟨⟩
def zkK (r3:Int->Int->Option (Int))(a0:StateS)(a1:ByteArray)(k0:Int->Option (Int))(n5:Int)(i6:Int):Option (Int) :=
 bif decide (i6<(List.length a0.claims:Int)) then ((ix a0.claims i6).bind λ x1 =>
 bif decide (x1.edition=a1) then ((ix a0.claims i6).bind λ x2 =>
 (ix a0.claims i6).bind λ x3 =>
 r3 (W (n5+(W (x2.claimed-x3.got)))) (W (i6+(1:Int))))
 else (r3 n5 (W (i6+(1:Int)))))
 else (k0 n5)
def zhp (a0:StateS)(a1:ByteArray)(k0:Int->Option (Int)):Nat->Int->Int->Option (Int)
 | 0,_,_=>none
 | n+1,n5,i6=>zkK (zhp a0 a1 k0 n) a0 a1 k0 n5 i6
def zse (a0:StateS)(a1:ByteArray)(k0:Int->Option (Int)):Lp (Nat×Int×Int) Unit (Int):=lp0 ⟨[1,2,5,6],[0],[],[]⟩ (λ (_,n5,i6)=>[.dat (strN a1), .ptr 0 0, .dat (iN n5), .dat (iN i6)]) (λ (_,_,_)=>[.box [.dat (zb2 a0.stones), .dat (zbg a0.editions), .dat (zbA a0.claims)]]) (λ (n,n5,i6)=>zhp a0 a1 k0 n n5 i6)
instance Ef126_3 {a0 a1 k0 n n5 i6}:IsLp 0 2 (zhp a0 a1 k0 n n5 i6) (zse a0 a1 k0) (n,n5,i6):=⟨rfl⟩
def f126 (N:Nat)(a0:StateS)(a1:ByteArray):Option (Int) :=
 zap zg7 λ k0 =>
 zhp a0 a1 k0 N (0:Int) (0:Int)
def G126 (ds:List D)(d:D):Prop:=∃ (N:Nat) (a0:StateS) (a1:ByteArray) (r:Int),ds=[StateS.d a0,strN a1]/\f126 N a0 a1=some r/\d=iN r
theorem G126.lend {a0 a1}{A:_->Option ρ}{K:D->Prop}(hd:ds=[StateS.d a0,strN a1])(h:∀ r,A r=some q->K (iN r))(hF:(f126 N a0 a1).bind A=some q):∃ d,(G126 ds d/\d.flatB=true)/\K d:=by
 obtain⟨r,hr,hA⟩:=bind_some hF;exact⟨_,⟨⟨N,a0,a1,r,hd,hr,rfl⟩,rfl⟩,h r hA⟩
def zdB (n6:Int)(known7:Bool):Option (Int×Bool) :=
 some (n6,known7)
def ziH:Lp (Int×Bool) Unit (Int×Bool):=lp0 ⟨[6,7],[],[],[]⟩ (λ (n6,known7)=>[.dat (iN n6), .kb known7]) (λ (_,_)=>[]) (λ (n6,known7)=>zdB n6 known7)
instance zy3 {n6 known7}:IsLp 0 2 (zdB n6 known7) (ziH) (n6,known7):=⟨rfl⟩
instance zy4:IsCut 2 (zdB) (ziH) 13:=⟨⟩
def zf2 (a0:StateS)(a1:ByteArray)(i8':Int)(r3:Int->Bool->Int->Option (Int×Bool))(n6':Int)(known7':Bool):Option (Int×Bool) :=
 r3 (n6') (known7') (W ((i8')+(1:Int)))
def zkL (a0:StateS)(a1:ByteArray)(i8':Int)(r3:Int->Bool->Int->Option (Int×Bool)):Lp (Int×Bool) Unit (Int×Bool):=lp0 ⟨[1,2,6,7,8],[0],[],[]⟩ (λ (n6',known7')=>[.dat (strN a1), .ptr 0 0, .dat (iN (n6')), .kb (known7'), .dat (iN (i8'))]) (λ (_,_)=>[.box [.dat (zb2 a0.stones), .dat (zbg a0.editions), .dat (zbA a0.claims)]]) (λ (n6',known7')=>zf2 a0 a1 i8' r3 n6' known7')
instance Ef139_c4 {a0 a1 i8' r3 n6' known7'}:IsLp 0 2 (zf2 a0 a1 i8' r3 n6' known7') (zkL a0 a1 i8' r3) (n6',known7'):=⟨rfl⟩
instance Cf139_c4 {a0 a1 i8' r3}:IsCut 2 (zf2 a0 a1 i8' r3) (zkL a0 a1 i8' r3) 4:=⟨⟩
def zfr (a0:StateS)(a1:ByteArray)(n6:Int)(i8':Int)(k1:Int->Bool->Option (Int×Bool))(known7':Bool)(first9:Bool):Option (Int×Bool) :=
 bif first9 then (k1 (W (n6+(1:Int))) (known7'))
 else (k1 n6 (known7'))
def ziI (a0:StateS)(a1:ByteArray)(n6:Int)(i8':Int)(k1:Int->Bool->Option (Int×Bool))(known7':Bool):Lp (Bool) Unit (Int×Bool):=lp0 ⟨[1,2,6,7,8,9],[0],[],[]⟩ (λ first9=>[.dat (strN a1), .ptr 0 0, .dat (iN n6), .kb (known7'), .dat (iN (i8')), .kb first9]) (λ _=>[.box [.dat (zb2 a0.stones), .dat (zbg a0.editions), .dat (zbA a0.claims)]]) (λ first9=>zfr a0 a1 n6 i8' k1 known7' first9)
instance zy5 {a0 a1 n6 i8' k1 known7' first9}:IsLp 0 1 (zfr a0 a1 n6 i8' k1 known7' first9) (ziI a0 a1 n6 i8' k1 known7') first9:=⟨rfl⟩
instance zy6 {a0 a1 n6 i8' k1 known7'}:IsCut 1 (zfr a0 a1 n6 i8' k1 known7') (ziI a0 a1 n6 i8' k1 known7') 11:=⟨⟩
def zkM (r8:Bool->Int->Option (Int×Bool))(a0:StateS)(a1:ByteArray)(n6:Int)(i8':Int)(known7':Bool)(k2:Bool->Option (Int×Bool))(first9:Bool)(k10:Int):Option (Int×Bool) :=
 bif decide (k10<(i8')) then (bif first9 then ((ix a0.claims k10).bind λ x1 =>
 (ix a0.claims (i8')).bind λ x2 =>
 r8 (decide (¬ x1.customer=x2.customer)) (W (k10+(1:Int))))
 else (r8 false (W (k10+(1:Int)))))
 else (k2 first9)
def zhq (a0:StateS)(a1:ByteArray)(n6:Int)(i8':Int)(known7':Bool)(k2:Bool->Option (Int×Bool)):Nat->Bool->Int->Option (Int×Bool)
 | 0,_,_=>none
 | n+1,first9,k10=>zkM (zhq a0 a1 n6 i8' known7' k2 n) a0 a1 n6 i8' known7' k2 first9 k10
def zsf (a0:StateS)(a1:ByteArray)(n6:Int)(i8':Int)(known7':Bool)(k2:Bool->Option (Int×Bool)):Lp (Nat×Bool×Int) Unit (Int×Bool):=lp0 ⟨[1,2,6,7,8,9,10],[0],[],[]⟩ (λ (_,first9,k10)=>[.dat (strN a1), .ptr 0 0, .dat (iN n6), .kb (known7'), .dat (iN (i8')), .kb first9, .dat (iN k10)]) (λ (_,_,_)=>[.box [.dat (zb2 a0.stones), .dat (zbg a0.editions), .dat (zbA a0.claims)]]) (λ (n,first9,k10)=>zhq a0 a1 n6 i8' known7' k2 n first9 k10)
instance Ef139_8 {a0 a1 n6 i8' known7' k2 n first9 k10}:IsLp 0 2 (zhq a0 a1 n6 i8' known7' k2 n first9 k10) (zsf a0 a1 n6 i8' known7' k2) (n,first9,k10):=⟨rfl⟩
def zf3 (a0:StateS)(a1:ByteArray)(N:Nat)(n6:Int)(i8':Int)(k1:Int->Bool->Option (Int×Bool))(known7':Bool):Option (Int×Bool) :=
 zap (zfr a0 a1 n6 i8' k1 known7') λ k2 =>
 zhq a0 a1 n6 i8' known7' k2 N true (0:Int)
def zkN (a0:StateS)(a1:ByteArray)(N:Nat)(n6:Int)(i8':Int)(k1:Int->Bool->Option (Int×Bool)):Lp (Bool) Unit (Int×Bool):=lp0 ⟨[1,2,6,7,8],[0],[],[]⟩ (λ known7' => [.dat (strN a1), .ptr 0 0, .dat (iN n6), .kb (known7'), .dat (iN (i8'))]) (λ _=>[.box [.dat (zb2 a0.stones), .dat (zbg a0.editions), .dat (zbA a0.claims)]]) (λ known7' => zf3 a0 a1 N n6 i8' k1 known7')
instance Ef139_c6 {a0 a1 N n6 i8' k1 known7'}:IsLp 0 1 (zf3 a0 a1 N n6 i8' k1 known7') (zkN a0 a1 N n6 i8' k1) known7':=⟨rfl⟩
instance Cf139_c6 {a0 a1 N n6 i8' k1}:IsCut 1 (zf3 a0 a1 N n6 i8' k1) (zkN a0 a1 N n6 i8' k1) 6:=⟨⟩
def zkO (r3:Int->Bool->Int->Option (Int×Bool))(a0:StateS)(a1:ByteArray)(N:Nat)(k0:Int->Bool->Option (Int×Bool))(n6:Int)(known7:Bool)(i8':Int):Option (Int×Bool) :=
 bif decide ((i8')<(List.length a0.claims:Int)) then (zap (zf2 a0 a1 i8' r3) λ k1 =>
 zap (zf3 a0 a1 N n6 i8' k1) λ k3 =>
 bif known7 then (k3 true)
 else ((ix a0.claims (i8')).bind λ x3 =>
 k3 (decide (x3.customer=a1))))
 else (k0 n6 known7)
def zfE (a0:StateS)(a1:ByteArray)(N:Nat)(k0:Int->Bool->Option (Int×Bool)):Nat->Int->Bool->Int->Option (Int×Bool)
 | 0,_,_,_=>none
 | n+1,n6,known7,i8' => zkO (zfE a0 a1 N k0 n) a0 a1 N k0 n6 known7 i8'
def zsg (a0:StateS)(a1:ByteArray)(N:Nat)(k0:Int->Bool->Option (Int×Bool)):Lp (Nat×Int×Bool×Int) Unit (Int×Bool):=lp0 ⟨[1,2,6,7,8],[0],[],[]⟩ (λ (_,n6,known7,i8')=>[.dat (strN a1), .ptr 0 0, .dat (iN n6), .kb known7, .dat (iN (i8'))]) (λ (_,_,_,_)=>[.box [.dat (zb2 a0.stones), .dat (zbg a0.editions), .dat (zbA a0.claims)]]) (λ (n,n6,known7,i8')=>zfE a0 a1 N k0 n n6 known7 i8')
instance Ef139_3 {a0 a1 N k0 n n6 known7 i8'}:IsLp 0 3 (zfE a0 a1 N k0 n n6 known7 i8') (zsg a0 a1 N k0) (n,n6,known7,i8'):=⟨rfl⟩
def f139 (N:Nat)(a0:StateS)(a1:ByteArray):Option (Int×Bool) :=
 zap zdB λ k0 =>
 zfE a0 a1 N k0 N (0:Int) false (0:Int)
def G139 (ds:List D)(d:D):Prop:=∃ (N:Nat) (a0:StateS) (a1:ByteArray) (r:Int×Bool),ds=[StateS.d a0,strN a1]/\f139 N a0 a1=some r/\d = .tup [iN r.1,bN r.2]
theorem G139.lend {a0 a1}{A:_->Option ρ}{K:D->Prop}(hd:ds=[StateS.d a0,strN a1])(h:∀ r,A r=some q->K (.tup [iN r.1,bN r.2]))(hF:(f139 N a0 a1).bind A=some q):∃ d,(G139 ds d/\d.flatB=true)/\K d:=by
 obtain⟨r,hr,hA⟩:=bind_some hF;exact⟨_,⟨⟨N,a0,a1,r,hd,hr,rfl⟩,rfl⟩,h r hA⟩
def f72 (N:Nat)(a0:ByteArray)(a1:ByteArray):Option (Bool) :=
 match N with|0=>none|_+1=>(some (Lib.hasSuffix a0.data.toList a1.data.toList))
def G72 (ds:List D)(d:D):Prop:=∃ (N:Nat) (a0:ByteArray) (a1:ByteArray) (r:Bool),ds=[strN a0,strN a1]/\f72 N a0 a1=some r/\d=bN r
theorem G72.lend {a0 a1}{A:_->Option ρ}{K:D->Prop}(hd:ds=[strN a0,strN a1])(h:∀ r,A r=some q->K (bN r))(hF:(f72 N a0 a1).bind A=some q):∃ d,(G72 ds d/\d.flatB=true)/\K d:=by
 obtain⟨r,hr,hA⟩:=bind_some hF;exact⟨_,⟨⟨N,a0,a1,r,hd,hr,rfl⟩,rfl⟩,h r hA⟩
theorem P72:PureOK Tryz.prog 72 G72:=zmm (λ a b=>.bool (Lib.hasSuffix a.data.toList b.data.toList)) (λ _ _=>True) (by
 rintro ds d ⟨N,a0,a1,r,rfl,hF,rfl⟩
 rcases N with _|N
 .cases hF
 cases hF
 exact⟨a0,a1,rfl,rfl,trivial⟩) λ a b w _ ha _ _=>⟨trivial,Go.Proofs.Tryz.strings_HasSuffix a b w (by simp only[maxLen] at ha;omega)⟩
def f74 (N:Nat)(a0:ByteArray)(a1:ByteArray):Option (ByteArray) :=
 match N with|0=>none|_+1=>((λ q:List UInt8=>if q.length<=1000000 then some ⟨q.toArray⟩ else none) (Lib.trimSuffix a0.data.toList a1.data.toList))
def G74 (ds:List D)(d:D):Prop:=∃ (N:Nat) (a0:ByteArray) (a1:ByteArray) (r:ByteArray),ds=[strN a0,strN a1]/\f74 N a0 a1=some r/\d=strN r
theorem G74.lend {a0 a1}{A:_->Option ρ}{K:D->Prop}(hd:ds=[strN a0,strN a1])(h:∀ r,A r=some q->K (strN r))(hF:(f74 N a0 a1).bind A=some q):∃ d,(G74 ds d/\d.flatB=true)/\K d:=by
 obtain⟨r,hr,hA⟩:=bind_some hF;exact⟨_,⟨⟨N,a0,a1,r,hd,hr,rfl⟩,rfl⟩,h r hA⟩
theorem P74:PureOK Tryz.prog 74 G74:=zmm (λ a b=>.string ⟨(Lib.trimSuffix a.data.toList b.data.toList).toArray⟩) (λ a b=>(Lib.trimSuffix a.data.toList b.data.toList).length<=1000000) (by
 rintro ds d ⟨N,a0,a1,r,rfl,hF,rfl⟩
 rcases N with _|N
 .cases hF
 simp only[f74] at hF
 split at hF
 .rename_i h
  cases hF
  exact⟨a0,a1,rfl,rfl,h⟩
 .cases hF) λ a b w _ ha _ h=>⟨by show ByteArray.size _<=maxLen;simp only[ByteArray.size,List.size_toArray,maxLen];omega,Go.Proofs.Tryz.strings_TrimSuffix a b w (by simp only[maxLen] at ha;omega)⟩
def f100 (N:Nat)(a0:ByteArray)(a1:Int):Option (Int) :=
 match N with|0=>none|_+1=>((λ x:Int=>if -1<=x/\x<=1000000/\a0.size<=1000000 then some x else none) (Lib.lastIndexByte a0 a1))
def G100 (ds:List D)(d:D):Prop:=∃ (N:Nat) (a0:ByteArray) (a1:Int) (r:Int),ds=[strN a0,u8N a1]/\f100 N a0 a1=some r/\d=iN r
theorem G100.lend {a0 a1}{A:_->Option ρ}{K:D->Prop}(hd:ds=[strN a0,u8N a1])(h:∀ r,A r=some q->K (iN r))(hF:(f100 N a0 a1).bind A=some q):∃ d,(G100 ds d/\d.flatB=true)/\K d:=by
 obtain⟨r,hr,hA⟩:=bind_some hF;exact⟨_,⟨⟨N,a0,a1,r,hd,hr,rfl⟩,rfl⟩,h r hA⟩
theorem P100:PureOK Tryz.prog 100 G100:=by
 rintro w Z vs ds d hZ hl hr hg ⟨N,a0,a1,r,rfl,hF,rfl⟩
 rcases N with _|N
 .cases hF
 simp only[f100] at hF
 split at hF
 .rename_i h
  cases hF
  obtain⟨v,u,rfl,h1,h2⟩:=zrB hl hr;obtain⟨rfl,l1⟩:=zml h1;obtain rfl:=rd_u8 h2;refine(Go.Proofs.Tryz.strings_LastIndexByte a0 a1 (by omega) w).mono ?_;rintro e w' ⟨rfl,rfl⟩;exact⟨_,rfl,Ext.refl _, .v (by simp only[pl,IntKind.min,IntKind.max,IntKind.signed,IntKind.bits];simp;omega)⟩
 .cases hF

end Go.Vc
namespace Go.Vc
open Go.Proofs
variable {N id:Nat} {ρ:Type} {q:ρ} {xs:List SV} {m:Nat->Blk} {l:List Loc} {ds:List D} {K:Dl->List Loc->Prop} {k0 k1 k2 k3 k4 k5 k6 k7 k8 k9 k10 k11 k12 k13 k14 k15 m0 m1 m2 m3 m4 m5:Nat}
def zdN (a0:ByteArray)(N:Nat)(last4:Int):Option (LB×Bool) :=
 (f73 N a0 (strC [32])).bind λ x1 =>
 some (x1,decide (¬ last4=(32:Int)))
def zkP (a0:ByteArray)(N:Nat):Lp (Int) Unit (LB×Bool):=lp0 ⟨[0,4],[],[],[]⟩ (λ last4=>[.dat (strN a0), .dat (i32N last4)]) (λ _=>[]) (λ last4=>zdN a0 N last4)
instance Ef104_c8 {a0 N last4}:IsLp 0 1 (zdN a0 N last4) (zkP a0 N) last4:=⟨rfl⟩
instance Cf104_c8 {a0 N}:IsCut 1 (zdN a0 N) (zkP a0 N) 8:=⟨⟩
def ziJ (r3:Int->Nat->Option (LB×Bool))(a0:ByteArray)(k0:Int->Option (LB×Bool))(last4:Int)(p201:Nat):Option (LB×Bool) :=
 bif decide (p201<ByteArray.size a0) then ((some (zd0 a0 p201)).bind λ x2 =>
 bif decide (x2.1<(32:Int)) then (some ([],false))
 else (bif decide ((126:Int)<x2.1) then (some ([],false))
 else (bif decide (x2.1=(32:Int)) then (bif decide (last4=(32:Int)) then (some ([],false))
 else (r3 x2.1 x2.2))
 else (r3 x2.1 x2.2))))
 else (k0 last4)
def zfF (a0:ByteArray)(k0:Int->Option (LB×Bool)):Nat->Int->Nat->Option (LB×Bool)
 | 0,_,_=>none
 | n+1,last4,p201=>ziJ (zfF a0 k0 n) a0 k0 last4 p201
def zsh (a0:ByteArray)(k0:Int->Option (LB×Bool)):Lp (Nat×Int×Nat) Unit (LB×Bool):=lp0 ⟨[0,4,8],[201],[],[]⟩ (λ (_,last4,_)=>[.dat (strN a0), .dat (i32N last4), .ptr 201 0]) (λ (_,_,p201)=>[.sit a0 p201]) (λ (n,last4,p201)=>zfF a0 k0 n last4 p201)
instance Ef104_3 {a0 k0 n last4 p201}:IsLp 0 2 (zfF a0 k0 n last4 p201) (zsh a0 k0) (n,last4,p201):=⟨rfl⟩
def f104 (N:Nat)(a0:ByteArray):Option (LB×Bool) :=
 zap (zdN a0 N) λ k0 =>
 zfF a0 k0 N (32:Int) 0
def G104 (ds:List D)(d:D):Prop:=∃ (N:Nat) (a0:ByteArray) (r:LB×Bool),ds=[strN a0]/\f104 N a0=some r/\d = .tup [zau r.1,bN r.2]
theorem G104.step {a0}{A:_->Option ρ}{K:D->Prop}(hd:ds=[strN a0])(h:∀ r,A r=some q->K (.tup [zau r.1,bN r.2]))(hF:(f104 N a0).bind A=some q):∃ d,G104 ds d/\K d:=by
 obtain⟨r,hr,hA⟩:=bind_some hF;exact⟨_,⟨N,a0,r,hd,hr,rfl⟩,h r hA⟩
def f61 (N:Nat)(a0:ByteArray):Option (Bool) :=
 (f88 N a0).bind λ x1 =>
 some (x1)
def G61 (ds:List D)(d:D):Prop:=∃ (N:Nat) (a0:ByteArray) (r:Bool),ds=[strN a0]/\f61 N a0=some r/\d=bN r
theorem G61.lend {a0}{A:_->Option ρ}{K:D->Prop}(hd:ds=[strN a0])(h:∀ r,A r=some q->K (bN r))(hF:(f61 N a0).bind A=some q):∃ d,(G61 ds d/\d.flatB=true)/\K d:=by
 obtain⟨r,hr,hA⟩:=bind_some hF;exact⟨_,⟨⟨N,a0,r,hd,hr,rfl⟩,rfl⟩,h r hA⟩
def zuF (self:Claiming->LS->LE->LC->Option (Int))(N:Nat)(s0:Claiming)(s1:LS)(s2:LE)(s3:LC):Option (Int) :=
 onO (zas s0.edition s2) (some ((5:Int))) λ x1 =>
 (some (za2 false s0.customer s3)).bind λ x2 =>
 bif !x2.1 then ((lenM s3).bind λ x3 =>
 bif decide ((x3:Int)=(6:Int)) then (some ((2:Int)))
 else ((getF s2 x1).bind λ x4 =>
 (f64 N x4 x4.from_).bind λ x5 =>
 bif decide (x5<(W (x4.open_+s0.n))) then (some ((16:Int)))
 else (some ((0:Int)))))
 else ((getF s2 x1).bind λ x6 =>
 (f64 N x6 x6.from_).bind λ x7 =>
 bif decide (x7<(W (x6.open_+s0.n))) then (some ((16:Int)))
 else (some ((0:Int))))
def f210:Nat->Claiming->LS->LE->LC->Option (Int)
 | 0,_,_,_,_=>none
 | N+1,s0,s1,s2,s3=>zuF (f210 N) N s0 s1 s2 s3
def Af210 (s0:Claiming)(s1:LS)(s2:LE)(s3:LC):List SV:=[.dat (.agg [strN s0.customer,strN s0.edition,iN s0.n]), .ptr 0 0]
def Bf210 (s0:Claiming)(s1:LS)(s2:LE)(s3:LC):List Blk:=[.box [.mp 1, .mp 2, .mp 3],(sW [2] s1),(eW s2),(mW s3)]
def Rf210 (y:Int):List SV:=[.dat (iN y)]
def zy7 (s0:Claiming)(s1:LS)(s2:LE)(s3:LC)(y:Int):List Blk:=[.box [.mp 1, .mp 2, .mp 3],(sW [2] s1),(eW s2),(mW s3)]
def zy8 (y:Int):List Blk:=[]
def zmS:Spec (Claiming×LS×LE×LC) (Int):=⟨4,[],λ x=>Af210 x.1 x.2.1 x.2.2.1 x.2.2.2,λ x=>Bf210 x.1 x.2.1 x.2.2.1 x.2.2.2,λ _ y=>Rf210 y,λ x y=>zy7 x.1 x.2.1 x.2.2.1 x.2.2.2 y,λ _ y=>zy8 y⟩
def H210 (N:Nat)(x:Claiming×LS×LE×LC)(y:Int):Prop:=f210 N x.1 x.2.1 x.2.2.1 x.2.2.2=some y
def G210 (x:Claiming×LS×LE×LC)(y:Int):Prop:=∃ N,H210 N x y
theorem G210.step {s1 s2 s3}{s0:Claiming}{A:_->Option ρ}(ha:xs=[.dat (.agg [strN s0.customer,strN s0.edition,iN s0.n]), .ptr k0 0])(b0:m k0 = .box [.mp k1, .mp k2, .mp k3])(b1:m k1=(sW [k2] s1))(b2:m k2=(eW s2))(b3:m k3=(mW s3))(hu:True)(hn:za0 [k0,k1,k2,k3]=true)(h:∀ y,A y=some q->K ⟨.dat (iN y),[(k0, .box [.mp k1, .mp k2, .mp k3]),(k1,(sW [k2] s1)),(k2,(eW s2)),(k3,(mW s3))]⟩ ([Loc.b k0,Loc.b k1,Loc.b k2,Loc.b k3]++l))(hF:(f210 N s0 s1 s2 s3).bind A=some q):effPg zmS (G210) xs id (λ _=>SV.no) m l K:=by
 obtain⟨y,hy,hA⟩:=bind_some hF;exact zaO [k0,k1,k2,k3] (s0,s1,s2,s3) y _ ⟨N,hy⟩ rfl hn ha (by simp only[List.map_cons,List.map_nil,b0,b1,b2,b3];rfl) rfl rfl rfl (h y hA)
def zy9:Ann:=⟨[0],[0,1,2,3],[],[]⟩
def zw3:Ann:=⟨[0],[0,1,2,3],[],[]⟩
def zuG (self:Delivery->LS->LE->LC->Option (Int))(N:Nat)(s0:Delivery)(s1:LS)(s2:LE)(s3:LC):Option (Int) :=
 onO (zas s0.claiming.edition s2) (some ((5:Int))) λ x1 =>
 (getF s2 x1).bind λ x2 =>
 (some (za2 (0:Int) s0.claiming.customer x2.owed)).bind λ x3 =>
 (some ()).bind λ _ =>
 bif !x3.2 then (some ((5:Int)))
 else (bif !x2.closed then (some ((22:Int)))
 else (bif decide (x3.1<s0.claiming.n) then (some ((14:Int)))
 else ((ix x2.places (W ((List.length x2.places:Int)-(1:Int)))).bind λ x4 =>
 (some ()).bind λ _ =>
 bif decide (x4<s0.claiming.n) then (some ((16:Int)))
 else (some ((0:Int))))))
def f212:Nat->Delivery->LS->LE->LC->Option (Int)
 | 0,_,_,_,_=>none
 | N+1,s0,s1,s2,s3=>zuG (f212 N) N s0 s1 s2 s3
def Af212 (s0:Delivery)(s1:LS)(s2:LE)(s3:LC):List SV:=[.dat (.agg [strN s0.claiming.customer,strN s0.claiming.edition,iN s0.claiming.n]), .ptr 0 0]
def Bf212 (s0:Delivery)(s1:LS)(s2:LE)(s3:LC):List Blk:=[.box [.mp 1, .mp 2, .mp 3],(sW [2] s1),(eW s2),(mW s3)]
def Rf212 (y:Int):List SV:=[.dat (iN y)]
def zza (s0:Delivery)(s1:LS)(s2:LE)(s3:LC)(y:Int):List Blk:=[.box [.mp 1, .mp 2, .mp 3],(sW [2] s1),(eW s2),(mW s3)]
def zzb (y:Int):List Blk:=[]
def zmT:Spec (Delivery×LS×LE×LC) (Int):=⟨4,[],λ x=>Af212 x.1 x.2.1 x.2.2.1 x.2.2.2,λ x=>Bf212 x.1 x.2.1 x.2.2.1 x.2.2.2,λ _ y=>Rf212 y,λ x y=>zza x.1 x.2.1 x.2.2.1 x.2.2.2 y,λ _ y=>zzb y⟩
def H212 (N:Nat)(x:Delivery×LS×LE×LC)(y:Int):Prop:=f212 N x.1 x.2.1 x.2.2.1 x.2.2.2=some y
def G212 (x:Delivery×LS×LE×LC)(y:Int):Prop:=∃ N,H212 N x y
theorem G212.step {s1 s2 s3}{s0:Delivery}{A:_->Option ρ}(ha:xs=[.dat (.agg [strN s0.claiming.customer,strN s0.claiming.edition,iN s0.claiming.n]), .ptr k0 0])(b0:m k0 = .box [.mp k1, .mp k2, .mp k3])(b1:m k1=(sW [k2] s1))(b2:m k2=(eW s2))(b3:m k3=(mW s3))(hu:True)(hn:za0 [k0,k1,k2,k3]=true)(h:∀ y,A y=some q->K ⟨.dat (iN y),[(k0, .box [.mp k1, .mp k2, .mp k3]),(k1,(sW [k2] s1)),(k2,(eW s2)),(k3,(mW s3))]⟩ ([Loc.b k0,Loc.b k1,Loc.b k2,Loc.b k3]++l))(hF:(f212 N s0 s1 s2 s3).bind A=some q):effPg zmT (G212) xs id (λ _=>SV.no) m l K:=by
 obtain⟨y,hy,hA⟩:=bind_some hF;exact zaO [k0,k1,k2,k3] (s0,s1,s2,s3) y _ ⟨N,hy⟩ rfl hn ha (by simp only[List.map_cons,List.map_nil,b0,b1,b2,b3];rfl) rfl rfl rfl (h y hA)
def zzc:Ann:=⟨[0],[0,1,2,3],[],[]⟩
def zw4:Ann:=⟨[0],[0,1,2,3],[],[]⟩
def zuH (self:Grinding->LS->LE->LC->Option (Int))(N:Nat)(s0:Grinding)(s1:LS)(s2:LE)(s3:LC):Option (Int) :=
 onO (zas s0.stone s1) (some ((5:Int))) λ x1 =>
 (getF s1 x1).bind λ x2 =>
 onO x2.of (some ((1:Int))) λ x3 =>
 (getF s2 x3).bind λ x4 =>
 bif !x4.closed then (some ((22:Int)))
 else ((f64 N x4 x4.from_).bind λ x5 =>
 (f64 N x4 (max x4.from_ (W (x2.place+(1:Int))))).bind λ x6 =>
 bif decide (x6<x5) then (bif decide (x6<x4.open_) then (some ((12:Int)))
 else (bif decide (x2.thick=(1:Int)) then (some ((13:Int)))
 else (some ((0:Int)))))
 else (bif decide (x2.thick=(1:Int)) then (some ((13:Int)))
 else (some ((0:Int)))))
def f215:Nat->Grinding->LS->LE->LC->Option (Int)
 | 0,_,_,_,_=>none
 | N+1,s0,s1,s2,s3=>zuH (f215 N) N s0 s1 s2 s3
def Af215 (s0:Grinding)(s1:LS)(s2:LE)(s3:LC):List SV:=[.dat (.agg [strN s0.stone]), .ptr 0 0]
def Bf215 (s0:Grinding)(s1:LS)(s2:LE)(s3:LC):List Blk:=[.box [.mp 1, .mp 2, .mp 3],(sW [2] s1),(eW s2),(mW s3)]
def Rf215 (y:Int):List SV:=[.dat (iN y)]
def zzd (s0:Grinding)(s1:LS)(s2:LE)(s3:LC)(y:Int):List Blk:=[.box [.mp 1, .mp 2, .mp 3],(sW [2] s1),(eW s2),(mW s3)]
def zze (y:Int):List Blk:=[]
def zmU:Spec (Grinding×LS×LE×LC) (Int):=⟨4,[],λ x=>Af215 x.1 x.2.1 x.2.2.1 x.2.2.2,λ x=>Bf215 x.1 x.2.1 x.2.2.1 x.2.2.2,λ _ y=>Rf215 y,λ x y=>zzd x.1 x.2.1 x.2.2.1 x.2.2.2 y,λ _ y=>zze y⟩
def H215 (N:Nat)(x:Grinding×LS×LE×LC)(y:Int):Prop:=f215 N x.1 x.2.1 x.2.2.1 x.2.2.2=some y
def G215 (x:Grinding×LS×LE×LC)(y:Int):Prop:=∃ N,H215 N x y
theorem G215.step {s1 s2 s3}{s0:Grinding}{A:_->Option ρ}(ha:xs=[.dat (.agg [strN s0.stone]), .ptr k0 0])(b0:m k0 = .box [.mp k1, .mp k2, .mp k3])(b1:m k1=(sW [k2] s1))(b2:m k2=(eW s2))(b3:m k3=(mW s3))(hu:True)(hn:za0 [k0,k1,k2,k3]=true)(h:∀ y,A y=some q->K ⟨.dat (iN y),[(k0, .box [.mp k1, .mp k2, .mp k3]),(k1,(sW [k2] s1)),(k2,(eW s2)),(k3,(mW s3))]⟩ ([Loc.b k0,Loc.b k1,Loc.b k2,Loc.b k3]++l))(hF:(f215 N s0 s1 s2 s3).bind A=some q):effPg zmU (G215) xs id (λ _=>SV.no) m l K:=by
 obtain⟨y,hy,hA⟩:=bind_some hF;exact zaO [k0,k1,k2,k3] (s0,s1,s2,s3) y _ ⟨N,hy⟩ rfl hn ha (by simp only[List.map_cons,List.map_nil,b0,b1,b2,b3];rfl) rfl rfl rfl (h y hA)
def zzf:Ann:=⟨[0],[0,1,2,3],[],[]⟩
def zw5:Ann:=⟨[0],[0,1,2,3],[],[]⟩
def zuI (self:Delivery->LS->LE->LC->Option (LE))(N:Nat)(s0:Delivery)(s1:LS)(s2:LE)(s3:LC):Option (LE) :=
 onO (zas s0.claiming.edition s2) none λ x1 =>
 (getF s2 x1).bind λ x2 =>
 (some (za2 (0:Int) s0.claiming.customer x2.owed)).bind λ x3 =>
 (some (setK s0.claiming.customer (W (x3.1-s0.claiming.n)) x2.owed)).bind λ x4 =>
 (some (setF s2 x1 ({ x2 with owed:=x4 }))).bind λ x5 =>
 (some (setF x5 x1 ({ x2 with owed:=x4,open_:=W (x2.open_-s0.claiming.n) }))).bind λ x6 =>
 (some (setF x6 x1 ({ x2 with delivered:=W (x2.delivered+s0.claiming.n),owed:=x4,open_:=W (x2.open_-s0.claiming.n) }))).bind λ x7 =>
 (ix x2.places (W ((List.length x2.places:Int)-(1:Int)))).bind λ x8 =>
 (setx x2.places (W ((List.length x2.places:Int)-(1:Int))) (W (x8-s0.claiming.n))).bind λ x9 =>
 (some (setF x7 x1 ({ x2 with places:=x9,delivered:=W (x2.delivered+s0.claiming.n),owed:=x4,open_:=W (x2.open_-s0.claiming.n) }))).bind λ x10 =>
 some (x10)
def f211:Nat->Delivery->LS->LE->LC->Option (LE)
 | 0,_,_,_,_=>none
 | N+1,s0,s1,s2,s3=>zuI (f211 N) N s0 s1 s2 s3
def Af211 (s0:Delivery)(s1:LS)(s2:LE)(s3:LC):List SV:=[.dat (.agg [strN s0.claiming.customer,strN s0.claiming.edition,iN s0.claiming.n]), .ptr 0 0]
def Bf211 (s0:Delivery)(s1:LS)(s2:LE)(s3:LC):List Blk:=[.box [.mp 1, .mp 2, .mp 3],(sW [2] s1),(eW s2),(mW s3)]
def Rf211 (y:LE):List SV:=[]
def zzg (s0:Delivery)(s1:LS)(s2:LE)(s3:LC)(y:LE):List Blk:=[.box [.mp 1, .mp 2, .mp 3],(sW [2] s1),(eW y),(mW s3)]
def zzh (y:LE):List Blk:=[]
def zmV:Spec (Delivery×LS×LE×LC) (LE):=⟨4,[],λ x=>Af211 x.1 x.2.1 x.2.2.1 x.2.2.2,λ x=>Bf211 x.1 x.2.1 x.2.2.1 x.2.2.2,λ _ y=>Rf211 y,λ x y=>zzg x.1 x.2.1 x.2.2.1 x.2.2.2 y,λ _ y=>zzh y⟩
def H211 (N:Nat)(x:Delivery×LS×LE×LC)(y:LE):Prop:=f211 N x.1 x.2.1 x.2.2.1 x.2.2.2=some y
def G211 (x:Delivery×LS×LE×LC)(y:LE):Prop:=∃ N,H211 N x y
theorem G211.step {s1 s2 s3}{s0:Delivery}{A:_->Option ρ}(ha:xs=[.dat (.agg [strN s0.claiming.customer,strN s0.claiming.edition,iN s0.claiming.n]), .ptr k0 0])(b0:m k0 = .box [.mp k1, .mp k2, .mp k3])(b1:m k1=(sW [k2] s1))(b2:m k2=(eW s2))(b3:m k3=(mW s3))(hu:True)(hn:za0 [k0,k1,k2,k3]=true)(h:∀ y,A y=some q->K ⟨.tup [],[(k0, .box [.mp k1, .mp k2, .mp k3]),(k1,(sW [k2] s1)),(k2,(eW y)),(k3,(mW s3))]⟩ ([Loc.b k0,Loc.b k1,Loc.b k2,Loc.b k3]++l))(hF:(f211 N s0 s1 s2 s3).bind A=some q):effPg zmV (G211) xs id (λ _=>SV.no) m l K:=by
 obtain⟨y,hy,hA⟩:=bind_some hF;exact zaO [k0,k1,k2,k3] (s0,s1,s2,s3) y _ ⟨N,hy⟩ rfl hn ha (by simp only[List.map_cons,List.map_nil,b0,b1,b2,b3];rfl) rfl rfl rfl (h y hA)
def zzi:Ann:=⟨[],[0,1,2,3],[],[]⟩
def zw6:Ann:=⟨[],[0,1,2,3],[],[]⟩
def zaS (a0:List (List Int))(N:Nat):Option (Int) :=
 (f145 N a0).bind λ x3 =>
 bif x3 then (some ((6:Int)))
 else (some ((0:Int)))
def zbB (a0:List (List Int))(N:Nat):Lp (Unit) Unit (Int):=lp0 ⟨[],[102],[],[]⟩ (λ _=>[]) (λ _=>[.box [.dat (iN (List.length a0:Int))]]) (λ _=>zaS a0 N)
instance zjL {a0 N}:IsLp 0 0 (zaS a0 N) (zbB a0 N) ():=⟨rfl⟩
instance zjM {a0 N}:IsCut 0 (zaS a0 N) (zbB a0 N) 404000103000000007:=⟨⟩
def zcy (r2:Int->Option (Int))(a0:List (List Int))(N:Nat)(x2:List Int)(k0:Option (Int))(v8:Int):Option (Int) :=
 bif decide (v8<(List.length x2:Int)) then ((ix x2 v8).bind λ x4 =>
 (f117 N (0:Int) x4 (W ((List.length a0:Int)-(1:Int)))).bind λ x5 =>
 bif !x5 then (bif decide ((0:Int)<=v8) then (some ((4:Int)))
 else ((f145 N a0).bind λ x6 =>
 bif x6 then (some ((6:Int)))
 else (some ((0:Int)))))
 else (r2 (W (v8+(1:Int)))))
 else k0
def za5 (a0:List (List Int))(N:Nat)(x2:List Int)(k0:Option (Int)):Nat->Int->Option (Int)
 | 0,_=>none
 | n+1,v8=>zcy (za5 a0 N x2 k0 n) a0 N x2 k0 v8
def zcz (a0:List (List Int))(N:Nat)(x2:List Int)(k0:Option (Int)):Lp (Nat×Int) Unit (Int):=lp0 ⟨[0,1,7,8],[102],[],[]⟩ (λ (_,v8)=>[.dat (za3 x2), .fn 144 [] [.ptr 102 0], .dat (iN (List.length x2:Int)), .dat (iN v8)]) (λ (_,_)=>[.box [.dat (iN (List.length a0:Int))]]) (λ (n,v8)=>za5 a0 N x2 k0 n v8)
instance zkQ {a0 N x2 k0 n v8}:IsLp 0 1 (za5 a0 N x2 k0 n v8) (zcz a0 N x2 k0) (n,v8):=⟨rfl⟩
def zaT (a0:List (List Int))(N:Nat):Option (Int) :=
 (f143 N a0).bind λ x2 =>
 zap (zaS a0 N) λ k0 =>
 za5 a0 N x2 k0 N (0:Int)
def zbC (a0:List (List Int))(N:Nat):Lp (Unit) Unit (Int):=lp0 ⟨[],[102],[],[]⟩ (λ _=>[]) (λ _=>[.box [.dat (iN (List.length a0:Int))]]) (λ _=>zaT a0 N)
instance zjN {a0 N}:IsLp 0 0 (zaT a0 N) (zbC a0 N) ():=⟨rfl⟩
instance zjO {a0 N}:IsCut 0 (zaT a0 N) (zbC a0 N) 207000103000000007:=⟨⟩
def zaN (a0:List (List Int))(N:Nat):Option (Int) :=
 (f145 N a0).bind λ x9 =>
 bif x9 then (some ((6:Int)))
 else (some ((0:Int)))
def zbl (a0:List (List Int))(N:Nat):Lp (Unit) Unit (Int):=lp0 ⟨[],[102],[],[]⟩ (λ _=>[]) (λ _=>[.box [.dat (iN (List.length a0:Int))]]) (λ _=>zaN a0 N)
instance zi4 {a0 N}:IsLp 0 0 (zaN a0 N) (zbl a0 N) ():=⟨rfl⟩
instance zi5 {a0 N}:IsCut 0 (zaN a0 N) (zbl a0 N) 404000103000000007:=⟨⟩
def zca (r2x:Int->Option (Int))(a0:List (List Int))(N:Nat)(x8:List Int)(k2:Option (Int))(v8':Int):Option (Int) :=
 bif decide ((v8')<(List.length x8:Int)) then ((ix x8 (v8')).bind λ x10 =>
 (f117 N (0:Int) x10 (W ((List.length a0:Int)-(1:Int)))).bind λ x11 =>
 bif !x11 then (bif decide ((0:Int)<=(v8')) then (some ((4:Int)))
 else ((f145 N a0).bind λ x12 =>
 bif x12 then (some ((6:Int)))
 else (some ((0:Int)))))
 else (r2x (W ((v8')+(1:Int)))))
 else k2
def zaZ (a0:List (List Int))(N:Nat)(x8:List Int)(k2:Option (Int)):Nat->Int->Option (Int)
 | 0,_=>none
 | n+1,v8' => zca (zaZ a0 N x8 k2 n) a0 N x8 k2 v8'
def zcb (a0:List (List Int))(N:Nat)(x8:List Int)(k2:Option (Int)):Lp (Nat×Int) Unit (Int):=lp0 ⟨[0,1,7,8],[102],[],[]⟩ (λ (_,v8')=>[.dat (za3 x8), .fn 144 [] [.ptr 102 0], .dat (iN (List.length x8:Int)), .dat (iN (v8'))]) (λ (_,_)=>[.box [.dat (iN (List.length a0:Int))]]) (λ (n,v8')=>zaZ a0 N x8 k2 n v8')
instance zjj {a0 N x8 k2 n v8'}:IsLp 0 1 (zaZ a0 N x8 k2 n v8') (zcb a0 N x8 k2) (n,v8'):=⟨rfl⟩
def zcA (r2:Int->Option (Int))(a0:List (List Int))(N:Nat)(k1:Option (Int))(v8:Int):Option (Int) :=
 bif decide (v8<(List.length a0:Int)) then ((ix a0 v8).bind λ x7 =>
 bif decide (¬ (List.length x7:Int)=(List.length a0:Int)) then (bif decide ((0:Int)<=v8) then (some ((3:Int)))
 else ((f143 N a0).bind λ x8 =>
 zap (zaN a0 N) λ k2 =>
 zaZ a0 N x8 k2 N (0:Int)))
 else (r2 (W (v8+(1:Int)))))
 else k1
def za6 (a0:List (List Int))(N:Nat)(k1:Option (Int)):Nat->Int->Option (Int)
 | 0,_=>none
 | n+1,v8=>zcA (za6 a0 N k1 n) a0 N k1 v8
def zcB (a0:List (List Int))(N:Nat)(k1:Option (Int)):Lp (Nat×Int) Unit (Int):=lp0 ⟨[0,1,7,8],[102],[],[]⟩ (λ (_,v8)=>[.dat (zar a0), .fn 141 [] [.ptr 102 0], .dat (iN (List.length a0:Int)), .dat (iN v8)]) (λ (_,_)=>[.box [.dat (iN (List.length a0:Int))]]) (λ (n,v8)=>za6 a0 N k1 n v8)
instance zkR {a0 N k1 n v8}:IsLp 0 1 (za6 a0 N k1 n v8) (zcB a0 N k1) (n,v8):=⟨rfl⟩
def f116 (N:Nat)(a0:List (List Int)):Option (Int) :=
 (f117 N (2:Int) (List.length a0:Int) (10:Int)).bind λ x1 =>
 bif !x1 then (some ((3:Int)))
 else (zap (zaT a0 N) λ k1 =>
 za6 a0 N k1 N (0:Int))
def G116 (ds:List D)(d:D):Prop:=∃ (N:Nat) (a0:List (List Int)) (r:Int),ds=[zar a0]/\f116 N a0=some r/\d=iN r
theorem G116.lend {a0}{A:_->Option ρ}{K:D->Prop}(hd:ds=[zar a0])(h:∀ r,A r=some q->K (iN r))(hF:(f116 N a0).bind A=some q):∃ d,(G116 ds d/\d.flatB=true)/\K d:=by
 obtain⟨r,hr,hA⟩:=bind_some hF;exact⟨_,⟨⟨N,a0,r,hd,hr,rfl⟩,rfl⟩,h r hA⟩
def zgF (b501:List (List Int)):Option ((List (List Int))×Int) :=
 some (b501,(0:Int))
def ziK:Lp ((List (List Int))) (Nat×Unit) ((List (List Int))×Int):=lpm ⟨[6],[501],[],[]⟩ (λ b501=>zgF b501) (λ _ (m0,_)=>[.rs 501 m0]) (λ b501 (_,_)=>[.sn 43 1 false none (List.map (λ l=>[.r 3 1 (List.map iN l)]) b501)]) λ b501=>(List.length b501,())
instance zzj {b501}:IsLp 1 1 (zgF b501) (ziK) b501:=⟨rfl⟩
instance zzk:IsCut 1 (zgF) (ziK) 15:=⟨⟩
def zgG (a0:Int)(a1:Int)(x4:List (List Int))(v29:Int)(r7:Int->(List (List Int))->Option ((List (List Int))×Int))(b501':List (List Int)):Option ((List (List Int))×Int) :=
 r7 (W (v29+(1:Int))) (b501')
def ziL (a0:Int)(a1:Int)(x4:List (List Int))(v29:Int)(r7:Int->(List (List Int))->Option ((List (List Int))×Int)):Lp ((List (List Int))) (Nat×Unit) ((List (List Int))×Int):=lpm ⟨[0,1,6,28,29],[501],[],[]⟩ (λ b501' => zgG a0 a1 x4 v29 r7 b501') (λ _ (m0,_)=>[.dat (iN a0), .dat (iN a1), .rs 501 m0, .dat (iN (List.length x4:Int)), .dat (iN v29)]) (λ b501' (_,_)=>[.sn 43 1 false none (List.map (λ l=>[.r 3 1 (List.map iN l)]) (b501'))]) λ b501' => (List.length (b501'),())
instance zzl {a0 a1 x4 v29 r7 b501'}:IsLp 1 1 (zgG a0 a1 x4 v29 r7 b501') (ziL a0 a1 x4 v29 r7) b501':=⟨rfl⟩
instance zzm {a0 a1 x4 v29 r7}:IsCut 1 (zgG a0 a1 x4 v29 r7) (ziL a0 a1 x4 v29 r7) 14:=⟨⟩
def zpb (r10:Int->(List (List Int))->Option ((List (List Int))×Int))(a0:Int)(a1:Int)(x4:List (List Int))(v29:Int)(k1:(List (List Int))->Option ((List (List Int))×Int))(v33:Int)(b501':List (List Int)):Option ((List (List Int))×Int) :=
 bif decide (v33<a0) then ((ix (b501') v29).bind λ x5 =>
 (chk (decide (a0≠0))).bind λ _ =>
 (app 8 x5 [Int.tmod (W ((W (a1*v29))+v33)) a0]).bind λ x6 =>
 (ix (b501') v29).bind λ x7 =>
 (setx (b501') v29 x6).bind λ x8 =>
 r10 (W (v33+(1:Int))) x8)
 else (k1 (b501'))
def ziM (a0:Int)(a1:Int)(x4:List (List Int))(v29:Int)(k1:(List (List Int))->Option ((List (List Int))×Int)):Nat->Int->(List (List Int))->Option ((List (List Int))×Int)
 | 0,_,_=>none
 | n+1,v33,b501' => zpb (ziM a0 a1 x4 v29 k1 n) a0 a1 x4 v29 k1 v33 b501'
def zpc (a0:Int)(a1:Int)(x4:List (List Int))(v29:Int)(k1:(List (List Int))->Option ((List (List Int))×Int)):Lp (Nat×Int×(List (List Int))) (Nat×Unit) ((List (List Int))×Int):=lpm ⟨[0,1,6,7,28,29,32,33],[501],[],[]⟩ (λ (n,v33,b501')=>ziM a0 a1 x4 v29 k1 n v33 b501') (λ (_,v33,_) (m0,_)=>[.dat (iN a0), .dat (iN a1), .rs 501 m0, .dat (iN v29), .dat (iN (List.length x4:Int)), .dat (iN v29), .dat (iN a0), .dat (iN v33)]) (λ (_,_,b501') (_,_)=>[.sn 43 1 false none (List.map (λ l=>[.r 3 1 (List.map iN l)]) (b501'))]) λ (_,_,b501')=>(List.length (b501'),())
instance Ef119_10 {a0 a1 x4 v29 k1 n v33 b501'}:IsLp 1 2 (ziM a0 a1 x4 v29 k1 n v33 b501') (zpc a0 a1 x4 v29 k1) (n,v33,b501'):=⟨rfl⟩
def zsi (r7:Int->(List (List Int))->Option ((List (List Int))×Int))(a0:Int)(a1:Int)(N:Nat)(x4:List (List Int))(k0:(List (List Int))->Option ((List (List Int))×Int))(v29:Int)(b501:List (List Int)):Option ((List (List Int))×Int) :=
 bif decide (v29<(List.length x4:Int)) then (zap (zgG a0 a1 x4 v29 r7) λ k1 =>
 ziM a0 a1 x4 v29 k1 N (0:Int) b501)
 else (k0 b501)
def zmW (a0:Int)(a1:Int)(N:Nat)(x4:List (List Int))(k0:(List (List Int))->Option ((List (List Int))×Int)):Nat->Int->(List (List Int))->Option ((List (List Int))×Int)
 | 0,_,_=>none
 | n+1,v29,b501=>zsi (zmW a0 a1 N x4 k0 n) a0 a1 N x4 k0 v29 b501
def zsj (a0:Int)(a1:Int)(N:Nat)(x4:List (List Int))(k0:(List (List Int))->Option ((List (List Int))×Int)):Lp (Nat×Int×(List (List Int))) (Nat×Unit) ((List (List Int))×Int):=lpm ⟨[0,1,6,28,29],[501],[],[]⟩ (λ (n,v29,b501)=>zmW a0 a1 N x4 k0 n v29 b501) (λ (_,v29,_) (m0,_)=>[.dat (iN a0), .dat (iN a1), .rs 501 m0, .dat (iN (List.length x4:Int)), .dat (iN v29)]) (λ (_,_,b501) (_,_)=>[.sn 43 1 false none (List.map (λ l=>[.r 3 1 (List.map iN l)]) b501)]) λ (_,_,b501)=>(List.length b501,())
instance Ef119_7 {a0 a1 N x4 k0 n v29 b501}:IsLp 1 2 (zmW a0 a1 N x4 k0 n v29 b501) (zsj a0 a1 N x4 k0) (n,v29,b501):=⟨rfl⟩
def f119 (N:Nat)(a0:Int)(a1:Int):Option ((List (List Int))×Int) :=
 (f117 N (2:Int) a0 (10:Int)).bind λ x1 =>
 bif !x1 then (some ([],(4:Int)))
 else ((f117 N (1:Int) a1 (W (a0-(1:Int)))).bind λ x2 =>
 bif !x2 then (some ([],(4:Int)))
 else ((f148 N a0 a1).bind λ x3 =>
 bif decide ((1:Int)<x3) then (some ([],(12:Int)))
 else ((mkS 24 [] a0 a0).bind λ x4 =>
 zap zgF λ k0 =>
 zmW a0 a1 N x4 k0 N (0:Int) x4)))
def G119 (ds:List D)(d:D):Prop:=∃ (N:Nat) (a0:Int) (a1:Int) (r:(List (List Int))×Int),ds=[iN a0,iN a1]/\f119 N a0 a1=some r/\d = .tup [zar r.1,iN r.2]
theorem G119.step {a0 a1}{A:_->Option ρ}{K:D->Prop}(hd:ds=[iN a0,iN a1])(h:∀ r,A r=some q->K (.tup [zar r.1,iN r.2]))(hF:(f119 N a0 a1).bind A=some q):∃ d,G119 ds d/\K d:=by
 obtain⟨r,hr,hA⟩:=bind_some hF;exact⟨_,⟨N,a0,a1,r,hd,hr,rfl⟩,h r hA⟩
def zgH (N:Nat)(n3:Int):Option (ByteArray) :=
 (f30 N (W ((Int.tmod n3 (10000:Int))+(10000:Int)))).bind λ x1 =>
 (subS x1 (1:Int) (ByteArray.size x1:Int)).bind λ x2 =>
 (f86 N x2).bind λ x3 =>
 (f30 N (Int.tmod (W ((10:Int)-(Int.tmod (W ((3:Int)*x3)) (10:Int)))) (10:Int))).bind λ x4 =>
 (addS x2 x4).bind λ x5 =>
 some (x5)
def zo (N:Nat):Lp (Int) Unit (ByteArray):=lp0 ⟨[3],[],[],[]⟩ (λ n3=>[.dat (iN n3)]) (λ _=>[]) (λ n3=>zgH N n3)
instance Ef59_c6 {N n3}:IsLp 0 1 (zgH N n3) (zo N) n3:=⟨rfl⟩
instance Cf59_c6 {N}:IsCut 1 (zgH N) (zo N) 6:=⟨⟩
def zsk (r3:Int->Int->Option (ByteArray))(a0:ByteArray)(k0:Int->Option (ByteArray))(n3:Int)(i4:Int):Option (ByteArray) :=
 bif decide (i4<(ByteArray.size a0:Int)) then ((idxS a0 i4).bind λ x6 =>
 r3 (W (n3+(W ((W (i4+(1:Int)))*x6)))) (W (i4+(1:Int))))
 else (k0 n3)
def zoa (a0:ByteArray)(k0:Int->Option (ByteArray)):Nat->Int->Int->Option (ByteArray)
 | 0,_,_=>none
 | n+1,n3,i4=>zsk (zoa a0 k0 n) a0 k0 n3 i4
def zvF (a0:ByteArray)(k0:Int->Option (ByteArray)):Lp (Nat×Int×Int) Unit (ByteArray):=lp0 ⟨[0,3,4],[],[],[]⟩ (λ (_,n3,i4)=>[.dat (strN a0), .dat (iN n3), .dat (iN i4)]) (λ (_,_,_)=>[]) (λ (n,n3,i4)=>zoa a0 k0 n n3 i4)
instance Ef59_3 {a0 k0 n n3 i4}:IsLp 0 2 (zoa a0 k0 n n3 i4) (zvF a0 k0) (n,n3,i4):=⟨rfl⟩
def f59 (N:Nat)(a0:ByteArray):Option (ByteArray) :=
 zap (zgH N) λ k0 =>
 zoa a0 k0 N (0:Int) (0:Int)
def G59 (ds:List D)(d:D):Prop:=∃ (N:Nat) (a0:ByteArray) (r:ByteArray),ds=[strN a0]/\f59 N a0=some r/\d=strN r
theorem G59.lend {a0}{A:_->Option ρ}{K:D->Prop}(hd:ds=[strN a0])(h:∀ r,A r=some q->K (strN r))(hF:(f59 N a0).bind A=some q):∃ d,(G59 ds d/\d.flatB=true)/\K d:=by
 obtain⟨r,hr,hA⟩:=bind_some hF;exact⟨_,⟨⟨N,a0,r,hd,hr,rfl⟩,rfl⟩,h r hA⟩
def f71 (N:Nat)(a0:Int)(a1:Int)(a2:Int):Option (Bool) :=
 (f96 N a0 a1 a2).bind λ x1 =>
 some (x1)
def G71 (ds:List D)(d:D):Prop:=∃ (N:Nat) (a0:Int) (a1:Int) (a2:Int) (r:Bool),ds=[iN a0,iN a1,iN a2]/\f71 N a0 a1 a2=some r/\d=bN r
theorem G71.lend {a0 a1 a2}{A:_->Option ρ}{K:D->Prop}(hd:ds=[iN a0,iN a1,iN a2])(h:∀ r,A r=some q->K (bN r))(hF:(f71 N a0 a1 a2).bind A=some q):∃ d,(G71 ds d/\d.flatB=true)/\K d:=by
 obtain⟨r,hr,hA⟩:=bind_some hF;exact⟨_,⟨⟨N,a0,a1,a2,r,hd,hr,rfl⟩,rfl⟩,h r hA⟩
def zhr:Option (Bool) :=
 some (true)
def zob:Lp (Unit) Unit (Bool):=lp0 ⟨[],[],[],[]⟩ (λ _=>[]) (λ _=>[]) (λ _=>zhr)
instance Ef89_c8:IsLp 0 0 (zhr) (zob) ():=⟨rfl⟩
instance Cf89_c8:IsCut 0 (zhr) (zob) 8:=⟨⟩
def zpd (r4:Int->Option (Bool))(a0:ByteArray)(k0:Option (Bool))(i3:Int):Option (Bool) :=
 bif decide (i3<(ByteArray.size a0:Int)) then ((idxS a0 i3).bind λ x2 =>
 bif decide (x2<(97:Int)) then (some (false))
 else ((idxS a0 i3).bind λ x3 =>
 bif decide ((122:Int)<x3) then (some (false))
 else (r4 (W (i3+(1:Int))))))
 else k0
def zkS (a0:ByteArray)(k0:Option (Bool)):Nat->Int->Option (Bool)
 | 0,_=>none
 | n+1,i3=>zpd (zkS a0 k0 n) a0 k0 i3
def zvG (a0:ByteArray)(k0:Option (Bool)):Lp (Nat×Int) Unit (Bool):=lp0 ⟨[0,3],[],[],[]⟩ (λ (_,i3)=>[.dat (strN a0), .dat (iN i3)]) (λ (_,_)=>[]) (λ (n,i3)=>zkS a0 k0 n i3)
instance Ef89_4 {a0 k0 n i3}:IsLp 0 1 (zkS a0 k0 n i3) (zvG a0 k0) (n,i3):=⟨rfl⟩
def f89 (N:Nat)(a0:ByteArray):Option (Bool) :=
 (f124 N (ByteArray.size a0:Int) (1:Int) (9:Int)).bind λ x1 =>
 bif !x1 then (some (false))
 else (zap zhr λ k0 =>
 zkS a0 k0 N (0:Int))
def G89 (ds:List D)(d:D):Prop:=∃ (N:Nat) (a0:ByteArray) (r:Bool),ds=[strN a0]/\f89 N a0=some r/\d=bN r
theorem G89.lend {a0}{A:_->Option ρ}{K:D->Prop}(hd:ds=[strN a0])(h:∀ r,A r=some q->K (bN r))(hF:(f89 N a0).bind A=some q):∃ d,(G89 ds d/\d.flatB=true)/\K d:=by
 obtain⟨r,hr,hA⟩:=bind_some hF;exact⟨_,⟨⟨N,a0,r,hd,hr,rfl⟩,rfl⟩,h r hA⟩
def zes (n4:Int):Option (Int×Bool) :=
 some (n4,true)
def ziN:Lp (Int) Unit (Int×Bool):=lp0 ⟨[4],[],[],[]⟩ (λ n4=>[.dat (iN n4)]) (λ _=>[]) (λ n4=>zes n4)
instance zzn {n4}:IsLp 0 1 (zes n4) (ziN) n4:=⟨rfl⟩
instance zzo:IsCut 1 (zes) (ziN) 10:=⟨⟩
def zkT (r5:Int->Int->Option (Int×Bool))(a0:ByteArray)(k0:Int->Option (Int×Bool))(n4:Int)(i5:Int):Option (Int×Bool) :=
 bif decide (i5<(ByteArray.size a0:Int)) then ((idxS a0 i5).bind λ x1 =>
 bif decide (x1<(48:Int)) then (some ((0:Int),false))
 else ((idxS a0 i5).bind λ x2 =>
 bif decide ((57:Int)<x2) then (some ((0:Int),false))
 else ((idxS a0 i5).bind λ x3 =>
 r5 (W ((W ((10:Int)*n4))+(Wk .u8 (x3-(48:Int))))) (W (i5+(1:Int))))))
 else (k0 n4)
def zgI (a0:ByteArray)(k0:Int->Option (Int×Bool)):Nat->Int->Int->Option (Int×Bool)
 | 0,_,_=>none
 | n+1,n4,i5=>zkT (zgI a0 k0 n) a0 k0 n4 i5
def zsl (a0:ByteArray)(k0:Int->Option (Int×Bool)):Lp (Nat×Int×Int) Unit (Int×Bool):=lp0 ⟨[0,4,5],[],[],[]⟩ (λ (_,n4,i5)=>[.dat (strN a0), .dat (iN n4), .dat (iN i5)]) (λ (_,_,_)=>[]) (λ (n,n4,i5)=>zgI a0 k0 n n4 i5)
instance Ef111_5 {a0 k0 n n4 i5}:IsLp 0 2 (zgI a0 k0 n n4 i5) (zsl a0 k0) (n,n4,i5):=⟨rfl⟩
def zeV (a0:ByteArray)(N:Nat):Option (Int×Bool) :=
 zap zes λ k0 =>
 zgI a0 k0 N (0:Int) (0:Int)
def zkU (a0:ByteArray)(N:Nat):Lp (Unit) Unit (Int×Bool):=lp0 ⟨[0],[],[],[]⟩ (λ _=>[.dat (strN a0)]) (λ _=>[]) (λ _=>zeV a0 N)
instance Ef111_c3 {a0 N}:IsLp 0 0 (zeV a0 N) (zkU a0 N) ():=⟨rfl⟩
instance Cf111_c3 {a0 N}:IsCut 0 (zeV a0 N) (zkU a0 N) 3:=⟨⟩
def f111 (N:Nat)(a0:ByteArray):Option (Int×Bool) :=
 zap (zeV a0 N) λ k1 =>
 (f124 N (ByteArray.size a0:Int) (1:Int) (8:Int)).bind λ x4 =>
 bif !x4 then (some ((0:Int),false))
 else ((idxS a0 (0:Int)).bind λ x5 =>
 bif decide (x5=(48:Int)) then (bif decide ((1:Int)<(ByteArray.size a0:Int)) then (some ((0:Int),false))
 else k1)
 else k1)
def G111 (ds:List D)(d:D):Prop:=∃ (N:Nat) (a0:ByteArray) (r:Int×Bool),ds=[strN a0]/\f111 N a0=some r/\d = .tup [iN r.1,bN r.2]
theorem G111.lend {a0}{A:_->Option ρ}{K:D->Prop}(hd:ds=[strN a0])(h:∀ r,A r=some q->K (.tup [iN r.1,bN r.2]))(hF:(f111 N a0).bind A=some q):∃ d,(G111 ds d/\d.flatB=true)/\K d:=by
 obtain⟨r,hr,hA⟩:=bind_some hF;exact⟨_,⟨⟨N,a0,r,hd,hr,rfl⟩,rfl⟩,h r hA⟩
def f94 (N:Nat)(a0:Edition)(a1:Int):Option (Int) :=
 (sub a0.places a1 (List.length a0.places:Int)).bind λ x1 =>
 (f93 N x1).bind λ x2 =>
 some (x2)
def G94 (ds:List D)(d:D):Prop:=∃ (N:Nat) (a0:Edition) (a1:Int) (r:Int),ds=[Edition.d a0,iN a1]/\f94 N a0 a1=some r/\d=iN r
theorem G94.lend {a0 a1}{A:_->Option ρ}{K:D->Prop}(hd:ds=[Edition.d a0,iN a1])(h:∀ r,A r=some q->K (iN r))(hF:(f94 N a0 a1).bind A=some q):∃ d,(G94 ds d/\d.flatB=true)/\K d:=by
 obtain⟨r,hr,hA⟩:=bind_some hF;exact⟨_,⟨⟨N,a0,a1,r,hd,hr,rfl⟩,rfl⟩,h r hA⟩

end Go.Vc
namespace Go.Vc
open Go.Proofs
variable {N id:Nat} {ρ:Type} {q:ρ} {xs:List SV} {m:Nat->Blk} {l:List Loc} {ds:List D} {K:Dl->List Loc->Prop} {k0 k1 k2 k3 k4 k5 k6 k7 k8 k9 k10 k11 k12 k13 k14 k15 m0 m1 m2 m3 m4 m5:Nat}
def f107 (N:Nat)(a0:ByteArray):Option (Bool) :=
 (f61 N a0).bind λ x1 =>
 some (!x1)
def G107 (ds:List D)(d:D):Prop:=∃ (N:Nat) (a0:ByteArray) (r:Bool),ds=[strN a0]/\f107 N a0=some r/\d=bN r
theorem G107.lend {a0}{A:_->Option ρ}{K:D->Prop}(hd:ds=[strN a0])(h:∀ r,A r=some q->K (bN r))(hF:(f107 N a0).bind A=some q):∃ d,(G107 ds d/\d.flatB=true)/\K d:=by
 obtain⟨r,hr,hA⟩:=bind_some hF;exact⟨_,⟨⟨N,a0,r,hd,hr,rfl⟩,rfl⟩,h r hA⟩
def zaD (a0:List (List Int)):Option (Int) :=
 some ((0:Int))
def zbD (a0:List (List Int)):Lp (Unit) Unit (Int):=lp0 ⟨[],[0],[],[]⟩ (λ _=>[]) (λ _=>[.box [.dat (zar a0)]]) (λ _=>zaD a0)
instance zjP {a0}:IsLp 0 0 (zaD a0) (zbD a0) ():=⟨rfl⟩
instance zjQ {a0}:IsCut 0 (zaD a0) (zbD a0) 603000103000000007:=⟨⟩
def zbd (r2:Int->Option (Int))(a0:List (List Int))(a1:List Int)(N:Nat)(k0:Option (Int))(v8:Int):Option (Int) :=
 bif decide (v8<(List.length a1:Int)) then ((ix a1 v8).bind λ x2 =>
 (f117 N (0:Int) x2 (W ((List.length a0:Int)-(1:Int)))).bind λ x3 =>
 bif !x3 then (bif decide ((0:Int)<=v8) then (some ((4:Int)))
 else (some ((0:Int))))
 else (r2 (W (v8+(1:Int)))))
 else k0
def zaG (a0:List (List Int))(a1:List Int)(N:Nat)(k0:Option (Int)):Nat->Int->Option (Int)
 | 0,_=>none
 | n+1,v8=>zbd (zaG a0 a1 N k0 n) a0 a1 N k0 v8
def zcC (a0:List (List Int))(a1:List Int)(N:Nat)(k0:Option (Int)):Lp (Nat×Int) Unit (Int):=lp0 ⟨[0,1,7,8],[0],[],[]⟩ (λ (_,v8)=>[.dat (za3 a1), .fn 174 [] [.ptr 0 0], .dat (iN (List.length a1:Int)), .dat (iN v8)]) (λ (_,_)=>[.box [.dat (zar a0)]]) (λ (n,v8)=>zaG a0 a1 N k0 n v8)
instance zkV {a0 a1 N k0 n v8}:IsLp 0 1 (zaG a0 a1 N k0 n v8) (zcC a0 a1 N k0) (n,v8):=⟨rfl⟩
def f158 (N:Nat)(a0:List (List Int))(a1:List Int):Option (Int) :=
 (f116 N a0).bind λ x1 =>
 bif decide (¬ x1=(0:Int)) then (some (x1))
 else (bif decide ((12:Int)<(List.length a1:Int)) then (some ((2:Int)))
 else (zap (zaD a0) λ k0 =>
 zaG a0 a1 N k0 N (0:Int)))
def G158 (ds:List D)(d:D):Prop:=∃ (N:Nat) (a0:List (List Int)) (a1:List Int) (r:Int),ds=[zar a0,za3 a1]/\f158 N a0 a1=some r/\d=iN r
theorem G158.lend {a0 a1}{A:_->Option ρ}{K:D->Prop}(hd:ds=[zar a0,za3 a1])(h:∀ r,A r=some q->K (iN r))(hF:(f158 N a0 a1).bind A=some q):∃ d,(G158 ds d/\d.flatB=true)/\K d:=by
 obtain⟨r,hr,hA⟩:=bind_some hF;exact⟨_,⟨⟨N,a0,a1,r,hd,hr,rfl⟩,rfl⟩,h r hA⟩
def f84 (N:Nat):Option ((List (List Int))) :=
 (f119 N (10:Int) (3:Int)).bind λ x1 =>
 some (x1.1)
def G84 (ds:List D)(d:D):Prop:=∃ (N:Nat) (r:(List (List Int))),ds=[]/\f84 N  = some r/\d=zar r
theorem G84.step {A:_->Option ρ}{K:D->Prop}(hd:ds=[])(h:∀ r,A r=some q->K (zar r))(hF:(f84 N ).bind A=some q):∃ d,G84 ds d/\K d:=by
 obtain⟨r,hr,hA⟩:=bind_some hF;exact⟨_,⟨N,r,hd,hr,rfl⟩,h r hA⟩
def f32b (self:ByteArray->LB->LS->LE->LC->Option (Int×ByteArray×Int))(N:Nat)(s0:ByteArray)(s1:LB)(s2:LS)(s3:LE)(s4:LC):Option (Int×ByteArray×Int) :=
 (f61 N s0).bind λ x1 =>
 bif !x1 then (some ((0:Int),zaz,(8:Int)))
 else (onO (zas s0 s2) (some ((0:Int),zaz,(5:Int))) λ x2 =>
 (getF s2 x2).bind λ x3 =>
 onO x3.of (some (x3.thick,zaz,(0:Int))) λ x4 =>
 (getF s3 x4).bind λ x5 =>
 some (x3.thick,x5.name,(0:Int)))
def f32:Nat->ByteArray->LB->LS->LE->LC->Option (Int×ByteArray×Int)
 | 0,_,_,_,_,_=>none
 | N+1,s0,s1,s2,s3,s4=>f32b (f32 N) N s0 s1 s2 s3 s4
def Af32 (s0:ByteArray)(s1:LB)(s2:LS)(s3:LE)(s4:LC):List SV:=[.ptr 0 0, .dat (strN s0)]
def Bf32 (s0:ByteArray)(s1:LB)(s2:LS)(s3:LE)(s4:LC):List Blk:=[.box [.ptr 1 0, .rs 2 (List.length s1)], .box [.mp 3, .mp 4, .mp 5],(rW s1),(sW [4] s2),(eW s3),(mW s4)]
def Rf32 (y:Int×ByteArray×Int):List SV:=[.dat (iN y.1), .dat (strN y.2.1), .dat (iN y.2.2)]
def B1f32 (s0:ByteArray)(s1:LB)(s2:LS)(s3:LE)(s4:LC)(y:Int×ByteArray×Int):List Blk:=[.box [.ptr 1 0, .rs 2 (List.length s1)], .box [.mp 3, .mp 4, .mp 5],(rW s1),(sW [4] s2),(eW s3),(mW s4)]
def BZf32 (y:Int×ByteArray×Int):List Blk:=[]
def zsm:Spec (ByteArray×LB×LS×LE×LC) (Int×ByteArray×Int):=⟨6,[],λ x=>Af32 x.1 x.2.1 x.2.2.1 x.2.2.2.1 x.2.2.2.2,λ x=>Bf32 x.1 x.2.1 x.2.2.1 x.2.2.2.1 x.2.2.2.2,λ _ y=>Rf32 y,λ x y=>B1f32 x.1 x.2.1 x.2.2.1 x.2.2.2.1 x.2.2.2.2 y,λ _ y=>BZf32 y⟩
def H32 (N:Nat)(x:ByteArray×LB×LS×LE×LC)(y:Int×ByteArray×Int):Prop:=f32 N x.1 x.2.1 x.2.2.1 x.2.2.2.1 x.2.2.2.2=some y
def G32 (x:ByteArray×LB×LS×LE×LC)(y:Int×ByteArray×Int):Prop:=∃ N,H32 N x y
theorem G32.step {s0 s1 s2 s3 s4}{A:_->Option ρ}(ha:xs=[.ptr k0 0, .dat (strN s0)])(b0:m k0 = .box [.ptr k1 0, .rs k2 m0])(b1:m k1 = .box [.mp k3, .mp k4, .mp k5])(b2:m k2=(rW s1))(b3:m k3=(sW [k4] s2))(b4:m k4=(eW s3))(b5:m k5=(mW s4))(em0:m0=List.length s1)(hu:True)(hn:za0 [k0,k1,k2,k3,k4,k5]=true)(h:∀ y,A y=some q->K ⟨.tup [.dat (iN y.1), .dat (strN y.2.1), .dat (iN y.2.2)],[(k0, .box [.ptr k1 0, .rs k2 (List.length s1)]),(k1, .box [.mp k3, .mp k4, .mp k5]),(k2,(rW s1)),(k3,(sW [k4] s2)),(k4,(eW s3)),(k5,(mW s4))]⟩ ([Loc.b k0,Loc.b k1,Loc.b k2,Loc.b k3,Loc.b k4,Loc.b k5]++l))(hF:(f32 N s0 s1 s2 s3 s4).bind A=some q):effPg zsm (G32) xs id (λ _=>SV.no) m l K:=by
 subst em0;obtain⟨y,hy,hA⟩:=bind_some hF;exact zaO [k0,k1,k2,k3,k4,k5] (s0,s1,s2,s3,s4) y _ ⟨N,hy⟩ rfl hn ha (by simp only[List.map_cons,List.map_nil,b0,b1,b2,b3,b4,b5];rfl) rfl rfl rfl (h y hA)
def Srf32:Ann:=⟨[0,1,2],[0,1,2,3,4,5],[],[]⟩
def zzp:Ann:=⟨[0,1,2],[0,1,2,3,4,5],[],[]⟩
def f33b (self:ByteArray->LB->LS->LE->LC->Option ((List Int)×Int))(N:Nat)(s0:ByteArray)(s1:LB)(s2:LS)(s3:LE)(s4:LC):Option ((List Int)×Int) :=
 (f61 N s0).bind λ x1 =>
 bif !x1 then (some ([],(8:Int)))
 else (onO (zas s0 s3) (some ([],(5:Int))) λ x2 =>
 (getF s3 x2).bind λ x3 =>
 demB x3.places ((some ()).bind λ _ =>
 some ([],(0:Int)))
 ((app 8 [] x3.places).bind λ x4 =>
 (some ()).bind λ _ =>
 some (x4,(0:Int))))
def f33:Nat->ByteArray->LB->LS->LE->LC->Option ((List Int)×Int)
 | 0,_,_,_,_,_=>none
 | N+1,s0,s1,s2,s3,s4=>f33b (f33 N) N s0 s1 s2 s3 s4
def Af33 (s0:ByteArray)(s1:LB)(s2:LS)(s3:LE)(s4:LC):List SV:=[.ptr 0 0, .dat (strN s0)]
def Bf33 (s0:ByteArray)(s1:LB)(s2:LS)(s3:LE)(s4:LC):List Blk:=[.box [.ptr 1 0, .rs 2 (List.length s1)], .box [.mp 3, .mp 4, .mp 5],(rW s1),(sW [4] s2),(eW s3),(mW s4)]
def Rf33 (y:(List Int)×Int):List SV:=[.rs 500 (List.length y.1), .dat (iN y.2)]
def B1f33 (s0:ByteArray)(s1:LB)(s2:LS)(s3:LE)(s4:LC)(y:(List Int)×Int):List Blk:=[.box [.ptr 1 0, .rs 2 (List.length s1)], .box [.mp 3, .mp 4, .mp 5],(rW s1),(sW [4] s2),(eW s3),(mW s4)]
def BZf33 (y:(List Int)×Int):List Blk:=[.row 3 1 (List.map iN y.1)]
def zsn:Spec (ByteArray×LB×LS×LE×LC) ((List Int)×Int):=⟨6,[500],λ x=>Af33 x.1 x.2.1 x.2.2.1 x.2.2.2.1 x.2.2.2.2,λ x=>Bf33 x.1 x.2.1 x.2.2.1 x.2.2.2.1 x.2.2.2.2,λ _ y=>Rf33 y,λ x y=>B1f33 x.1 x.2.1 x.2.2.1 x.2.2.2.1 x.2.2.2.2 y,λ _ y=>BZf33 y⟩
def H33 (N:Nat)(x:ByteArray×LB×LS×LE×LC)(y:(List Int)×Int):Prop:=f33 N x.1 x.2.1 x.2.2.1 x.2.2.2.1 x.2.2.2.2=some y
def G33 (x:ByteArray×LB×LS×LE×LC)(y:(List Int)×Int):Prop:=∃ N,H33 N x y
theorem G33.step {s0 s1 s2 s3 s4}{A:_->Option ρ}(ha:xs=[.ptr k0 0, .dat (strN s0)])(b0:m k0 = .box [.ptr k1 0, .rs k2 m0])(b1:m k1 = .box [.mp k3, .mp k4, .mp k5])(b2:m k2=(rW s1))(b3:m k3=(sW [k4] s2))(b4:m k4=(eW s3))(b5:m k5=(mW s4))(em0:m0=List.length s1)(hu:(zc2 id 1).map m=List.replicate 1 .unborn)(hn:za0 [k0,k1,k2,k3,k4,k5]=true)(h:∀ y,A y=some q->K ⟨.tup [.rs (id+BIG*0) (List.length y.1), .dat (iN y.2)],[(k0, .box [.ptr k1 0, .rs k2 (List.length s1)]),(k1, .box [.mp k3, .mp k4, .mp k5]),(k2,(rW s1)),(k3,(sW [k4] s2)),(k4,(eW s3)),(k5,(mW s4)),(id, .row 3 1 (List.map iN y.1))]⟩ ([Loc.b k0,Loc.b k1,Loc.b k2,Loc.b k3,Loc.b k4,Loc.b k5,Loc.b id]++l))(hF:(f33 N s0 s1 s2 s3 s4).bind A=some q):effPg zsn (G33) xs id (λ _=>SV.no) m l K:=by
 subst em0;obtain⟨y,hy,hA⟩:=bind_some hF;exact zaO [k0,k1,k2,k3,k4,k5] (s0,s1,s2,s3,s4) y _ ⟨N,hy⟩ rfl hn ha (by simp only[List.map_cons,List.map_nil,b0,b1,b2,b3,b4,b5];rfl) hu rfl rfl (h y hA)
def Srf33:Ann:=⟨[0,1],[0,1,2,3,4,5,500],[(.slot 0,500,3,1)],[]⟩
def zzq:Ann:=⟨[0,1],[0,1,2,3,4,5],[],[]⟩
def f34b (self:ByteArray->LB->LS->LE->LC->Option (Tally×Int))(N:Nat)(s0:ByteArray)(s1:LB)(s2:LS)(s3:LE)(s4:LC):Option (Tally×Int) :=
 (f61 N s0).bind λ x1 =>
 bif !x1 then (some ((Tally.mk (0:Int) (0:Int) (0:Int) (0:Int) (0:Int)),(8:Int)))
 else (onO (zas s0 s3) (some ((Tally.mk (0:Int) (0:Int) (0:Int) (0:Int) (0:Int)),(5:Int))) λ x2 =>
 (getF s3 x2).bind λ x3 =>
 (f64 N x3 x3.from_).bind λ x4 =>
 (f64 N x3 (0:Int)).bind λ x5 =>
 some ((Tally.mk x3.paper x3.delivered x3.spoilt (W (x5-x4)) x4),(0:Int)))
def f34:Nat->ByteArray->LB->LS->LE->LC->Option (Tally×Int)
 | 0,_,_,_,_,_=>none
 | N+1,s0,s1,s2,s3,s4=>f34b (f34 N) N s0 s1 s2 s3 s4
def Af34 (s0:ByteArray)(s1:LB)(s2:LS)(s3:LE)(s4:LC):List SV:=[.ptr 0 0, .dat (strN s0)]
def Bf34 (s0:ByteArray)(s1:LB)(s2:LS)(s3:LE)(s4:LC):List Blk:=[.box [.ptr 1 0, .rs 2 (List.length s1)], .box [.mp 3, .mp 4, .mp 5],(rW s1),(sW [4] s2),(eW s3),(mW s4)]
def Rf34 (y:Tally×Int):List SV:=[.dat (Tally.d y.1), .dat (iN y.2)]
def B1f34 (s0:ByteArray)(s1:LB)(s2:LS)(s3:LE)(s4:LC)(y:Tally×Int):List Blk:=[.box [.ptr 1 0, .rs 2 (List.length s1)], .box [.mp 3, .mp 4, .mp 5],(rW s1),(sW [4] s2),(eW s3),(mW s4)]
def BZf34 (y:Tally×Int):List Blk:=[]
def zso:Spec (ByteArray×LB×LS×LE×LC) (Tally×Int):=⟨6,[],λ x=>Af34 x.1 x.2.1 x.2.2.1 x.2.2.2.1 x.2.2.2.2,λ x=>Bf34 x.1 x.2.1 x.2.2.1 x.2.2.2.1 x.2.2.2.2,λ _ y=>Rf34 y,λ x y=>B1f34 x.1 x.2.1 x.2.2.1 x.2.2.2.1 x.2.2.2.2 y,λ _ y=>BZf34 y⟩
def H34 (N:Nat)(x:ByteArray×LB×LS×LE×LC)(y:Tally×Int):Prop:=f34 N x.1 x.2.1 x.2.2.1 x.2.2.2.1 x.2.2.2.2=some y
def G34 (x:ByteArray×LB×LS×LE×LC)(y:Tally×Int):Prop:=∃ N,H34 N x y
theorem G34.step {s0 s1 s2 s3 s4}{A:_->Option ρ}(ha:xs=[.ptr k0 0, .dat (strN s0)])(b0:m k0 = .box [.ptr k1 0, .rs k2 m0])(b1:m k1 = .box [.mp k3, .mp k4, .mp k5])(b2:m k2=(rW s1))(b3:m k3=(sW [k4] s2))(b4:m k4=(eW s3))(b5:m k5=(mW s4))(em0:m0=List.length s1)(hu:True)(hn:za0 [k0,k1,k2,k3,k4,k5]=true)(h:∀ y,A y=some q->K ⟨.tup [.dat (Tally.d y.1), .dat (iN y.2)],[(k0, .box [.ptr k1 0, .rs k2 (List.length s1)]),(k1, .box [.mp k3, .mp k4, .mp k5]),(k2,(rW s1)),(k3,(sW [k4] s2)),(k4,(eW s3)),(k5,(mW s4))]⟩ ([Loc.b k0,Loc.b k1,Loc.b k2,Loc.b k3,Loc.b k4,Loc.b k5]++l))(hF:(f34 N s0 s1 s2 s3 s4).bind A=some q):effPg zso (G34) xs id (λ _=>SV.no) m l K:=by
 subst em0;obtain⟨y,hy,hA⟩:=bind_some hF;exact zaO [k0,k1,k2,k3,k4,k5] (s0,s1,s2,s3,s4) y _ ⟨N,hy⟩ rfl hn ha (by simp only[List.map_cons,List.map_nil,b0,b1,b2,b3,b4,b5];rfl) rfl rfl rfl (h y hA)
def Srf34:Ann:=⟨[0,1],[0,1,2,3,4,5],[],[]⟩
def zzr:Ann:=⟨[0,1],[0,1,2,3,4,5],[],[]⟩
def f36b (self:ByteArray->ByteArray->LB->LS->LE->LC->Option (Int×Int))(N:Nat)(s0:ByteArray)(s1:ByteArray)(s2:LB)(s3:LS)(s4:LE)(s5:LC):Option (Int×Int) :=
 (f61 N s0).bind λ x1 =>
 bif !x1 then (some ((0:Int),(8:Int)))
 else ((f61 N s1).bind λ x2 =>
 bif !x2 then (some ((0:Int),(8:Int)))
 else (onO (zas s1 s4) (some ((0:Int),(5:Int))) λ x3 =>
 (getF s4 x3).bind λ x4 =>
 (some (za2 (0:Int) s0 x4.owed)).bind λ x5 =>
 (some ()).bind λ _ =>
 bif !x5.2 then (some ((0:Int),(5:Int)))
 else (some (x5.1,(0:Int)))))
def f36:Nat->ByteArray->ByteArray->LB->LS->LE->LC->Option (Int×Int)
 | 0,_,_,_,_,_,_=>none
 | N+1,s0,s1,s2,s3,s4,s5=>f36b (f36 N) N s0 s1 s2 s3 s4 s5
def Af36 (s0:ByteArray)(s1:ByteArray)(s2:LB)(s3:LS)(s4:LE)(s5:LC):List SV:=[.ptr 0 0, .dat (strN s0), .dat (strN s1)]
def Bf36 (s0:ByteArray)(s1:ByteArray)(s2:LB)(s3:LS)(s4:LE)(s5:LC):List Blk:=[.box [.ptr 1 0, .rs 2 (List.length s2)], .box [.mp 3, .mp 4, .mp 5],(rW s2),(sW [4] s3),(eW s4),(mW s5)]
def Rf36 (y:Int×Int):List SV:=[.dat (iN y.1), .dat (iN y.2)]
def B1f36 (s0:ByteArray)(s1:ByteArray)(s2:LB)(s3:LS)(s4:LE)(s5:LC)(y:Int×Int):List Blk:=[.box [.ptr 1 0, .rs 2 (List.length s2)], .box [.mp 3, .mp 4, .mp 5],(rW s2),(sW [4] s3),(eW s4),(mW s5)]
def BZf36 (y:Int×Int):List Blk:=[]
def zsp:Spec (ByteArray×ByteArray×LB×LS×LE×LC) (Int×Int):=⟨6,[],λ x=>Af36 x.1 x.2.1 x.2.2.1 x.2.2.2.1 x.2.2.2.2.1 x.2.2.2.2.2,λ x=>Bf36 x.1 x.2.1 x.2.2.1 x.2.2.2.1 x.2.2.2.2.1 x.2.2.2.2.2,λ _ y=>Rf36 y,λ x y=>B1f36 x.1 x.2.1 x.2.2.1 x.2.2.2.1 x.2.2.2.2.1 x.2.2.2.2.2 y,λ _ y=>BZf36 y⟩
def H36 (N:Nat)(x:ByteArray×ByteArray×LB×LS×LE×LC)(y:Int×Int):Prop:=f36 N x.1 x.2.1 x.2.2.1 x.2.2.2.1 x.2.2.2.2.1 x.2.2.2.2.2=some y
def G36 (x:ByteArray×ByteArray×LB×LS×LE×LC)(y:Int×Int):Prop:=∃ N,H36 N x y
theorem G36.step {s0 s1 s2 s3 s4 s5}{A:_->Option ρ}(ha:xs=[.ptr k0 0, .dat (strN s0), .dat (strN s1)])(b0:m k0 = .box [.ptr k1 0, .rs k2 m0])(b1:m k1 = .box [.mp k3, .mp k4, .mp k5])(b2:m k2=(rW s2))(b3:m k3=(sW [k4] s3))(b4:m k4=(eW s4))(b5:m k5=(mW s5))(em0:m0=List.length s2)(hu:True)(hn:za0 [k0,k1,k2,k3,k4,k5]=true)(h:∀ y,A y=some q->K ⟨.tup [.dat (iN y.1), .dat (iN y.2)],[(k0, .box [.ptr k1 0, .rs k2 (List.length s2)]),(k1, .box [.mp k3, .mp k4, .mp k5]),(k2,(rW s2)),(k3,(sW [k4] s3)),(k4,(eW s4)),(k5,(mW s5))]⟩ ([Loc.b k0,Loc.b k1,Loc.b k2,Loc.b k3,Loc.b k4,Loc.b k5]++l))(hF:(f36 N s0 s1 s2 s3 s4 s5).bind A=some q):effPg zsp (G36) xs id (λ _=>SV.no) m l K:=by
 subst em0;obtain⟨y,hy,hA⟩:=bind_some hF;exact zaO [k0,k1,k2,k3,k4,k5] (s0,s1,s2,s3,s4,s5) y _ ⟨N,hy⟩ rfl hn ha (by simp only[List.map_cons,List.map_nil,b0,b1,b2,b3,b4,b5];rfl) rfl rfl rfl (h y hA)
def Srf36:Ann:=⟨[0,1],[0,1,2,3,4,5],[],[]⟩
def zzs:Ann:=⟨[0,1],[0,1,2,3,4,5],[],[]⟩
def f40b (self:ByteArray->LB->LS->LE->LC->Option (Int×Int))(N:Nat)(s0:ByteArray)(s1:LB)(s2:LS)(s3:LE)(s4:LC):Option (Int×Int) :=
 (f61 N s0).bind λ x1 =>
 bif !x1 then (some ((0:Int),(8:Int)))
 else (onO (zas s0 s3) (some ((0:Int),(5:Int))) λ x2 =>
 (getF s3 x2).bind λ x3 =>
 (f64 N x3 x3.from_).bind λ x4 =>
 some (max (0:Int) (W (x3.open_-x4)),(0:Int)))
def f40:Nat->ByteArray->LB->LS->LE->LC->Option (Int×Int)
 | 0,_,_,_,_,_=>none
 | N+1,s0,s1,s2,s3,s4=>f40b (f40 N) N s0 s1 s2 s3 s4
def Af40 (s0:ByteArray)(s1:LB)(s2:LS)(s3:LE)(s4:LC):List SV:=[.ptr 0 0, .dat (strN s0)]
def Bf40 (s0:ByteArray)(s1:LB)(s2:LS)(s3:LE)(s4:LC):List Blk:=[.box [.ptr 1 0, .rs 2 (List.length s1)], .box [.mp 3, .mp 4, .mp 5],(rW s1),(sW [4] s2),(eW s3),(mW s4)]
def Rf40 (y:Int×Int):List SV:=[.dat (iN y.1), .dat (iN y.2)]
def B1f40 (s0:ByteArray)(s1:LB)(s2:LS)(s3:LE)(s4:LC)(y:Int×Int):List Blk:=[.box [.ptr 1 0, .rs 2 (List.length s1)], .box [.mp 3, .mp 4, .mp 5],(rW s1),(sW [4] s2),(eW s3),(mW s4)]
def BZf40 (y:Int×Int):List Blk:=[]
def zsq:Spec (ByteArray×LB×LS×LE×LC) (Int×Int):=⟨6,[],λ x=>Af40 x.1 x.2.1 x.2.2.1 x.2.2.2.1 x.2.2.2.2,λ x=>Bf40 x.1 x.2.1 x.2.2.1 x.2.2.2.1 x.2.2.2.2,λ _ y=>Rf40 y,λ x y=>B1f40 x.1 x.2.1 x.2.2.1 x.2.2.2.1 x.2.2.2.2 y,λ _ y=>BZf40 y⟩
def H40 (N:Nat)(x:ByteArray×LB×LS×LE×LC)(y:Int×Int):Prop:=f40 N x.1 x.2.1 x.2.2.1 x.2.2.2.1 x.2.2.2.2=some y
def G40 (x:ByteArray×LB×LS×LE×LC)(y:Int×Int):Prop:=∃ N,H40 N x y
theorem G40.step {s0 s1 s2 s3 s4}{A:_->Option ρ}(ha:xs=[.ptr k0 0, .dat (strN s0)])(b0:m k0 = .box [.ptr k1 0, .rs k2 m0])(b1:m k1 = .box [.mp k3, .mp k4, .mp k5])(b2:m k2=(rW s1))(b3:m k3=(sW [k4] s2))(b4:m k4=(eW s3))(b5:m k5=(mW s4))(em0:m0=List.length s1)(hu:True)(hn:za0 [k0,k1,k2,k3,k4,k5]=true)(h:∀ y,A y=some q->K ⟨.tup [.dat (iN y.1), .dat (iN y.2)],[(k0, .box [.ptr k1 0, .rs k2 (List.length s1)]),(k1, .box [.mp k3, .mp k4, .mp k5]),(k2,(rW s1)),(k3,(sW [k4] s2)),(k4,(eW s3)),(k5,(mW s4))]⟩ ([Loc.b k0,Loc.b k1,Loc.b k2,Loc.b k3,Loc.b k4,Loc.b k5]++l))(hF:(f40 N s0 s1 s2 s3 s4).bind A=some q):effPg zsq (G40) xs id (λ _=>SV.no) m l K:=by
 subst em0;obtain⟨y,hy,hA⟩:=bind_some hF;exact zaO [k0,k1,k2,k3,k4,k5] (s0,s1,s2,s3,s4) y _ ⟨N,hy⟩ rfl hn ha (by simp only[List.map_cons,List.map_nil,b0,b1,b2,b3,b4,b5];rfl) rfl rfl rfl (h y hA)
def Srf40:Ann:=⟨[0,1],[0,1,2,3,4,5],[],[]⟩
def zzt:Ann:=⟨[0,1],[0,1,2,3,4,5],[],[]⟩
def ziO (out3:ByteArray):Option (ByteArray) :=
 some (out3)
def zoc:Lp (ByteArray) Unit (ByteArray):=lp0 ⟨[3],[],[],[]⟩ (λ out3=>[.dat (strN out3)]) (λ _=>[]) (λ out3=>ziO out3)
instance Ef24_c8 {out3}:IsLp 0 1 (ziO out3) (zoc) out3:=⟨rfl⟩
instance Cf24_c8:IsCut 1 (ziO) (zoc) 8:=⟨⟩
def zpe (r5:ByteArray->Int->Option (ByteArray))(a0:BookM)(N:Nat)(k0:ByteArray->Option (ByteArray))(out3:ByteArray)(i4:Int):Option (ByteArray) :=
 bif decide (i4<(List.length a0.lines:Int)) then ((ix a0.lines i4).bind λ x5 =>
 (addS x5 (strC [32])).bind λ x6 =>
 (ix a0.lines i4).bind λ x7 =>
 (f59 N x7).bind λ x8 =>
 (addS x6 x8).bind λ x9 =>
 (addS x9 (strC [10])).bind λ x10 =>
 (addS out3 x10).bind λ x11 =>
 r5 x11 (W (i4+(1:Int))))
 else (k0 out3)
def zmX (a0:BookM)(N:Nat)(k0:ByteArray->Option (ByteArray)):Nat->ByteArray->Int->Option (ByteArray)
 | 0,_,_=>none
 | n+1,out3,i4=>zpe (zmX a0 N k0 n) a0 N k0 out3 i4
def zvH (a0:BookM)(N:Nat)(k0:ByteArray->Option (ByteArray)):Lp (Nat×ByteArray×Int) Unit (ByteArray):=lp0 ⟨[0,3,4],[],[],[]⟩ (λ (_,out3,i4)=>[.ep [bN a0.made,zau a0.lines], .dat (strN out3), .dat (iN i4)]) (λ (_,_,_)=>[]) (λ (n,out3,i4)=>zmX a0 N k0 n out3 i4)
instance Ef24_5 {a0 N k0 n out3 i4}:IsLp 0 2 (zmX a0 N k0 n out3 i4) (zvH a0 N k0) (n,out3,i4):=⟨rfl⟩
def f24 (N:Nat)(a0:BookM):Option (ByteArray) :=
 (f55 N a0).bind λ x1 =>
 bif x1 then (some (zaz))
 else ((f30 N (List.length a0.lines:Int)).bind λ x2 =>
 (addS (strC [116,117,115,99,104,101,32]) x2).bind λ x3 =>
 (addS x3 (strC [10])).bind λ x4 =>
 zap ziO λ k0 =>
 zmX a0 N k0 N x4 (0:Int))
def G24 (ds:List D)(d:D):Prop:=∃ (N:Nat) (a0:BookM) (r:ByteArray),ds=[BookM.pt a0]/\f24 N a0=some r/\d=strN r
theorem G24.lend {a0}{A:_->Option ρ}{K:D->Prop}(hd:ds=[BookM.pt a0])(h:∀ r,A r=some q->K (strN r))(hF:(f24 N a0).bind A=some q):∃ d,(G24 ds d/\d.flatB=true)/\K d:=by
 obtain⟨r,hr,hA⟩:=bind_some hF;exact⟨_,⟨⟨N,a0,r,hd,hr,rfl⟩,rfl⟩,h r hA⟩
def zf4 (x4:ByteArray)(x5:LB)(b1108_2:List Int):Option (Order×Int) :=
 some ((Order.mk x4 x5 b1108_2),(0:Int))
def zkW (x4:ByteArray)(x5:LB)(b1108_2:List Int):Lp (Unit) (Nat×Unit) (Order×Int):=lpm ⟨[2,8],[0,1108,90500],[],[]⟩ (λ _=>zf4 x4 x5 b1108_2) (λ _ (_,_)=>[.ptr 0 0, .ptr 1108 0]) (λ _ (m0,_)=>[.box [.dat (strN zaz), .nil, .nil], .box [.dat (strN x4), .dat (zau x5), .rs 90500 m0], .row 3 1 (List.map iN b1108_2)]) λ _=>(List.length b1108_2,())
instance Ef80_c34 {x4 x5 b1108_2}:IsLp 1 0 (zf4 x4 x5 b1108_2) (zkW x4 x5 b1108_2) ():=⟨rfl⟩
instance Cf80_c34 {x4 x5 b1108_2}:IsCut 0 (zf4 x4 x5 b1108_2) (zkW x4 x5 b1108_2) 34:=⟨⟩
def zkX (r30:Int->Option (Order×Int))(N:Nat)(x3:Int×Int×Bool)(x4:ByteArray)(x5:LB)(b1108_2:List Int)(v13:Int)(v14:Int)(k0:Option (Order×Int))(v15:Int):Option (Order×Int) :=
 bif decide (v15<x3.2.1) then ((ix b1108_2 v15).bind λ x6 =>
 (f71 N x6 v13 v14).bind λ x7 =>
 bif !x7 then (some ((Order.mk zaz [] []),(4:Int)))
 else (r30 (W (v15+(1:Int)))))
 else k0
def zfG (N:Nat)(x3:Int×Int×Bool)(x4:ByteArray)(x5:LB)(b1108_2:List Int)(v13:Int)(v14:Int)(k0:Option (Order×Int)):Nat->Int->Option (Order×Int)
 | 0,_=>none
 | n+1,v15=>zkX (zfG N x3 x4 x5 b1108_2 v13 v14 k0 n) N x3 x4 x5 b1108_2 v13 v14 k0 v15
def zsr (N:Nat)(x3:Int×Int×Bool)(x4:ByteArray)(x5:LB)(b1108_2:List Int)(v13:Int)(v14:Int)(k0:Option (Order×Int)):Lp (Nat×Int) (Nat×Unit) (Order×Int):=lpm ⟨[2,7,8,13,14,15],[0,1108,90500],[],[]⟩ (λ (n,v15)=>zfG N x3 x4 x5 b1108_2 v13 v14 k0 n v15) (λ (_,v15) (_,_)=>[.ptr 0 0, .dat (iN x3.2.1), .ptr 1108 0, .dat (iN v13), .dat (iN v14), .dat (iN v15)]) (λ (_,_) (m0,_)=>[.box [.dat (strN zaz), .nil, .nil], .box [.dat (strN x4), .dat (zau x5), .rs 90500 m0], .row 3 1 (List.map iN b1108_2)]) λ (_,_)=>(List.length b1108_2,())
instance Ef80_30 {N x3 x4 x5 b1108_2 v13 v14 k0 n v15}:IsLp 1 1 (zfG N x3 x4 x5 b1108_2 v13 v14 k0 n v15) (zsr N x3 x4 x5 b1108_2 v13 v14 k0) (n,v15):=⟨rfl⟩
def zf5 (N:Nat)(x3:Int×Int×Bool)(x4:ByteArray)(x5:LB)(b1108_2:List Int)(v13:Int)(v14:Int):Option (Order×Int) :=
 zap (zf4 x4 x5 b1108_2) λ k0 =>
 zfG N x3 x4 x5 b1108_2 v13 v14 k0 N (0:Int)
def zkY (N:Nat)(x3:Int×Int×Bool)(x4:ByteArray)(x5:LB)(b1108_2:List Int)(v13:Int):Lp (Int) (Nat×Unit) (Order×Int):=lpm ⟨[2,7,8,13,14],[0,1108,90500],[],[]⟩ (λ v14=>zf5 N x3 x4 x5 b1108_2 v13 v14) (λ v14 (_,_)=>[.ptr 0 0, .dat (iN x3.2.1), .ptr 1108 0, .dat (iN v13), .dat (iN v14)]) (λ _ (m0,_)=>[.box [.dat (strN zaz), .nil, .nil], .box [.dat (strN x4), .dat (zau x5), .rs 90500 m0], .row 3 1 (List.map iN b1108_2)]) λ _=>(List.length b1108_2,())
instance Ef80_c29 {N x3 x4 x5 b1108_2 v13 v14}:IsLp 1 1 (zf5 N x3 x4 x5 b1108_2 v13 v14) (zkY N x3 x4 x5 b1108_2 v13) v14:=⟨rfl⟩
instance Cf80_c29 {N x3 x4 x5 b1108_2 v13}:IsCut 1 (zf5 N x3 x4 x5 b1108_2 v13) (zkY N x3 x4 x5 b1108_2 v13) 29:=⟨⟩
def ziP (N:Nat)(x3:Int×Int×Bool)(x4:ByteArray)(x5:LB)(b1108_2:List Int)(v13:Int):Option (Order×Int) :=
 zap (zf5 N x3 x4 x5 b1108_2 v13) λ k1 =>
 bif decide (x4=(strC [115,116,111,110,101])) then (k1 (99:Int))
 else (k1 (5000:Int))
def zkZ (N:Nat)(x3:Int×Int×Bool)(x4:ByteArray)(x5:LB)(b1108_2:List Int):Lp (Int) (Nat×Unit) (Order×Int):=lpm ⟨[2,7,8,13,14],[0,1108,90500],[],[]⟩ (λ v13=>ziP N x3 x4 x5 b1108_2 v13) (λ v13 (_,_)=>[.ptr 0 0, .dat (iN x3.2.1), .ptr 1108 0, .dat (iN v13), .dat (iN (5000:Int))]) (λ _ (m0,_)=>[.box [.dat (strN zaz), .nil, .nil], .box [.dat (strN x4), .dat (zau x5), .rs 90500 m0], .row 3 1 (List.map iN b1108_2)]) λ _=>(List.length b1108_2,())
instance Ef80_c27 {N x3 x4 x5 b1108_2 v13}:IsLp 1 1 (ziP N x3 x4 x5 b1108_2 v13) (zkZ N x3 x4 x5 b1108_2) v13:=⟨rfl⟩
instance Cf80_c27 {N x3 x4 x5 b1108_2}:IsCut 1 (ziP N x3 x4 x5 b1108_2) (zkZ N x3 x4 x5 b1108_2) 27:=⟨⟩
def zf6 (N:Nat)(x3:Int×Int×Bool)(x4:ByteArray)(x5:LB)(b1108_2:List Int):Option (Order×Int) :=
 zap (ziP N x3 x4 x5 b1108_2) λ k2 =>
 bif decide (x4=(strC [112,114,105,110,116])) then (k2 (0:Int))
 else (k2 (1:Int))
def zk0 (N:Nat)(x3:Int×Int×Bool)(x4:ByteArray)(x5:LB)(b1108_2:List Int):Lp (Unit) (Nat×Unit) (Order×Int):=lpm ⟨[2,7,8],[0,1108,90500],[],[]⟩ (λ _=>zf6 N x3 x4 x5 b1108_2) (λ _ (_,_)=>[.ptr 0 0, .dat (iN x3.2.1), .ptr 1108 0]) (λ _ (m0,_)=>[.box [.dat (strN zaz), .nil, .nil], .box [.dat (strN x4), .dat (zau x5), .rs 90500 m0], .row 3 1 (List.map iN b1108_2)]) λ _=>(List.length b1108_2,())
instance Ef80_c24 {N x3 x4 x5 b1108_2}:IsLp 1 0 (zf6 N x3 x4 x5 b1108_2) (zk0 N x3 x4 x5 b1108_2) ():=⟨rfl⟩
instance Cf80_c24 {N x3 x4 x5 b1108_2}:IsCut 0 (zf6 N x3 x4 x5 b1108_2) (zk0 N x3 x4 x5 b1108_2) 24:=⟨⟩
def zk1 (r20:Int->Option (Order×Int))(N:Nat)(x3:Int×Int×Bool)(x4:ByteArray)(x5:LB)(b1108_2:List Int)(k3:Option (Order×Int))(v12:Int):Option (Order×Int) :=
 bif decide (v12<x3.1) then ((ix x5 v12).bind λ x8 =>
 (f89 N x8).bind λ x9 =>
 bif !x9 then (some ((Order.mk zaz [] []),(8:Int)))
 else (r20 (W (v12+(1:Int)))))
 else k3
def zhs (N:Nat)(x3:Int×Int×Bool)(x4:ByteArray)(x5:LB)(b1108_2:List Int)(k3:Option (Order×Int)):Nat->Int->Option (Order×Int)
 | 0,_=>none
 | n+1,v12=>zk1 (zhs N x3 x4 x5 b1108_2 k3 n) N x3 x4 x5 b1108_2 k3 v12
def zss (N:Nat)(x3:Int×Int×Bool)(x4:ByteArray)(x5:LB)(b1108_2:List Int)(k3:Option (Order×Int)):Lp (Nat×Int) (Nat×Unit) (Order×Int):=lpm ⟨[2,6,7,8,12],[0,1108,90500],[],[]⟩ (λ (n,v12)=>zhs N x3 x4 x5 b1108_2 k3 n v12) (λ (_,v12) (_,_)=>[.ptr 0 0, .dat (iN x3.1), .dat (iN x3.2.1), .ptr 1108 0, .dat (iN v12)]) (λ (_,_) (m0,_)=>[.box [.dat (strN zaz), .nil, .nil], .box [.dat (strN x4), .dat (zau x5), .rs 90500 m0], .row 3 1 (List.map iN b1108_2)]) λ (_,_)=>(List.length b1108_2,())
instance Ef80_20 {N x3 x4 x5 b1108_2 k3 n v12}:IsLp 1 1 (zhs N x3 x4 x5 b1108_2 k3 n v12) (zss N x3 x4 x5 b1108_2 k3) (n,v12):=⟨rfl⟩
def zf7 (N:Nat)(x3:Int×Int×Bool)(x4:ByteArray)(x5:LB)(b1108_2:List Int):Option (Order×Int) :=
 zap (zf6 N x3 x4 x5 b1108_2) λ k3 =>
 zhs N x3 x4 x5 b1108_2 k3 N (0:Int)
def zk2 (N:Nat)(x3:Int×Int×Bool)(x4:ByteArray)(x5:LB):Lp ((List Int)) (Nat×Unit) (Order×Int):=lpm ⟨[2,6,7,8],[0,1108,90500],[(.cell 1108 2,90500,3,1)],[]⟩ (λ b1108_2=>zf7 N x3 x4 x5 b1108_2) (λ _ (_,_)=>[.ptr 0 0, .dat (iN x3.1), .dat (iN x3.2.1), .ptr 1108 0]) (λ b1108_2 (m0,_)=>[.box [.dat (strN zaz), .nil, .nil], .box [.dat (strN x4), .dat (zau x5), .rs 90500 m0], .row 3 1 (List.map iN b1108_2)]) λ b1108_2=>(List.length b1108_2,())
instance Ef80_c19 {N x3 x4 x5 b1108_2}:IsLp 1 1 (zf7 N x3 x4 x5 b1108_2) (zk2 N x3 x4 x5) b1108_2:=⟨rfl⟩
instance Cf80_c19 {N x3 x4 x5}:IsCut 1 (zf7 N x3 x4 x5) (zk2 N x3 x4 x5) 19:=⟨⟩
def zk3 (r13:Int->(List Int)->Option (Order×Int))(N:Nat)(x1:LB×Bool)(x3:Int×Int×Bool)(x4:ByteArray)(x5:LB)(k4:(List Int)->Option (Order×Int))(v9:Int)(b1108_2:List Int):Option (Order×Int) :=
 bif decide (v9<x3.2.1) then ((ix x1.1 (W ((W ((1:Int)+x3.1))+v9))).bind λ x10 =>
 (f111 N x10).bind λ x11 =>
 bif !x11.2 then (some ((Order.mk zaz [] []),(9:Int)))
 else ((app 8 b1108_2 [x11.1]).bind λ x12 =>
 r13 (W (v9+(1:Int))) x12))
 else (k4 b1108_2)
def zgJ (N:Nat)(x1:LB×Bool)(x3:Int×Int×Bool)(x4:ByteArray)(x5:LB)(k4:(List Int)->Option (Order×Int)):Nat->Int->(List Int)->Option (Order×Int)
 | 0,_,_=>none
 | n+1,v9,b1108_2=>zk3 (zgJ N x1 x3 x4 x5 k4 n) N x1 x3 x4 x5 k4 v9 b1108_2
def zst (N:Nat)(x1:LB×Bool)(x3:Int×Int×Bool)(x4:ByteArray)(x5:LB)(k4:(List Int)->Option (Order×Int)):Lp (Nat×Int×(List Int)) (Nat×Unit) (Order×Int):=lpm ⟨[2,4,6,7,8,9],[0,1108,90500],[(.cell 1108 2,90500,3,1)],[]⟩ (λ (n,v9,b1108_2)=>zgJ N x1 x3 x4 x5 k4 n v9 b1108_2) (λ (_,v9,_) (_,_)=>[.ptr 0 0, .dat (zau x1.1), .dat (iN x3.1), .dat (iN x3.2.1), .ptr 1108 0, .dat (iN v9)]) (λ (_,_,b1108_2) (m0,_)=>[.box [.dat (strN zaz), .nil, .nil], .box [.dat (strN x4), .dat (zau x5), .rs 90500 m0], .row 3 1 (List.map iN b1108_2)]) λ (_,_,b1108_2)=>(List.length b1108_2,())
instance Ef80_13 {N x1 x3 x4 x5 k4 n v9 b1108_2}:IsLp 1 2 (zgJ N x1 x3 x4 x5 k4 n v9 b1108_2) (zst N x1 x3 x4 x5 k4) (n,v9,b1108_2):=⟨rfl⟩
def f80 (N:Nat)(a0:ByteArray):Option (Order×Int) :=
 bif decide ((40:Int)<(ByteArray.size a0:Int)) then (some ((Order.mk zaz [] []),(19:Int)))
 else ((f109 N a0).bind λ x1 =>
 bif !x1.2 then (some ((Order.mk zaz [] []),(9:Int)))
 else ((ix x1.1 (0:Int)).bind λ x2 =>
 (f110 N x2).bind λ x3 =>
 bif !x3.2.2 then (some ((Order.mk zaz [] []),(10:Int)))
 else (bif decide (¬ (List.length x1.1:Int)=(W ((W ((1:Int)+x3.1))+x3.2.1))) then (some ((Order.mk zaz [] []),(9:Int)))
 else ((ix x1.1 (0:Int)).bind λ x4 =>
 (sub x1.1 (1:Int) (W ((1:Int)+x3.1))).bind λ x5 =>
 zap (zf7 N x3 x4 x5) λ k4 =>
 zgJ N x1 x3 x4 x5 k4 N (0:Int) []))))
def G80 (ds:List D)(d:D):Prop:=∃ (N:Nat) (a0:ByteArray) (r:Order×Int),ds=[strN a0]/\f80 N a0=some r/\d = .tup [Order.d r.1,iN r.2]
theorem G80.step {a0}{A:_->Option ρ}{K:D->Prop}(hd:ds=[strN a0])(h:∀ r,A r=some q->K (.tup [Order.d r.1,iN r.2]))(hF:(f80 N a0).bind A=some q):∃ d,G80 ds d/\K d:=by
 obtain⟨r,hr,hA⟩:=bind_some hF;exact⟨_,⟨N,a0,r,hd,hr,rfl⟩,h r hA⟩
def zfs (a0:StateS)(a1:Order)(N:Nat)(x3:Stone):Option (Int) :=
 (f112 N a0 x3.on).bind λ x7 =>
 (ix a0.editions x7).bind λ x8 =>
 bif decide (a1.what=(strC [112,114,105,110,116])) then ((ix a1.n (0:Int)).bind λ x9 =>
 (ix a1.n (1:Int)).bind λ x10 =>
 (ix x8.places x3.place).bind λ x11 =>
 bif decide (x11<(W (x9+x10))) then (some ((16:Int)))
 else (some ((0:Int))))
 else (bif !x8.closed then (some ((22:Int)))
 else ((f94 N x8 (max x8.ground (W (x3.place+(1:Int))))).bind λ x12 =>
 (f94 N x8 x8.ground).bind λ x13 =>
 bif decide (x12<x13) then ((f126 N a0 x8.name).bind λ x14 =>
 bif decide (x12<x14) then (some ((12:Int)))
 else (bif decide (x3.thick=(1:Int)) then (some ((13:Int)))
 else (some ((0:Int)))))
 else (bif decide (x3.thick=(1:Int)) then (some ((13:Int)))
 else (some ((0:Int))))))
def ziQ (a0:StateS)(a1:Order)(N:Nat)(x3:Stone):Lp (Unit) Unit (Int):=lp0 ⟨[2,3,6],[0,1,1005],[],[]⟩ (λ _=>[.ptr 0 0, .ptr 1 0, .ptr 1005 0]) (λ _=>[.box [.dat (zb2 a0.stones), .dat (zbg a0.editions), .dat (zbA a0.claims)], .box [.dat (strN a1.what), .dat (zau a1.names), .dat (za3 a1.n)], .box [.dat (strN x3.name), .dat (iN x3.thick), .dat (strN x3.on), .dat (iN x3.place)]]) (λ _=>zfs a0 a1 N x3)
instance zzu {a0 a1 N x3}:IsLp 0 0 (zfs a0 a1 N x3) (ziQ a0 a1 N x3) ():=⟨rfl⟩
instance zzv {a0 a1 N x3}:IsCut 0 (zfs a0 a1 N x3) (ziQ a0 a1 N x3) 22:=⟨⟩
def f113 (N:Nat)(a0:StateS)(a1:Order):Option (Int) :=
 (ix a1.names (0:Int)).bind λ x1 =>
 (f91 N a0 x1).bind λ x2 =>
 bif decide (a1.what=(strC [115,116,111,110,101])) then (bif decide ((0:Int)<=x2) then (some ((6:Int)))
 else (bif decide ((List.length a0.stones:Int)=(8:Int)) then (some ((2:Int)))
 else (some ((0:Int)))))
 else (bif decide (x2<(0:Int)) then (some ((5:Int)))
 else ((ix a0.stones x2).bind λ x3 =>
 bif decide (a1.what=(strC [100,114,97,119])) then ((ix a1.names (1:Int)).bind λ x4 =>
 (f112 N a0 x4).bind λ x5 =>
 bif decide (x5<(0:Int)) then (some ((5:Int)))
 else (bif decide (¬ x3.on=zaz) then (some ((20:Int)))
 else ((ix a0.editions x5).bind λ x6 =>
 bif x6.closed then (some ((21:Int)))
 else (some ((0:Int))))))
 else (zap (zfs a0 a1 N x3) λ k0 =>
 bif decide (x3.on=zaz) then (some ((1:Int)))
 else (bif decide (a1.what=(strC [112,114,105,110,116])) then ((ix a1.n (0:Int)).bind λ x15 =>
 (ix a1.n (1:Int)).bind λ x16 =>
 bif decide ((W (x15+x16))=(0:Int)) then (some ((1:Int)))
 else k0)
 else k0))))
def G113 (ds:List D)(d:D):Prop:=∃ (N:Nat) (a0:StateS) (a1:Order) (r:Int),ds=[StateS.d a0,Order.d a1]/\f113 N a0 a1=some r/\d=iN r
theorem G113.lend {a0 a1}{A:_->Option ρ}{K:D->Prop}(hd:ds=[StateS.d a0,Order.d a1])(h:∀ r,A r=some q->K (iN r))(hF:(f113 N a0 a1).bind A=some q):∃ d,(G113 ds d/\d.flatB=true)/\K d:=by
 obtain⟨r,hr,hA⟩:=bind_some hF;exact⟨_,⟨⟨N,a0,a1,r,hd,hr,rfl⟩,rfl⟩,h r hA⟩
def zcR (a0:StateS)(a1:Order)(N:Nat)(x6:Edition):Option (Int) :=
 (f126 N a0 x6.name).bind λ x9 =>
 (ix a1.n (0:Int)).bind λ x10 =>
 (f94 N x6 x6.ground).bind λ x11 =>
 bif decide (x11<(W (x9+x10))) then (some ((16:Int)))
 else (some ((0:Int)))
def ziR (a0:StateS)(a1:Order)(N:Nat)(x6:Edition):Lp (Unit) Unit (Int):=lp0 ⟨[2,3,7],[0,1,505],[],[]⟩ (λ _=>[.ptr 0 0, .ptr 1 0, .ptr 505 0]) (λ _=>[.box [.dat (zb2 a0.stones), .dat (zbg a0.editions), .dat (zbA a0.claims)], .box [.dat (strN a1.what), .dat (zau a1.names), .dat (za3 a1.n)], .box [.dat (strN x6.name), .kb x6.closed, .dat (za3 x6.places), .dat (iN x6.ground), .dat (iN x6.paper), .dat (iN x6.delivered), .dat (iN x6.spoilt)]]) (λ _=>zcR a0 a1 N x6)
instance zzw {a0 a1 N x6}:IsLp 0 0 (zcR a0 a1 N x6) (ziR a0 a1 N x6) ():=⟨rfl⟩
instance zzx {a0 a1 N x6}:IsCut 0 (zcR a0 a1 N x6) (ziR a0 a1 N x6) 10:=⟨⟩
def zg8 (a0:StateS)(a1:Order)(N:Nat)(x2:Int)(x5:Int):Option (Int) :=
 (ix a0.editions x2).bind λ x6 =>
 bif decide (a1.what=(strC [99,108,97,105,109])) then ((ix a1.names (0:Int)).bind λ x7 =>
 (f139 N a0 x7).bind λ x8 =>
 zap (zcR a0 a1 N x6) λ k0 =>
 bif !x8.2 then (bif decide (x8.1=(6:Int)) then (some ((2:Int)))
 else k0)
 else k0)
 else (bif !x6.closed then (some ((22:Int)))
 else ((ix a1.n (0:Int)).bind λ x12 =>
 (ix a0.claims x5).bind λ x13 =>
 (ix a0.claims x5).bind λ x14 =>
 bif decide ((W (x13.claimed-x14.got))<x12) then (some ((14:Int)))
 else ((ix a1.n (0:Int)).bind λ x15 =>
 (ix x6.places (W ((List.length x6.places:Int)-(1:Int)))).bind λ x16 =>
 bif decide (x16<x15) then (some ((16:Int)))
 else (some ((0:Int))))))
def zk4 (a0:StateS)(a1:Order)(N:Nat)(x2:Int)(x5:Int):Lp (Unit) Unit (Int):=lp0 ⟨[2,3,5,6],[0,1],[],[]⟩ (λ _=>[.ptr 0 0, .ptr 1 0, .dat (iN x2), .dat (iN x5)]) (λ _=>[.box [.dat (zb2 a0.stones), .dat (zbg a0.editions), .dat (zbA a0.claims)], .box [.dat (strN a1.what), .dat (zau a1.names), .dat (za3 a1.n)]]) (λ _=>zg8 a0 a1 N x2 x5)
instance Ef114_c5 {a0 a1 N x2 x5}:IsLp 0 0 (zg8 a0 a1 N x2 x5) (zk4 a0 a1 N x2 x5) ():=⟨rfl⟩
instance Cf114_c5 {a0 a1 N x2 x5}:IsCut 0 (zg8 a0 a1 N x2 x5) (zk4 a0 a1 N x2 x5) 5:=⟨⟩
def f114 (N:Nat)(a0:StateS)(a1:Order):Option (Int) :=
 (ix a1.names (1:Int)).bind λ x1 =>
 (f112 N a0 x1).bind λ x2 =>
 (ix a1.names (0:Int)).bind λ x3 =>
 (ix a1.names (1:Int)).bind λ x4 =>
 (f95 N a0 x3 x4).bind λ x5 =>
 zap (zg8 a0 a1 N x2 x5) λ k1 =>
 bif decide (x2<(0:Int)) then (some ((5:Int)))
 else (bif decide (a1.what=(strC [100,101,108,105,118,101,114])) then (bif decide (x5<(0:Int)) then (some ((5:Int)))
 else k1)
 else k1)
def G114 (ds:List D)(d:D):Prop:=∃ (N:Nat) (a0:StateS) (a1:Order) (r:Int),ds=[StateS.d a0,Order.d a1]/\f114 N a0 a1=some r/\d=iN r
theorem G114.lend {a0 a1}{A:_->Option ρ}{K:D->Prop}(hd:ds=[StateS.d a0,Order.d a1])(h:∀ r,A r=some q->K (iN r))(hF:(f114 N a0 a1).bind A=some q):∃ d,(G114 ds d/\d.flatB=true)/\K d:=by
 obtain⟨r,hr,hA⟩:=bind_some hF;exact⟨_,⟨⟨N,a0,a1,r,hd,hr,rfl⟩,rfl⟩,h r hA⟩
def zht (a0:ByteArray)(N:Nat):Option (ByteArray×Int) :=
 (subS a0 (W ((W ((ByteArray.size a0:Int)-(6:Int)))+(1:Int))) (ByteArray.size a0:Int)).bind λ x2 =>
 (f86 N x2).bind λ x3 =>
 bif decide (¬ x3=(0:Int)) then (some (zaz,(13:Int)))
 else ((subS a0 0 (W ((ByteArray.size a0:Int)-(6:Int)))).bind λ x4 =>
 (f59 N x4).bind λ x5 =>
 (subS a0 (W ((W ((ByteArray.size a0:Int)-(6:Int)))+(1:Int))) (ByteArray.size a0:Int)).bind λ x6 =>
 bif decide (¬ x5=x6) then (some (zaz,(17:Int)))
 else ((subS a0 0 (W ((ByteArray.size a0:Int)-(6:Int)))).bind λ x7 =>
 some (x7,(0:Int))))
def zod (a0:ByteArray)(N:Nat):Lp (Unit) Unit (ByteArray×Int):=lp0 ⟨[0,4],[],[],[]⟩ (λ _=>[.dat (strN a0), .dat (iN (W ((ByteArray.size a0:Int)-(6:Int))))]) (λ _=>[]) (λ _=>zht a0 N)
instance Ef76_c9 {a0 N}:IsLp 0 0 (zht a0 N) (zod a0 N) ():=⟨rfl⟩
instance Cf76_c9 {a0 N}:IsCut 0 (zht a0 N) (zod a0 N) 9:=⟨⟩
def zpf (r5:Int->Option (ByteArray×Int))(a0:ByteArray)(k0:Option (ByteArray×Int))(i5:Int):Option (ByteArray×Int) :=
 bif decide (i5<(ByteArray.size a0:Int)) then ((idxS a0 i5).bind λ x8 =>
 bif decide (x8<(48:Int)) then (some (zaz,(9:Int)))
 else ((idxS a0 i5).bind λ x9 =>
 bif decide ((57:Int)<x9) then (some (zaz,(9:Int)))
 else (r5 (W (i5+(1:Int))))))
 else k0
def zmY (a0:ByteArray)(k0:Option (ByteArray×Int)):Nat->Int->Option (ByteArray×Int)
 | 0,_=>none
 | n+1,i5=>zpf (zmY a0 k0 n) a0 k0 i5
def zvI (a0:ByteArray)(k0:Option (ByteArray×Int)):Lp (Nat×Int) Unit (ByteArray×Int):=lp0 ⟨[0,4,5],[],[],[]⟩ (λ (_,i5)=>[.dat (strN a0), .dat (iN (W ((ByteArray.size a0:Int)-(6:Int)))), .dat (iN i5)]) (λ (_,_)=>[]) (λ (n,i5)=>zmY a0 k0 n i5)
instance Ef76_5 {a0 k0 n i5}:IsLp 0 1 (zmY a0 k0 n i5) (zvI a0 k0) (n,i5):=⟨rfl⟩
def f76 (N:Nat)(a0:ByteArray):Option (ByteArray×Int) :=
 bif decide ((W ((ByteArray.size a0:Int)-(6:Int)))<(0:Int)) then (some (zaz,(9:Int)))
 else ((idxS a0 (W ((ByteArray.size a0:Int)-(6:Int)))).bind λ x1 =>
 bif decide (¬ x1=(32:Int)) then (some (zaz,(9:Int)))
 else (zap (zht a0 N) λ k0 =>
 zmY a0 k0 N (W ((W ((ByteArray.size a0:Int)-(6:Int)))+(1:Int)))))
def G76 (ds:List D)(d:D):Prop:=∃ (N:Nat) (a0:ByteArray) (r:ByteArray×Int),ds=[strN a0]/\f76 N a0=some r/\d = .tup [strN r.1,iN r.2]
theorem G76.lend {a0}{A:_->Option ρ}{K:D->Prop}(hd:ds=[strN a0])(h:∀ r,A r=some q->K (.tup [strN r.1,iN r.2]))(hF:(f76 N a0).bind A=some q):∃ d,(G76 ds d/\d.flatB=true)/\K d:=by
 obtain⟨r,hr,hA⟩:=bind_some hF;exact⟨_,⟨⟨N,a0,r,hd,hr,rfl⟩,rfl⟩,h r hA⟩

end Go.Vc
namespace Go.Vc
open Go.Proofs
variable {N id:Nat} {ρ:Type} {q:ρ} {xs:List SV} {m:Nat->Blk} {l:List Loc} {ds:List D} {K:Dl->List Loc->Prop} {k0 k1 k2 k3 k4 k5 k6 k7 k8 k9 k10 k11 k12 k13 k14 k15 m0 m1 m2 m3 m4 m5:Nat}
def zeW (N:Nat)(x1:LB×Bool)(b2500:List Int):Option (I97×Int) :=
 (A2iN.of b2500).bind λ x2 =>
 (f108 N x1.1 x2).bind λ x3 =>
 some (x3,(0:Int))
def zk5 (N:Nat)(x1:LB×Bool)(b2500:List Int):Lp (Unit) Unit (I97×Int):=lp0 ⟨[4,8],[2500],[],[]⟩ (λ _=>[.dat (zau x1.1), .ptr 2500 0]) (λ _=>[.arr (List.map iN b2500)]) (λ _=>zeW N x1 b2500)
instance Ef79_c47 {N x1 b2500}:IsLp 0 0 (zeW N x1 b2500) (zk5 N x1 b2500) ():=⟨rfl⟩
instance Cf79_c47 {N x1 b2500}:IsCut 0 (zeW N x1 b2500) (zk5 N x1 b2500) 47:=⟨⟩
def zg9 (r42:Int->Option (I97×Int))(x1:LB×Bool)(v7:Int)(b2500:List Int)(v11:Int)(v12:Int)(k0:Option (I97×Int))(v94:Int):Option (I97×Int) :=
 bif decide (v94<(Int.toNat v7:Int)) then ((chkI (Int.toNat v7) v94).bind λ _ =>
 (ixN b2500 (Int.toNat v94)).bind λ x4 =>
 bif decide (x4<v11) then (some (I97.nil,(4:Int)))
 else (bif decide (v12<x4) then (some (I97.nil,(4:Int)))
 else (r42 (W (v94+(1:Int))))))
 else k0
def zd7 (x1:LB×Bool)(v7:Int)(b2500:List Int)(v11:Int)(v12:Int)(k0:Option (I97×Int)):Nat->Int->Option (I97×Int)
 | 0,_=>none
 | n+1,v94=>zg9 (zd7 x1 v7 b2500 v11 v12 k0 n) x1 v7 b2500 v11 v12 k0 v94
def zsu (x1:LB×Bool)(v7:Int)(b2500:List Int)(v11:Int)(v12:Int)(k0:Option (I97×Int)):Lp (Nat×Int) Unit (I97×Int):=lp0 ⟨[4,8,11,12,92,93,94],[2500],[],[]⟩ (λ (_,v94)=>[.dat (zau x1.1), .ptr 2500 0, .dat (iN v11), .dat (iN v12), .as 2500 (Int.toNat v7), .dat (iN (Int.toNat v7:Int)), .dat (iN v94)]) (λ (_,_)=>[.arr (List.map iN b2500)]) (λ (n,v94)=>zd7 x1 v7 b2500 v11 v12 k0 n v94)
instance Ef79_42 {x1 v7 b2500 v11 v12 k0 n v94}:IsLp 0 1 (zd7 x1 v7 b2500 v11 v12 k0 n v94) (zsu x1 v7 b2500 v11 v12 k0) (n,v94):=⟨rfl⟩
def zet (N:Nat)(x1:LB×Bool)(v7:Int)(b2500:List Int)(v11:Int)(v12:Int):Option (I97×Int) :=
 zap (zeW N x1 b2500) λ k0 =>
 (arS 2 v7).bind λ _ =>
 zd7 x1 v7 b2500 v11 v12 k0 N (0:Int)
def zk6 (N:Nat)(x1:LB×Bool)(v7:Int)(b2500:List Int):Lp (Int×Int) Unit (I97×Int):=lp0 ⟨[4,7,8,11,12],[2500],[],[]⟩ (λ (v11,v12)=>[.dat (zau x1.1), .dat (iN v7), .ptr 2500 0, .dat (iN v11), .dat (iN v12)]) (λ (_,_)=>[.arr (List.map iN b2500)]) (λ (v11,v12)=>zet N x1 v7 b2500 v11 v12)
instance Ef79_c41 {N x1 v7 b2500 v11 v12}:IsLp 0 2 (zet N x1 v7 b2500 v11 v12) (zk6 N x1 v7 b2500) (v11,v12):=⟨rfl⟩
instance Cf79_c41 {N x1 v7 b2500}:IsCut 2 (zet N x1 v7 b2500) (zk6 N x1 v7 b2500) 41:=⟨⟩
def zeX (N:Nat)(x1:LB×Bool)(v7:Int)(b2500:List Int):Option (I97×Int) :=
 zap (zet N x1 v7 b2500) λ k1 =>
 (ix x1.1 (0:Int)).bind λ x5 =>
 bif decide (x5=(strC [112,114,105,110,116])) then (k1 (0:Int) (5000:Int))
 else (bif decide (x5=(strC [115,116,111,110,101])) then (k1 (1:Int) (99:Int))
 else (k1 (1:Int) (5000:Int)))
def zk7 (N:Nat)(x1:LB×Bool)(v7:Int)(b2500:List Int):Lp (Unit) Unit (I97×Int):=lp0 ⟨[4,7,8],[2500],[],[]⟩ (λ _=>[.dat (zau x1.1), .dat (iN v7), .ptr 2500 0]) (λ _=>[.arr (List.map iN b2500)]) (λ _=>zeX N x1 v7 b2500)
instance Ef79_c35 {N x1 v7 b2500}:IsLp 0 0 (zeX N x1 v7 b2500) (zk7 N x1 v7 b2500) ():=⟨rfl⟩
instance Cf79_c35 {N x1 v7 b2500}:IsCut 0 (zeX N x1 v7 b2500) (zk7 N x1 v7 b2500) 35:=⟨⟩
def zaA (b2500:List Int)(k2:Option (I97×Int)):Option (I97×Int) :=
 k2
def zbs (b2500:List Int)(k2:Option (I97×Int)):Lp (Unit) Unit (I97×Int):=lp0 ⟨[],[2500],[],[]⟩ (λ _=>[]) (λ _=>[.arr (List.map iN b2500)]) (λ _=>zaA b2500 k2)
instance zjk {b2500 k2}:IsLp 0 0 (zaA b2500 k2) (zbs b2500 k2) ():=⟨rfl⟩
instance zjl {b2500 k2}:IsCut 0 (zaA b2500 k2) (zbs b2500 k2) 3305000103000000007:=⟨⟩
def zaP (r2:Int->Option (I97×Int))(N:Nat)(b2500:List Int)(k2:Option (I97×Int))(x6:LB)(k3:Option (I97×Int))(v8:Int):Option (I97×Int) :=
 bif decide (v8<(List.length x6:Int)) then ((ix x6 v8).bind λ x7 =>
 (f107 N x7).bind λ x8 =>
 bif x8 then (bif decide ((0:Int)<=v8) then (some (I97.nil,(8:Int)))
 else k2)
 else (r2 (W (v8+(1:Int)))))
 else k3
def zav (N:Nat)(b2500:List Int)(k2:Option (I97×Int))(x6:LB)(k3:Option (I97×Int)):Nat->Int->Option (I97×Int)
 | 0,_=>none
 | n+1,v8=>zaP (zav N b2500 k2 x6 k3 n) N b2500 k2 x6 k3 v8
def zcq (N:Nat)(b2500:List Int)(k2:Option (I97×Int))(x6:LB)(k3:Option (I97×Int)):Lp (Nat×Int) Unit (I97×Int):=lp0 ⟨[0,1,7,8],[2500],[],[]⟩ (λ (_,v8)=>[.dat (zau x6), .dat (.v (.func (.func 107) #[] #[])), .dat (iN (List.length x6:Int)), .dat (iN v8)]) (λ (_,_)=>[.arr (List.map iN b2500)]) (λ (n,v8)=>zav N b2500 k2 x6 k3 n v8)
instance zjR {N b2500 k2 x6 k3 n v8}:IsLp 0 1 (zav N b2500 k2 x6 k3 n v8) (zcq N b2500 k2 x6 k3) (n,v8):=⟨rfl⟩
def zf8 (N:Nat)(x1:LB×Bool)(v6:Int)(v7:Int)(b2500:List Int):Option (I97×Int) :=
 zap (zeX N x1 v7 b2500) λ k2 =>
 (sub x1.1 (1:Int) (W ((1:Int)+v6))).bind λ x6 =>
 zap (zaA b2500 k2) λ k3 =>
 zav N b2500 k2 x6 k3 N (0:Int)
def zk8 (N:Nat)(x1:LB×Bool)(v6:Int)(v7:Int):Lp ((List Int)) Unit (I97×Int):=lp0 ⟨[4,6,7,8],[2500],[],[]⟩ (λ _=>[.dat (zau x1.1), .dat (iN v6), .dat (iN v7), .ptr 2500 0]) (λ b2500=>[.arr (List.map iN b2500)]) (λ b2500=>zf8 N x1 v6 v7 b2500)
instance Ef79_c33 {N x1 v6 v7 b2500}:IsLp 0 1 (zf8 N x1 v6 v7 b2500) (zk8 N x1 v6 v7) b2500:=⟨rfl⟩
instance Cf79_c33 {N x1 v6 v7}:IsCut 1 (zf8 N x1 v6 v7) (zk8 N x1 v6 v7) 33:=⟨⟩
def zh (r27:Int->(List Int)->Option (I97×Int))(N:Nat)(x1:LB×Bool)(v6:Int)(v7:Int)(k4:(List Int)->Option (I97×Int))(x9:LB)(v64:Int)(b2500:List Int):Option (I97×Int) :=
 bif decide (v64<(List.length x9:Int)) then ((ix x9 v64).bind λ x10 =>
 (f105 N x10).bind λ x11 =>
 (chkI 2 v64).bind λ _ =>
 (setN b2500 (Int.toNat v64) x11.1).bind λ x12 =>
 bif !x11.2 then (some (I97.nil,(9:Int)))
 else (r27 (W (v64+(1:Int))) x12))
 else (k4 b2500)
def zeY (N:Nat)(x1:LB×Bool)(v6:Int)(v7:Int)(k4:(List Int)->Option (I97×Int))(x9:LB):Nat->Int->(List Int)->Option (I97×Int)
 | 0,_,_=>none
 | n+1,v64,b2500=>zh (zeY N x1 v6 v7 k4 x9 n) N x1 v6 v7 k4 x9 v64 b2500
def zsv (N:Nat)(x1:LB×Bool)(v6:Int)(v7:Int)(k4:(List Int)->Option (I97×Int))(x9:LB):Lp (Nat×Int×(List Int)) Unit (I97×Int):=lp0 ⟨[4,6,7,8,62,63,64],[2500],[],[]⟩ (λ (_,v64,_)=>[.dat (zau x1.1), .dat (iN v6), .dat (iN v7), .ptr 2500 0, .dat (zau x9), .dat (iN (List.length x9:Int)), .dat (iN v64)]) (λ (_,_,b2500)=>[.arr (List.map iN b2500)]) (λ (n,v64,b2500)=>zeY N x1 v6 v7 k4 x9 n v64 b2500)
instance Ef79_27 {N x1 v6 v7 k4 x9 n v64 b2500}:IsLp 0 2 (zeY N x1 v6 v7 k4 x9 n v64 b2500) (zsv N x1 v6 v7 k4 x9) (n,v64,b2500):=⟨rfl⟩
def zdm (N:Nat)(x1:LB×Bool)(v6:Int)(v7:Int):Option (I97×Int) :=
 bif decide (¬ (List.length x1.1:Int)=(W ((W ((1:Int)+v6))+v7))) then (some (I97.nil,(9:Int)))
 else (zap (zf8 N x1 v6 v7) λ k4 =>
 (sub x1.1 (W ((1:Int)+v6)) (List.length x1.1:Int)).bind λ x9 =>
 zeY N x1 v6 v7 k4 x9 N (0:Int) (List.replicate 2 (0:Int)))
def zk9 (N:Nat)(x1:LB×Bool):Lp (Int×Int) Unit (I97×Int):=lp0 ⟨[4,6,7],[],[],[]⟩ (λ (v6,v7)=>[.dat (zau x1.1), .dat (iN v6), .dat (iN v7)]) (λ (_,_)=>[]) (λ (v6,v7)=>zdm N x1 v6 v7)
instance Ef79_c23 {N x1 v6 v7}:IsLp 0 2 (zdm N x1 v6 v7) (zk9 N x1) (v6,v7):=⟨rfl⟩
instance Cf79_c23 {N x1}:IsCut 2 (zdm N x1) (zk9 N x1) 23:=⟨⟩
def f79 (N:Nat)(a0:ByteArray):Option (I97×Int) :=
 bif decide ((40:Int)<(ByteArray.size a0:Int)) then (some (I97.nil,(19:Int)))
 else ((f104 N a0).bind λ x1 =>
 bif !x1.2 then (some (I97.nil,(9:Int)))
 else (zap (zdm N x1) λ k5 =>
 (ix x1.1 (0:Int)).bind λ x13 =>
 bif decide (x13=(strC [112,114,105,110,116])) then (k5 (W ((0:Int)+(1:Int))) (W ((W ((0:Int)+(1:Int)))+(1:Int))))
 else (bif decide (x13=(strC [115,116,111,110,101])) then (k5 (W ((0:Int)+(1:Int))) (W ((0:Int)+(1:Int))))
 else (bif decide (x13=(strC [112,97,112,101,114])) then (k5 (W ((0:Int)+(1:Int))) (W ((0:Int)+(1:Int))))
 else (bif decide (x13=(strC [101,100,105,116,105,111,110])) then (k5 (W ((0:Int)+(1:Int))) (0:Int))
 else (bif decide (x13=(strC [99,108,111,115,101])) then (k5 (W ((0:Int)+(1:Int))) (0:Int))
 else (bif decide (x13=(strC [103,114,105,110,100])) then (k5 (W ((0:Int)+(1:Int))) (0:Int))
 else (bif decide (x13=(strC [99,108,97,105,109])) then (k5 (W ((0:Int)+(2:Int))) (W ((0:Int)+(1:Int))))
 else (bif decide (x13=(strC [100,101,108,105,118,101,114])) then (k5 (W ((0:Int)+(2:Int))) (W ((0:Int)+(1:Int))))
 else (bif decide (x13=(strC [100,114,97,119])) then (k5 (W ((0:Int)+(2:Int))) (0:Int))
 else (some (I97.nil,(10:Int)))))))))))))
def G79 (ds:List D)(d:D):Prop:=∃ (N:Nat) (a0:ByteArray) (r:I97×Int),ds=[strN a0]/\f79 N a0=some r/\d = .tup [I97.d r.1,iN r.2]
theorem G79.step {a0}{A:_->Option ρ}{K:D->Prop}(hd:ds=[strN a0])(h:∀ r,A r=some q->K (.tup [I97.d r.1,iN r.2]))(hF:(f79 N a0).bind A=some q):∃ d,G79 ds d/\K d:=by
 obtain⟨r,hr,hA⟩:=bind_some hF;exact⟨_,⟨N,a0,r,hd,hr,rfl⟩,h r hA⟩
def f146 (N:Nat)(a0:List (List Int))(a1:List Int):Option (Int×Int) :=
 (f158 N a0 a1).bind λ x1 =>
 bif decide (¬ x1=(0:Int)) then (some ((0:Int),x1))
 else ((f132 N a0 (0:Int) a1).bind λ x2 =>
 some (x2,(0:Int)))
def G146 (ds:List D)(d:D):Prop:=∃ (N:Nat) (a0:List (List Int)) (a1:List Int) (r:Int×Int),ds=[zar a0,za3 a1]/\f146 N a0 a1=some r/\d = .tup [iN r.1,iN r.2]
theorem G146.lend {a0 a1}{A:_->Option ρ}{K:D->Prop}(hd:ds=[zar a0,za3 a1])(h:∀ r,A r=some q->K (.tup [iN r.1,iN r.2]))(hF:(f146 N a0 a1).bind A=some q):∃ d,(G146 ds d/\d.flatB=true)/\K d:=by
 obtain⟨r,hr,hA⟩:=bind_some hF;exact⟨_,⟨⟨N,a0,a1,r,hd,hr,rfl⟩,rfl⟩,h r hA⟩
def ziS (b101_0:List Stone)(b101_1:List Edition)(b101_2:List ClaimS):Option (StateS) :=
 some ((StateS.mk b101_0 b101_1 b101_2))
def zoe:Lp ((List Stone)×(List Edition)×(List ClaimS)) (Nat×Nat×Nat) (StateS):=lpm ⟨[2,3],[0,101,90520,90540,90560],[(.cell 101 0,90520,153,4),(.cell 101 1,90540,155,1048583),(.cell 101 2,90560,162,4)],[]⟩ (λ (b101_0,b101_1,b101_2)=>ziS b101_0 b101_1 b101_2) (λ (_,_,_) (_,_,_)=>[.ptr 0 0, .ptr 101 0]) (λ (b101_0,b101_1,b101_2) (m0,m1,m2)=>[.box [.nil, .nil, .nil], .box [.rs 90520 m0, .rs 90540 m1, .rs 90560 m2], .row 153 4 (List.map Stone.d b101_0), .sn 155 7 true none (List.map Edition.mc b101_1), .row 162 4 (List.map ClaimS.d b101_2)]) λ (b101_0,b101_1,b101_2)=>(List.length b101_0,List.length b101_1,List.length b101_2)
instance Ef90_c7 {b101_0 b101_1 b101_2}:IsLp 3 3 (ziS b101_0 b101_1 b101_2) (zoe) (b101_0,b101_1,b101_2):=⟨rfl⟩
instance Cf90_c7:IsCut 3 (ziS) (zoe) 7:=⟨⟩
def zbF (i4:Int)(b101_0:List Stone)(b101_1:List Edition)(r3:Int->(List Stone)->(List Edition)->(List ClaimS)->Option (StateS))(x2:Order×Int)(v10:Int)(b0_2:List ClaimS):Option (StateS) :=
 (ix b0_2 v10).bind λ x56 =>
 (ix x2.1.n (0:Int)).bind λ x57 =>
 (ix b0_2 v10).bind λ x58 =>
 (setx b0_2 v10 (ClaimS.mk x58.customer x58.edition (W (x56.claimed+x57)) x58.got)).bind λ x59 =>
 r3 (W (i4+(1:Int))) b101_0 b101_1 x59
def zeu (i4:Int)(b101_0:List Stone)(b101_1:List Edition)(r3:Int->(List Stone)->(List Edition)->(List ClaimS)->Option (StateS))(x2:Order×Int):Lp (Int×(List ClaimS)) (Nat×Nat×Nat×Nat×Nat) (StateS):=lpm ⟨[2,3,4,10],[0,101,508,90520,90540,90560,zAH,603000001,603000002,603090500],[(.cell zAH 2,603090500,162,4),(.cell 101 2,603099999,0,2097152)],[]⟩ (λ (v10,b0_2)=>zbF i4 b101_0 b101_1 r3 x2 v10 b0_2) (λ (v10,_) (_,_,_,_,_)=>[.ptr zAH 0, .ptr 603000001 0, .ptr 603000002 0, .dat (iN v10)]) (λ (_,b0_2) (m0,m1,m2,m3,m4)=>[.box [.nil, .nil, .nil], .box [.rs 90520 m0, .rs 90540 m1, .no], .box [.dat (strN x2.1.what), .dat (zau x2.1.names), .dat (za3 x2.1.n)], .row 153 4 (List.map Stone.d b101_0), .sn 155 7 true none (List.map Edition.mc b101_1), .dead, .box [.rs 90520 m2, .rs 90540 m3, .rs 603090500 m4], .box [.dat (strN x2.1.what), .dat (zau x2.1.names), .dat (za3 x2.1.n)], .box [.nil, .nil, .nil], .row 162 4 (List.map ClaimS.d b0_2)]) λ (_,b0_2)=>(List.length b101_0,List.length b101_1,List.length b101_0,List.length b101_1,List.length b0_2)
instance zuJ {i4 b101_0 b101_1 r3 x2 v10 b0_2}:IsLp 5 2 (zbF i4 b101_0 b101_1 r3 x2 v10 b0_2) (zeu i4 b101_0 b101_1 r3 x2) (v10,b0_2):=⟨rfl⟩
instance zuK {i4 b101_0 b101_1 r3 x2}:IsCut 2 (zbF i4 b101_0 b101_1 r3 x2) (zeu i4 b101_0 b101_1 r3 x2) 603000000029:=⟨⟩
def zaY (N:Nat)(i4:Int)(b101_0:List Stone)(b101_1:List Edition)(b101_2:List ClaimS)(r3:Int->(List Stone)->(List Edition)->(List ClaimS)->Option (StateS))(x2:Order×Int)(x3:ByteArray)(x4:Int)(v7:Int):Option (StateS) :=
 bif decide (x2.1.what=(strC [115,116,111,110,101])) then ((ix x2.1.n (0:Int)).bind λ x6 =>
 (app 48 b101_0 [(Stone.mk x3 x6 zaz (0:Int))]).bind λ x7 =>
 r3 (W (i4+(1:Int))) x7 b101_1 b101_2)
 else (bif decide (x2.1.what=(strC [101,100,105,116,105,111,110])) then ((app 80 b101_1 [(Edition.mk x3 false [(0:Int)] (0:Int) (0:Int) (0:Int) (0:Int))]).bind λ x8 =>
 r3 (W (i4+(1:Int))) b101_0 x8 b101_2)
 else (bif decide (x2.1.what=(strC [100,114,97,119])) then ((ix x2.1.names (1:Int)).bind λ x9 =>
 (ix b101_1 v7).bind λ x10 =>
 (ix b101_0 x4).bind λ x11 =>
 (setx b101_0 x4 (Stone.mk x11.name x11.thick x9 x11.place)).bind λ x12 =>
 (ix x12 x4).bind λ x13 =>
 (setx x12 x4 (Stone.mk x13.name x13.thick x13.on (W ((List.length x10.places:Int)-(1:Int))))).bind λ x14 =>
 (setx b101_1 v7 x10).bind λ x15 =>
 (ix x15 v7).bind λ x16 =>
 (ix x15 v7).bind λ x17 =>
 (zjg x17.places x16.places).bind λ x18 =>
 (app 8 x16.places [(0:Int)]).bind λ x19 =>
 (ix x15 v7).bind λ x20 =>
 (setx x15 v7 (Edition.mk x20.name x20.closed x19 x20.ground x20.paper x20.delivered x20.spoilt)).bind λ x21 =>
 r3 (W (i4+(1:Int))) x14 x21 b101_2)
 else (bif decide (x2.1.what=(strC [112,97,112,101,114])) then ((ix b101_1 v7).bind λ x22 =>
 (ix x2.1.n (0:Int)).bind λ x23 =>
 (ix b101_1 v7).bind λ x24 =>
 (setx b101_1 v7 (Edition.mk x24.name x24.closed x24.places x24.ground (W (x22.paper+x23)) x24.delivered x24.spoilt)).bind λ x25 =>
 (ix x25 v7).bind λ x26 =>
 (ix x26.places (0:Int)).bind λ x27 =>
 (ix x2.1.n (0:Int)).bind λ x28 =>
 (ix x26.places (0:Int)).bind λ x29 =>
 (setx x26.places (0:Int) (W (x27+x28))).bind λ x30 =>
 (setx x25 v7 (Edition.mk x26.name x26.closed x30 x26.ground x26.paper x26.delivered x26.spoilt)).bind λ x31 =>
 r3 (W (i4+(1:Int))) b101_0 x31 b101_2)
 else (bif decide (x2.1.what=(strC [112,114,105,110,116])) then ((ix b101_0 x4).bind λ x32 =>
 (f112 N (StateS.mk b101_0 b101_1 b101_2) x32.on).bind λ x33 =>
 (ix b101_0 x4).bind λ x34 =>
 (ix b101_1 x33).bind λ x35 =>
 (ix x35.places x34.place).bind λ x36 =>
 (ix x2.1.n (0:Int)).bind λ x37 =>
 (ix x2.1.n (1:Int)).bind λ x38 =>
 (ix x35.places x34.place).bind λ x39 =>
 (setx x35.places x34.place (W (x36-(W (x37+x38))))).bind λ x40 =>
 (setx b101_1 x33 (Edition.mk x35.name x35.closed x40 x35.ground x35.paper x35.delivered x35.spoilt)).bind λ x41 =>
 (ix x41 x33).bind λ x42 =>
 (ix x42.places (W (x34.place+(1:Int)))).bind λ x43 =>
 (ix x2.1.n (0:Int)).bind λ x44 =>
 (ix x42.places (W (x34.place+(1:Int)))).bind λ x45 =>
 (setx x42.places (W (x34.place+(1:Int))) (W (x43+x44))).bind λ x46 =>
 (setx x41 x33 (Edition.mk x42.name x42.closed x46 x42.ground x42.paper x42.delivered x42.spoilt)).bind λ x47 =>
 (ix x47 x33).bind λ x48 =>
 (ix x2.1.n (1:Int)).bind λ x49 =>
 (ix x47 x33).bind λ x50 =>
 (setx x47 x33 (Edition.mk x50.name x50.closed x50.places x50.ground x50.paper x50.delivered (W (x48.spoilt+x49)))).bind λ x51 =>
 r3 (W (i4+(1:Int))) b101_0 x51 b101_2)
 else (bif decide (x2.1.what=(strC [99,108,111,115,101])) then ((ix b101_1 v7).bind λ x52 =>
 (setx b101_1 v7 (Edition.mk x52.name true x52.places x52.ground x52.paper x52.delivered x52.spoilt)).bind λ x53 =>
 r3 (W (i4+(1:Int))) b101_0 x53 b101_2)
 else (bif decide (x2.1.what=(strC [99,108,97,105,109])) then ((ix x2.1.names (1:Int)).bind λ x54 =>
 (f95 N (StateS.mk b101_0 b101_1 b101_2) x3 x54).bind λ x55 =>
 zap (zbF i4 b101_0 b101_1 r3 x2) λ k1 =>
 bif decide (x55<(0:Int)) then ((ix x2.1.names (1:Int)).bind λ x60 =>
 (app 48 b101_2 [(ClaimS.mk x3 x60 (0:Int) (0:Int))]).bind λ x61 =>
 k1 (List.length b101_2:Int) x61)
 else (k1 x55 b101_2))
 else (bif decide (x2.1.what=(strC [100,101,108,105,118,101,114])) then ((ix x2.1.names (1:Int)).bind λ x62 =>
 (f95 N (StateS.mk b101_0 b101_1 b101_2) x3 x62).bind λ x63 =>
 (ix b101_2 x63).bind λ x64 =>
 (ix x2.1.n (0:Int)).bind λ x65 =>
 (ix b101_2 x63).bind λ x66 =>
 (setx b101_2 x63 (ClaimS.mk x66.customer x66.edition x66.claimed (W (x64.got+x65)))).bind λ x67 =>
 (ix b101_1 v7).bind λ x68 =>
 (ix x2.1.n (0:Int)).bind λ x69 =>
 (ix b101_1 v7).bind λ x70 =>
 (setx b101_1 v7 (Edition.mk x70.name x70.closed x70.places x70.ground x70.paper (W (x68.delivered+x69)) x70.spoilt)).bind λ x71 =>
 (ix x71 v7).bind λ x72 =>
 (ix x71 v7).bind λ x73 =>
 (zjg x73.places x72.places).bind λ x74 =>
 (ix x71 v7).bind λ x75 =>
 (zjg x75.places x72.places).bind λ x76 =>
 (ix x72.places (W ((List.length x72.places:Int)-(1:Int)))).bind λ x77 =>
 (ix x2.1.n (0:Int)).bind λ x78 =>
 (ix x72.places (W ((List.length x72.places:Int)-(1:Int)))).bind λ x79 =>
 (setx x72.places (W ((List.length x72.places:Int)-(1:Int))) (W (x77-x78))).bind λ x80 =>
 (setx x71 v7 (Edition.mk x75.name x75.closed x80 x75.ground x75.paper x75.delivered x75.spoilt)).bind λ x81 =>
 r3 (W (i4+(1:Int))) b101_0 x81 x67)
 else (bif decide (x2.1.what=(strC [103,114,105,110,100])) then ((ix b101_0 x4).bind λ x82 =>
 (f112 N (StateS.mk b101_0 b101_1 b101_2) x82.on).bind λ x83 =>
 (ix b101_1 x83).bind λ x84 =>
 (ix b101_0 x4).bind λ x85 =>
 (ix b101_1 x83).bind λ x86 =>
 (setx b101_1 x83 (Edition.mk x86.name x86.closed x86.places (max x84.ground (W (x85.place+(1:Int)))) x86.paper x86.delivered x86.spoilt)).bind λ x87 =>
 (ix b101_0 x4).bind λ x88 =>
 (ix b101_0 x4).bind λ x89 =>
 (setx b101_0 x4 (Stone.mk x89.name (W (x88.thick-(1:Int))) x89.on x89.place)).bind λ x90 =>
 (ix x90 x4).bind λ x91 =>
 (setx x90 x4 (Stone.mk x91.name x91.thick zaz x91.place)).bind λ x92 =>
 r3 (W (i4+(1:Int))) x92 x87 b101_2)
 else (r3 (W (i4+(1:Int))) b101_0 b101_1 b101_2)))))))))
def zeZ (N:Nat)(i4:Int)(b101_0:List Stone)(b101_1:List Edition)(b101_2:List ClaimS)(r3:Int->(List Stone)->(List Edition)->(List ClaimS)->Option (StateS))(x2:Order×Int)(x3:ByteArray)(x4:Int):Lp (Int) (Nat×Nat×Nat×Nat×Nat×Nat) (StateS):=lpm ⟨[2,3,4,5,6,7],[0,101,508,90520,90540,90560,zAH,603000001,603000002],[],[]⟩ (λ v7=>zaY N i4 b101_0 b101_1 b101_2 r3 x2 x3 x4 v7) (λ v7 (_,_,_,_,_,_)=>[.ptr zAH 0, .ptr 603000001 0, .ptr 603000002 0, .dat (strN x3), .dat (iN x4), .dat (iN v7)]) (λ _ (m0,m1,m2,m3,m4,m5)=>[.box [.nil, .nil, .nil], .box [.rs 90520 m0, .rs 90540 m1, .rs 90560 m2], .box [.dat (strN x2.1.what), .dat (zau x2.1.names), .dat (za3 x2.1.n)], .row 153 4 (List.map Stone.d b101_0), .sn 155 7 true none (List.map Edition.mc b101_1), .row 162 4 (List.map ClaimS.d b101_2), .box [.rs 90520 m3, .rs 90540 m4, .rs 90560 m5], .box [.dat (strN x2.1.what), .dat (zau x2.1.names), .dat (za3 x2.1.n)], .box [.nil, .nil, .nil]]) λ _=>(List.length b101_0,List.length b101_1,List.length b101_2,List.length b101_0,List.length b101_1,List.length b101_2)
instance zvJ {N i4 b101_0 b101_1 b101_2 r3 x2 x3 x4 v7}:IsLp 6 1 (zaY N i4 b101_0 b101_1 b101_2 r3 x2 x3 x4 v7) (zeZ N i4 b101_0 b101_1 b101_2 r3 x2 x3 x4) v7:=⟨rfl⟩
instance zvK {N i4 b101_0 b101_1 b101_2 r3 x2 x3 x4}:IsCut 1 (zaY N i4 b101_0 b101_1 b101_2 r3 x2 x3 x4) (zeZ N i4 b101_0 b101_1 b101_2 r3 x2 x3 x4) 603000000005:=⟨⟩
def zjS (r3:Int->(List Stone)->(List Edition)->(List ClaimS)->Option (StateS))(a0:LB)(N:Nat)(k0:(List Stone)->(List Edition)->(List ClaimS)->Option (StateS))(i4:Int)(b101_0:List Stone)(b101_1:List Edition)(b101_2:List ClaimS):Option (StateS) :=
 bif decide (i4<(List.length a0:Int)) then ((ix a0 i4).bind λ x1 =>
 (f80 N x1).bind λ x2 =>
 (ix x2.1.names (0:Int)).bind λ x3 =>
 (f91 N (StateS.mk b101_0 b101_1 b101_2) x3).bind λ x4 =>
 (f112 N (StateS.mk b101_0 b101_1 b101_2) x3).bind λ x5 =>
 zap (zaY N i4 b101_0 b101_1 b101_2 r3 x2 x3 x4) λ k2 =>
 bif decide ((List.length x2.1.names:Int)=(2:Int)) then ((ix x2.1.names (1:Int)).bind λ x93 =>
 (f112 N (StateS.mk b101_0 b101_1 b101_2) x93).bind λ x94 =>
 k2 x94)
 else (k2 x5))
 else (k0 b101_0 b101_1 b101_2)
def zgK (a0:LB)(N:Nat)(k0:(List Stone)->(List Edition)->(List ClaimS)->Option (StateS)):Nat->Int->(List Stone)->(List Edition)->(List ClaimS)->Option (StateS)
 | 0,_,_,_,_=>none
 | n+1,i4,b101_0,b101_1,b101_2=>zjS (zgK a0 N k0 n) a0 N k0 i4 b101_0 b101_1 b101_2
def zvL (a0:LB)(N:Nat)(k0:(List Stone)->(List Edition)->(List ClaimS)->Option (StateS)):Lp (Nat×Int×(List Stone)×(List Edition)×(List ClaimS)) (Nat×Nat×Nat) (StateS):=lpm ⟨[0,2,3,4],[0,101,90520,90540,90560],[(.cell 101 0,90520,153,4),(.cell 101 1,90540,155,1048583),(.cell 101 2,90560,162,4)],[]⟩ (λ (n,i4,b101_0,b101_1,b101_2)=>zgK a0 N k0 n i4 b101_0 b101_1 b101_2) (λ (_,i4,_,_,_) (_,_,_)=>[.dat (zau a0), .ptr 0 0, .ptr 101 0, .dat (iN i4)]) (λ (_,_,b101_0,b101_1,b101_2) (m0,m1,m2)=>[.box [.nil, .nil, .nil], .box [.rs 90520 m0, .rs 90540 m1, .rs 90560 m2], .row 153 4 (List.map Stone.d b101_0), .sn 155 7 true none (List.map Edition.mc b101_1), .row 162 4 (List.map ClaimS.d b101_2)]) λ (_,_,b101_0,b101_1,b101_2)=>(List.length b101_0,List.length b101_1,List.length b101_2)
instance Ef90_3 {a0 N k0 n i4 b101_0 b101_1 b101_2}:IsLp 3 4 (zgK a0 N k0 n i4 b101_0 b101_1 b101_2) (zvL a0 N k0) (n,i4,b101_0,b101_1,b101_2):=⟨rfl⟩
def f90 (N:Nat)(a0:LB):Option (StateS) :=
 zap ziS λ k0 =>
 zgK a0 N k0 N (0:Int) [] [] []
def G90 (ds:List D)(d:D):Prop:=∃ (N:Nat) (a0:LB) (r:StateS),ds=[zau a0]/\f90 N a0=some r/\d=StateS.d r
theorem G90.step {a0}{A:_->Option ρ}{K:D->Prop}(hd:ds=[zau a0])(h:∀ r,A r=some q->K (StateS.d r))(hF:(f90 N a0).bind A=some q):∃ d,G90 ds d/\K d:=by
 obtain⟨r,hr,hA⟩:=bind_some hF;exact⟨_,⟨N,a0,r,hd,hr,rfl⟩,h r hA⟩
def f131 (N:Nat)(a0:List (List Int))(a1:List Int):Option (Int) :=
 (f116 N a0).bind λ x1 =>
 bif decide (¬ x1=(0:Int)) then (some (x1))
 else (bif decide ((List.length a1:Int)<(2:Int)) then (some ((1:Int)))
 else ((f158 N a0 a1).bind λ x2 =>
 some (x2)))
def G131 (ds:List D)(d:D):Prop:=∃ (N:Nat) (a0:List (List Int)) (a1:List Int) (r:Int),ds=[zar a0,za3 a1]/\f131 N a0 a1=some r/\d=iN r
theorem G131.lend {a0 a1}{A:_->Option ρ}{K:D->Prop}(hd:ds=[zar a0,za3 a1])(h:∀ r,A r=some q->K (iN r))(hF:(f131 N a0 a1).bind A=some q):∃ d,(G131 ds d/\d.flatB=true)/\K d:=by
 obtain⟨r,hr,hA⟩:=bind_some hF;exact⟨_,⟨⟨N,a0,a1,r,hd,hr,rfl⟩,rfl⟩,h r hA⟩

end Go.Vc
namespace Go.Vc
open Go.Proofs
variable {N id:Nat} {ρ:Type} {q:ρ} {xs:List SV} {m:Nat->Blk} {l:List Loc} {ds:List D} {K:Dl->List Loc->Prop} {k0 k1 k2 k3 k4 k5 k6 k7 k8 k9 k10 k11 k12 k13 k14 k15 m0 m1 m2 m3 m4 m5:Nat}
def ziT (s1:LB)(s2:LS)(s3:LE)(s4:LC)(o6:I97)(e7:Int):Option (I97×Int) :=
 bif decide (e7=(0:Int)) then (bif decide ((List.length s1:Int)=(120:Int)) then (some (o6,(15:Int)))
 else (some (o6,e7)))
 else (some (o6,e7))
def zof (s1:LB)(s2:LS)(s3:LE)(s4:LC):Lp (I97×Int) (Nat×Unit) (I97×Int):=lpm ⟨[0,6,7],[0,1,2,3,4,5],[],[]⟩ (λ (o6,e7)=>ziT s1 s2 s3 s4 o6 e7) (λ (o6,e7) (_,_)=>[.ptr 0 0, .dat (I97.d o6), .dat (iN e7)]) (λ (_,_) (m0,_)=>[.box [.ptr 1 0, .rs 2 m0], .box [.mp 3, .mp 4, .mp 5],(rW s1),(sW [4] s2),(eW s3),(mW s4)]) λ (_,_)=>(List.length s1,())
instance Ef51_c6 {s1 s2 s3 s4 o6 e7}:IsLp 1 2 (ziT s1 s2 s3 s4 o6 e7) (zof s1 s2 s3 s4) (o6,e7):=⟨rfl⟩
instance Cf51_c6 {s1 s2 s3 s4}:IsCut 2 (ziT s1 s2 s3 s4) (zof s1 s2 s3 s4) 1000006:=⟨⟩
def f51b (self:ByteArray->LB->LS->LE->LC->Option (I97×Int))(N:Nat)(s0:ByteArray)(s1:LB)(s2:LS)(s3:LE)(s4:LC):Option (I97×Int) :=
 (f79 N s0).bind λ x1 =>
 zap (ziT s1 s2 s3 s4) λ k0 =>
 bif decide (x1.2=(0:Int)) then (I97.on x1.1 none
 (λ x2=>(f198 N x2 s2 s3 s4).bind λ x3 =>
 k0 (I97.c199 x2) x3)
 (λ x4=>(f200 N x4 s2 s3 s4).bind λ x5 =>
 k0 (I97.c201 x4) x5)
 (λ x6=>(f202 N x6 s2 s3 s4).bind λ x7 =>
 k0 (I97.c203 x6) x7)
 (λ x8=>(f204 N x8 s2 s3 s4).bind λ x9 =>
 k0 (I97.c205 x8) x9)
 (λ x10=>(f206 N x10 s2 s3 s4).bind λ x11 =>
 k0 (I97.c207 x10) x11)
 (λ x12=>(f208 N x12 s2 s3 s4).bind λ x13 =>
 k0 (I97.c209 x12) x13)
 (λ x14=>(f210 N x14 s2 s3 s4).bind λ x15 =>
 k0 (I97.c211 x14) x15)
 (λ x16=>(f212 N x16 s2 s3 s4).bind λ x17 =>
 k0 (I97.c213 x16) x17)
 (λ x18=>(f215 N x18 s2 s3 s4).bind λ x19 =>
 k0 (I97.c215 x18) x19))
 else (k0 x1.1 x1.2)
def f51:Nat->ByteArray->LB->LS->LE->LC->Option (I97×Int)
 | 0,_,_,_,_,_=>none
 | N+1,s0,s1,s2,s3,s4=>f51b (f51 N) N s0 s1 s2 s3 s4
def Af51 (s0:ByteArray)(s1:LB)(s2:LS)(s3:LE)(s4:LC):List SV:=[.ptr 0 0, .dat (strN s0)]
def Bf51 (s0:ByteArray)(s1:LB)(s2:LS)(s3:LE)(s4:LC):List Blk:=[.box [.ptr 1 0, .rs 2 (List.length s1)], .box [.mp 3, .mp 4, .mp 5],(rW s1),(sW [4] s2),(eW s3),(mW s4)]
def Rf51 (y:I97×Int):List SV:=[.dat (I97.d y.1), .dat (iN y.2)]
def B1f51 (s0:ByteArray)(s1:LB)(s2:LS)(s3:LE)(s4:LC)(y:I97×Int):List Blk:=[.box [.ptr 1 0, .rs 2 (List.length s1)], .box [.mp 3, .mp 4, .mp 5],(rW s1),(sW [4] s2),(eW s3),(mW s4)]
def BZf51 (y:I97×Int):List Blk:=[]
def zqi:Spec (ByteArray×LB×LS×LE×LC) (I97×Int):=⟨6,[],λ x=>Af51 x.1 x.2.1 x.2.2.1 x.2.2.2.1 x.2.2.2.2,λ x=>Bf51 x.1 x.2.1 x.2.2.1 x.2.2.2.1 x.2.2.2.2,λ _ y=>Rf51 y,λ x y=>B1f51 x.1 x.2.1 x.2.2.1 x.2.2.2.1 x.2.2.2.2 y,λ _ y=>BZf51 y⟩
def H51 (N:Nat)(x:ByteArray×LB×LS×LE×LC)(y:I97×Int):Prop:=f51 N x.1 x.2.1 x.2.2.1 x.2.2.2.1 x.2.2.2.2=some y
def G51 (x:ByteArray×LB×LS×LE×LC)(y:I97×Int):Prop:=∃ N,H51 N x y
theorem G51.step {s0 s1 s2 s3 s4}{A:_->Option ρ}(ha:xs=[.ptr k0 0, .dat (strN s0)])(b0:m k0 = .box [.ptr k1 0, .rs k2 m0])(b1:m k1 = .box [.mp k3, .mp k4, .mp k5])(b2:m k2=(rW s1))(b3:m k3=(sW [k4] s2))(b4:m k4=(eW s3))(b5:m k5=(mW s4))(em0:m0=List.length s1)(hu:True)(hn:za0 [k0,k1,k2,k3,k4,k5]=true)(h:∀ y,A y=some q->K ⟨.tup [.dat (I97.d y.1), .dat (iN y.2)],[(k0, .box [.ptr k1 0, .rs k2 (List.length s1)]),(k1, .box [.mp k3, .mp k4, .mp k5]),(k2,(rW s1)),(k3,(sW [k4] s2)),(k4,(eW s3)),(k5,(mW s4))]⟩ ([Loc.b k0,Loc.b k1,Loc.b k2,Loc.b k3,Loc.b k4,Loc.b k5]++l))(hF:(f51 N s0 s1 s2 s3 s4).bind A=some q):effPg zqi (G51) xs id (λ _=>SV.no) m l K:=by
 subst em0;obtain⟨y,hy,hA⟩:=bind_some hF;exact zaO [k0,k1,k2,k3,k4,k5] (s0,s1,s2,s3,s4) y _ ⟨N,hy⟩ rfl hn ha (by simp only[List.map_cons,List.map_nil,b0,b1,b2,b3,b4,b5];rfl) rfl rfl rfl (h y hA)
def Srf51:Ann:=⟨[0,1],[0,1,2,3,4,5],[],[]⟩
def zzy:Ann:=⟨[0,1],[0,1,2,3,4,5],[],[]⟩
def f118 (N:Nat)(a0:List (List Int))(a1:List Int):Option (Int×Int) :=
 (f146 N a0 a1).bind λ x1 =>
 bif decide (¬ x1.2=(0:Int)) then (some ((0:Int),x1.2))
 else ((ix a0 x1.1).bind λ x2 =>
 (f147 N x2 (0:Int)).bind λ x3 =>
 some (x3,(0:Int)))
def G118 (ds:List D)(d:D):Prop:=∃ (N:Nat) (a0:List (List Int)) (a1:List Int) (r:Int×Int),ds=[zar a0,za3 a1]/\f118 N a0 a1=some r/\d = .tup [iN r.1,iN r.2]
theorem G118.lend {a0 a1}{A:_->Option ρ}{K:D->Prop}(hd:ds=[zar a0,za3 a1])(h:∀ r,A r=some q->K (.tup [iN r.1,iN r.2]))(hF:(f118 N a0 a1).bind A=some q):∃ d,(G118 ds d/\d.flatB=true)/\K d:=by
 obtain⟨r,hr,hA⟩:=bind_some hF;exact⟨_,⟨⟨N,a0,a1,r,hd,hr,rfl⟩,rfl⟩,h r hA⟩
def zbe (a0:BookM)(v6:Int):Option (Int) :=
 bif decide (v6=(0:Int)) then (bif decide ((List.length a0.lines:Int)=(120:Int)) then (some ((15:Int)))
 else (some (v6)))
 else (some (v6))
def zl (a0:BookM):Lp (Int) Unit (Int):=lp0 ⟨[0,6],[],[],[]⟩ (λ v6=>[.ep [bN a0.made,zau a0.lines], .dat (iN v6)]) (λ _=>[]) (λ v6=>zbe a0 v6)
instance Ef81_c32 {a0 v6}:IsLp 0 1 (zbe a0 v6) (zl a0) v6:=⟨rfl⟩
instance Cf81_c32 {a0}:IsCut 1 (zbe a0) (zl a0) 32:=⟨⟩
def f81 (N:Nat)(a0:BookM)(a1:Order):Option (Int) :=
 (f90 N a0.lines).bind λ x1 =>
 (ix a1.names (0:Int)).bind λ x2 =>
 (f112 N x1 x2).bind λ x3 =>
 zap (zbe a0) λ k0 =>
 bif decide (a1.what=(strC [115,116,111,110,101])) then ((f113 N x1 a1).bind λ x4 =>
 k0 x4)
 else (bif decide (a1.what=(strC [100,114,97,119])) then ((f113 N x1 a1).bind λ x5 =>
 k0 x5)
 else (bif decide (a1.what=(strC [112,114,105,110,116])) then ((f113 N x1 a1).bind λ x6 =>
 k0 x6)
 else (bif decide (a1.what=(strC [103,114,105,110,100])) then ((f113 N x1 a1).bind λ x7 =>
 k0 x7)
 else (bif decide (a1.what=(strC [99,108,97,105,109])) then ((f114 N x1 a1).bind λ x8 =>
 k0 x8)
 else (bif decide (a1.what=(strC [100,101,108,105,118,101,114])) then ((f114 N x1 a1).bind λ x9 =>
 k0 x9)
 else (bif decide (a1.what=(strC [101,100,105,116,105,111,110])) then (bif decide ((0:Int)<=x3) then (k0 (6:Int))
 else (bif decide ((List.length x1.editions:Int)=(5:Int)) then (k0 (2:Int))
 else (k0 (0:Int))))
 else (bif decide (a1.what=(strC [112,97,112,101,114])) then (bif decide (x3<(0:Int)) then (k0 (5:Int))
 else ((ix x1.editions x3).bind λ x10 =>
 bif decide ((0:Int)<x10.ground) then (k0 (21:Int))
 else ((ix x1.editions x3).bind λ x11 =>
 (ix a1.n (0:Int)).bind λ x12 =>
 bif decide ((5000:Int)<(W (x11.paper+x12))) then (k0 (16:Int))
 else (k0 (0:Int)))))
 else (bif decide (a1.what=(strC [99,108,111,115,101])) then (bif decide (x3<(0:Int)) then (k0 (5:Int))
 else ((ix x1.editions x3).bind λ x13 =>
 bif x13.closed then (k0 (21:Int))
 else ((ix x1.editions x3).bind λ x14 =>
 bif decide ((List.length x14.places:Int)=(1:Int)) then (k0 (1:Int))
 else (k0 (0:Int)))))
 else (k0 (0:Int))))))))))
def G81 (ds:List D)(d:D):Prop:=∃ (N:Nat) (a0:BookM) (a1:Order) (r:Int),ds=[BookM.pt a0,Order.d a1]/\f81 N a0 a1=some r/\d=iN r
theorem G81.lend {a0 a1}{A:_->Option ρ}{K:D->Prop}(hd:ds=[BookM.pt a0,Order.d a1])(h:∀ r,A r=some q->K (iN r))(hF:(f81 N a0 a1).bind A=some q):∃ d,(G81 ds d/\d.flatB=true)/\K d:=by
 obtain⟨r,hr,hA⟩:=bind_some hF;exact⟨_,⟨⟨N,a0,a1,r,hd,hr,rfl⟩,rfl⟩,h r hA⟩
def f101 (N:Nat)(a0:List (List Int))(a1:List Int):Option (Int) :=
 (f131 N a0 a1).bind λ x1 =>
 bif decide (x1=(0:Int)) then ((f132 N a0 (0:Int) a1).bind λ x2 =>
 bif decide (¬ x2=(0:Int)) then (some ((13:Int)))
 else (some (x1)))
 else (some (x1))
def G101 (ds:List D)(d:D):Prop:=∃ (N:Nat) (a0:List (List Int)) (a1:List Int) (r:Int),ds=[zar a0,za3 a1]/\f101 N a0 a1=some r/\d=iN r
theorem G101.lend {a0 a1}{A:_->Option ρ}{K:D->Prop}(hd:ds=[zar a0,za3 a1])(h:∀ r,A r=some q->K (iN r))(hF:(f101 N a0 a1).bind A=some q):∃ d,(G101 ds d/\d.flatB=true)/\K d:=by
 obtain⟨r,hr,hA⟩:=bind_some hF;exact⟨_,⟨⟨N,a0,a1,r,hd,hr,rfl⟩,rfl⟩,h r hA⟩

end Go.Vc
namespace Go.Vc
open Go.Proofs
variable {N id:Nat} {ρ:Type} {q:ρ} {xs:List SV} {m:Nat->Blk} {l:List Loc} {ds:List D} {K:Dl->List Loc->Prop} {k0 k1 k2 k3 k4 k5 k6 k7 k8 k9 k10 k11 k12 k13 k14 k15 m0 m1 m2 m3 m4 m5:Nat}
def f17b (self:ByteArray->LB->LS->LE->LC->Option (Int))(N:Nat)(s0:ByteArray)(s1:LB)(s2:LS)(s3:LE)(s4:LC):Option (Int) :=
 (f51 N s0 s1 s2 s3 s4).bind λ x1 =>
 some (x1.2)
def f17:Nat->ByteArray->LB->LS->LE->LC->Option (Int)
 | 0,_,_,_,_,_=>none
 | N+1,s0,s1,s2,s3,s4=>f17b (f17 N) N s0 s1 s2 s3 s4
def Af17 (s0:ByteArray)(s1:LB)(s2:LS)(s3:LE)(s4:LC):List SV:=[.ptr 0 0, .dat (strN s0)]
def Bf17 (s0:ByteArray)(s1:LB)(s2:LS)(s3:LE)(s4:LC):List Blk:=[.box [.ptr 1 0, .rs 2 (List.length s1)], .box [.mp 3, .mp 4, .mp 5],(rW s1),(sW [4] s2),(eW s3),(mW s4)]
def Rf17 (y:Int):List SV:=[.dat (iN y)]
def B1f17 (s0:ByteArray)(s1:LB)(s2:LS)(s3:LE)(s4:LC)(y:Int):List Blk:=[.box [.ptr 1 0, .rs 2 (List.length s1)], .box [.mp 3, .mp 4, .mp 5],(rW s1),(sW [4] s2),(eW s3),(mW s4)]
def BZf17 (y:Int):List Blk:=[]
def zsw:Spec (ByteArray×LB×LS×LE×LC) (Int):=⟨6,[],λ x=>Af17 x.1 x.2.1 x.2.2.1 x.2.2.2.1 x.2.2.2.2,λ x=>Bf17 x.1 x.2.1 x.2.2.1 x.2.2.2.1 x.2.2.2.2,λ _ y=>Rf17 y,λ x y=>B1f17 x.1 x.2.1 x.2.2.1 x.2.2.2.1 x.2.2.2.2 y,λ _ y=>BZf17 y⟩
def H17 (N:Nat)(x:ByteArray×LB×LS×LE×LC)(y:Int):Prop:=f17 N x.1 x.2.1 x.2.2.1 x.2.2.2.1 x.2.2.2.2=some y
def G17 (x:ByteArray×LB×LS×LE×LC)(y:Int):Prop:=∃ N,H17 N x y
theorem G17.step {s0 s1 s2 s3 s4}{A:_->Option ρ}(ha:xs=[.ptr k0 0, .dat (strN s0)])(b0:m k0 = .box [.ptr k1 0, .rs k2 m0])(b1:m k1 = .box [.mp k3, .mp k4, .mp k5])(b2:m k2=(rW s1))(b3:m k3=(sW [k4] s2))(b4:m k4=(eW s3))(b5:m k5=(mW s4))(em0:m0=List.length s1)(hu:True)(hn:za0 [k0,k1,k2,k3,k4,k5]=true)(h:∀ y,A y=some q->K ⟨.dat (iN y),[(k0, .box [.ptr k1 0, .rs k2 (List.length s1)]),(k1, .box [.mp k3, .mp k4, .mp k5]),(k2,(rW s1)),(k3,(sW [k4] s2)),(k4,(eW s3)),(k5,(mW s4))]⟩ ([Loc.b k0,Loc.b k1,Loc.b k2,Loc.b k3,Loc.b k4,Loc.b k5]++l))(hF:(f17 N s0 s1 s2 s3 s4).bind A=some q):effPg zsw (G17) xs id (λ _=>SV.no) m l K:=by
 subst em0;obtain⟨y,hy,hA⟩:=bind_some hF;exact zaO [k0,k1,k2,k3,k4,k5] (s0,s1,s2,s3,s4) y _ ⟨N,hy⟩ rfl hn ha (by simp only[List.map_cons,List.map_nil,b0,b1,b2,b3,b4,b5];rfl) rfl rfl rfl (h y hA)
def Srf17:Ann:=⟨[0],[0,1,2,3,4,5],[],[]⟩
def zzz:Ann:=⟨[0],[0,1,2,3,4,5],[],[]⟩
def f18b (self:ByteArray->LB->LS->LE->LC->Option (Int×LS×LE×LC×LB))(N:Nat)(s0:ByteArray)(s1:LB)(s2:LS)(s3:LE)(s4:LC):Option (Int×LS×LE×LC×LB) :=
 (f51 N s0 s1 s2 s3 s4).bind λ x1 =>
 bif decide (¬ x1.2=(0:Int)) then (some (x1.2,s2,s3,s4,s1))
 else (I97.on x1.1 none
 (λ x2=>(f197 N x2 s2 s3 s4).bind λ x3 =>
 (app 16 s1 [s0]).bind λ x4 =>
 some ((0:Int),x3,s3,s4,x4))
 (λ x5=>(f199 N x5 s2 s3 s4).bind λ x6 =>
 (app 16 s1 [s0]).bind λ x7 =>
 some ((0:Int),s2,x6,s4,x7))
 (λ x8=>(f201 N x8 s2 s3 s4).bind λ x9 =>
 (app 16 s1 [s0]).bind λ x10 =>
 some ((0:Int),x9.1,x9.2,s4,x10))
 (λ x11=>(f203 N x11 s2 s3 s4).bind λ x12 =>
 (app 16 s1 [s0]).bind λ x13 =>
 some ((0:Int),s2,x12,s4,x13))
 (λ x14=>(f205 N x14 s2 s3 s4).bind λ x15 =>
 (app 16 s1 [s0]).bind λ x16 =>
 some ((0:Int),s2,x15,s4,x16))
 (λ x17=>(f207 N x17 s2 s3 s4).bind λ x18 =>
 (app 16 s1 [s0]).bind λ x19 =>
 some ((0:Int),s2,x18,s4,x19))
 (λ x20=>(f209 N x20 s2 s3 s4).bind λ x21 =>
 (app 16 s1 [s0]).bind λ x22 =>
 some ((0:Int),s2,x21.1,x21.2,x22))
 (λ x23=>(f211 N x23 s2 s3 s4).bind λ x24 =>
 (app 16 s1 [s0]).bind λ x25 =>
 some ((0:Int),s2,x24,s4,x25))
 (λ x26=>(f214 N x26 s2 s3 s4).bind λ x27 =>
 (app 16 s1 [s0]).bind λ x28 =>
 some ((0:Int),x27.1,x27.2,s4,x28)))
def f18:Nat->ByteArray->LB->LS->LE->LC->Option (Int×LS×LE×LC×LB)
 | 0,_,_,_,_,_=>none
 | N+1,s0,s1,s2,s3,s4=>f18b (f18 N) N s0 s1 s2 s3 s4
def Af18 (s0:ByteArray)(s1:LB)(s2:LS)(s3:LE)(s4:LC):List SV:=[.ptr 0 0, .dat (strN s0)]
def Bf18 (s0:ByteArray)(s1:LB)(s2:LS)(s3:LE)(s4:LC):List Blk:=[.box [.ptr 1 0, .rs 2 (List.length s1)], .box [.mp 3, .mp 4, .mp 5],(rW s1),(sW [4] s2),(eW s3),(mW s4)]
def Rf18 (y:Int×LS×LE×LC×LB):List SV:=[.dat (iN y.1)]
def B1f18 (s0:ByteArray)(s1:LB)(s2:LS)(s3:LE)(s4:LC)(y:Int×LS×LE×LC×LB):List Blk:=[.box [.ptr 1 0, .rs 500 (List.length y.2.2.2.2)], .box [.mp 3, .mp 4, .mp 5], .dead,(sW [4] y.2.1),(eW y.2.2.1),(mW y.2.2.2.1)]
def BZf18 (y:Int×LS×LE×LC×LB):List Blk:=[(rW y.2.2.2.2)]
def zqj:Spec (ByteArray×LB×LS×LE×LC) (Int×LS×LE×LC×LB):=⟨6,[500],λ x=>Af18 x.1 x.2.1 x.2.2.1 x.2.2.2.1 x.2.2.2.2,λ x=>Bf18 x.1 x.2.1 x.2.2.1 x.2.2.2.1 x.2.2.2.2,λ _ y=>Rf18 y,λ x y=>B1f18 x.1 x.2.1 x.2.2.1 x.2.2.2.1 x.2.2.2.2 y,λ _ y=>BZf18 y⟩
def H18 (N:Nat)(x:ByteArray×LB×LS×LE×LC)(y:Int×LS×LE×LC×LB):Prop:=f18 N x.1 x.2.1 x.2.2.1 x.2.2.2.1 x.2.2.2.2=some y
def G18 (x:ByteArray×LB×LS×LE×LC)(y:Int×LS×LE×LC×LB):Prop:=∃ N,H18 N x y
theorem G18.step {s0 s1 s2 s3 s4}{A:_->Option ρ}(ha:xs=[.ptr k0 0, .dat (strN s0)])(b0:m k0 = .box [.ptr k1 0, .rs k2 m0])(b1:m k1 = .box [.mp k3, .mp k4, .mp k5])(b2:m k2=(rW s1))(b3:m k3=(sW [k4] s2))(b4:m k4=(eW s3))(b5:m k5=(mW s4))(em0:m0=List.length s1)(hu:(zc2 id 1).map m=List.replicate 1 .unborn)(hn:za0 [k0,k1,k2,k3,k4,k5]=true)(h:∀ y,A y=some q->K ⟨.dat (iN y.1),[(k0, .box [.ptr k1 0, .rs id (List.length y.2.2.2.2)]),(k1, .box [.mp k3, .mp k4, .mp k5]),(k2, .dead),(k3,(sW [k4] y.2.1)),(k4,(eW y.2.2.1)),(k5,(mW y.2.2.2.1)),(id,(rW y.2.2.2.2))]⟩ ([Loc.b k0,Loc.b k1,Loc.b k2,Loc.b k3,Loc.b k4,Loc.b k5,Loc.b id]++l))(hF:(f18 N s0 s1 s2 s3 s4).bind A=some q):effPg zqj (G18) xs id (λ _=>SV.no) m l K:=by
 subst em0;obtain⟨y,hy,hA⟩:=bind_some hF;exact zaO [k0,k1,k2,k3,k4,k5] (s0,s1,s2,s3,s4) y _ ⟨N,hy⟩ rfl hn ha (by simp only[List.map_cons,List.map_nil,b0,b1,b2,b3,b4,b5];rfl) hu rfl rfl (h y hA)
def Srf18:Ann:=⟨[0],[0,1,2,3,4,5,500],[(.cell 0 1,500,9,1)],[]⟩
def zzA:Ann:=⟨[0],[0,1,2,3,4,5],[],[]⟩
def zha (a0:List (List Int))(N:Nat)(number2:Int)(out9:List Int):Option ((List Int)×Int) :=
 bif decide ((0:Int)<number2) then (some ([],(4:Int)))
 else ((f118 N a0 out9).bind λ x4 =>
 (app 8 out9 [x4.1]).bind λ x5 =>
 some (x5,x4.2))
def zla (a0:List (List Int))(N:Nat):Lp (Int×(List Int)) (Nat×Unit) ((List Int)×Int):=lpm ⟨[0,2,9],[90009],[(.slot 9,90009,3,1)],[]⟩ (λ (number2,out9)=>zha a0 N number2 out9) (λ (number2,_) (m0,_)=>[.dat (zar a0), .dat (iN number2), .rs 90009 m0]) (λ (_,out9) (_,_)=>[.row 3 1 (List.map iN out9)]) λ (_,out9)=>(List.length out9,())
instance Ef83_c15 {a0 N number2 out9}:IsLp 1 2 (zha a0 N number2 out9) (zla a0 N) (number2,out9):=⟨rfl⟩
instance Cf83_c15 {a0 N}:IsCut 2 (zha a0 N) (zla a0 N) 15:=⟨⟩
def ziU (r10:Int->(List Int)->Int->Option ((List Int)×Int))(a0:List (List Int))(x3:List Int)(k0:Int->(List Int)->Option ((List Int)×Int))(number2:Int)(out9:List Int)(v30:Int):Option ((List Int)×Int) :=
 bif decide (v30<(List.length x3:Int)) then ((chk (decide ((List.length a0:Int)≠0))).bind λ _ =>
 (ix out9 (W ((W ((List.length out9:Int)-(1:Int)))-v30))).bind λ x6 =>
 (setx out9 (W ((W ((List.length out9:Int)-(1:Int)))-v30)) (Int.tmod number2 (List.length a0:Int))).bind λ x7 =>
 (chk (decide ((List.length a0:Int)≠0))).bind λ _ =>
 r10 (W (Int.tdiv number2 (List.length a0:Int))) x7 (W (v30+(1:Int))))
 else (k0 number2 out9)
def zjT (a0:List (List Int))(x3:List Int)(k0:Int->(List Int)->Option ((List Int)×Int)):Nat->Int->(List Int)->Int->Option ((List Int)×Int)
 | 0,_,_,_=>none
 | n+1,number2,out9,v30=>ziU (zjT a0 x3 k0 n) a0 x3 k0 number2 out9 v30
def zsx (a0:List (List Int))(x3:List Int)(k0:Int->(List Int)->Option ((List Int)×Int)):Lp (Nat×Int×(List Int)×Int) (Nat×Unit) ((List Int)×Int):=lpm ⟨[0,2,9,29,30],[90009],[(.slot 9,90009,3,1)],[]⟩ (λ (n,number2,out9,v30)=>zjT a0 x3 k0 n number2 out9 v30) (λ (_,number2,_,v30) (m0,_)=>[.dat (zar a0), .dat (iN number2), .rs 90009 m0, .dat (iN (List.length x3:Int)), .dat (iN v30)]) (λ (_,_,out9,_) (_,_)=>[.row 3 1 (List.map iN out9)]) λ (_,_,out9,_)=>(List.length out9,())
instance Ef83_10 {a0 x3 k0 n number2 out9 v30}:IsLp 1 3 (zjT a0 x3 k0 n number2 out9 v30) (zsx a0 x3 k0) (n,number2,out9,v30):=⟨rfl⟩
def f83 (N:Nat)(a0:List (List Int))(a1:Int)(a2:Int):Option ((List Int)×Int) :=
 (f116 N a0).bind λ x1 =>
 bif decide (¬ x1=(0:Int)) then (some ([],x1))
 else ((f117 N (2:Int) a1 (12:Int)).bind λ x2 =>
 bif !x2 then (some ([],(3:Int)))
 else (bif decide (a2<(0:Int)) then (some ([],(4:Int)))
 else ((mkS 8 (0:Int) (W (a1-(1:Int))) (W (a1-(1:Int)))).bind λ x3 =>
 zap (zha a0 N) λ k0 =>
 zjT a0 x3 k0 N a2 x3 (0:Int))))
def G83 (ds:List D)(d:D):Prop:=∃ (N:Nat) (a0:List (List Int)) (a1:Int) (a2:Int) (r:(List Int)×Int),ds=[zar a0,iN a1,iN a2]/\f83 N a0 a1 a2=some r/\d = .tup [za3 r.1,iN r.2]
theorem G83.step {a0 a1 a2}{A:_->Option ρ}{K:D->Prop}(hd:ds=[zar a0,iN a1,iN a2])(h:∀ r,A r=some q->K (.tup [za3 r.1,iN r.2]))(hF:(f83 N a0 a1 a2).bind A=some q):∃ d,G83 ds d/\K d:=by
 obtain⟨r,hr,hA⟩:=bind_some hF;exact⟨_,⟨N,a0,a1,a2,r,hd,hr,rfl⟩,h r hA⟩
def f52 (N:Nat)(a0:BookM)(a1:ByteArray):Option (Int) :=
 (f55 N a0).bind λ x1 =>
 bif x1 then (some ((11:Int)))
 else ((f80 N a1).bind λ x2 =>
 bif decide (x2.2=(0:Int)) then ((f81 N a0 x2.1).bind λ x3 =>
 some (x3))
 else (some (x2.2)))
def G52 (ds:List D)(d:D):Prop:=∃ (N:Nat) (a0:BookM) (a1:ByteArray) (r:Int),ds=[BookM.pt a0,strN a1]/\f52 N a0 a1=some r/\d=iN r
theorem G52.lend {a0 a1}{A:_->Option ρ}{K:D->Prop}(hd:ds=[BookM.pt a0,strN a1])(h:∀ r,A r=some q->K (iN r))(hF:(f52 N a0 a1).bind A=some q):∃ d,(G52 ds d/\d.flatB=true)/\K d:=by
 obtain⟨r,hr,hA⟩:=bind_some hF;exact⟨_,⟨⟨N,a0,a1,r,hd,hr,rfl⟩,rfl⟩,h r hA⟩

end Go.Vc
