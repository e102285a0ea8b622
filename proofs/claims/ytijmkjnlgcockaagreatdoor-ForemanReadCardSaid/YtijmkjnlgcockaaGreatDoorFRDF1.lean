/-
  A library for proofs about Go functions by symbolic evaluation,and plain Lean functions that the walked Go functions compute (written by a program of this claim).
-/
import Derived.Test.YtijmkjnlgcockaaGreatDoorVc4
import Derived.Test.YtijmkjnlgcockaaGreatDoorProg
import Derived.Shelf.Strings.Builder1
import Derived.Shelf.Utf8.RuneCount
import Derived.Shelf.Strconv.Atoi
import Derived.Shelf.Strconv.Itoa0
import Derived.Shelf.Strconv.Itoa1
import Derived.Shelf.LaysM
import Derived.Shelf.Strconv.Itoa2
import Derived.Shelf.Strconv.Itoa3
import Derived.Shelf.Strings.Search1
import Derived.Shelf.Strings.Search2
import Derived.Shelf.Strings.Search3
import Derived.Shelf.Strings.Count
import Derived.Shelf.Strings.Shaped
import Derived.Shelf.Strings.LastIndex
import Derived.Shelf.Strings.Prefix
import Derived.Shelf.Strings.Split
import Derived.Shelf.Strings.SplitShaped
import Derived.Shelf.Unicode.Decode
import Derived.Shelf.Strings.RuneCount
import Derived.Shelf.Strings.Explode
import Derived.Shelf.Unicode.DecodeSlow
import Derived.Shelf.Unicode.DecodeAny
import Derived.Ground.Names2Prog
import Derived.Shelf.Slices.Clone
import Derived.Ground.SlgnProg
import Derived.Shelf.SlicesE.Clone
import Derived.Lib.SplitLaws
import Derived.Lib.CutLaws
import Derived.Lib.Builder
import Derived.Laws.Externs
set_option linter.unusedVariables false
set_option linter.unnecessarySimpa false
set_option linter.unusedSimpArgs false
namespace Go.Vc
abbrev zyX:Nat:=103000101000101
abbrev zyY:Nat:=103090500
abbrev zyZ:Nat:=103000101000100
abbrev zy0:Nat:=103000101000102
abbrev zy1:Nat:=103000101000104
abbrev zy2:Nat:=103000101000106
abbrev zy3:Nat:=103000101000107000801000101
abbrev zy4:Nat:=103000101000107090520
abbrev zy5:Nat:=101000101
abbrev zy6:Nat:=103000101000107000801000100
abbrev zy7:Nat:=103000101000107000801000102
abbrev zy8:Nat:=103000101000107000801000104
abbrev zy9:Nat:=103000101000107000801000106
abbrev zza:Nat:=101000106
abbrev zzb:Nat:=4003000801000101
abbrev zzc:Nat:=103000101000107000801000107000801000101
abbrev zzd:Nat:=101000100
abbrev zze:Nat:=101000102
abbrev zzf:Nat:=101000104
abbrev zzg:Nat:=4003090560
abbrev zzh:Nat:=4003000801000106
abbrev zzi:Nat:=103000101000107000801000107090540
abbrev zzj:Nat:=103000101000107000801000107000801000106
abbrev zzk:Nat:=4003000801000100
abbrev zzl:Nat:=103000101000107000801000107000801000100
abbrev zzm:Nat:=4003000801000102
abbrev zzn:Nat:=4003000801000104
abbrev zzo:Nat:=103000101000107000801000107000801000102
abbrev zzp:Nat:=103000101000107000801000107000801000104
abbrev zzq:Nat:=103000101000107000801000107000000018
abbrev zzr:Nat:=103000101000107000801000107000000013
open Go.Proofs
set_option maxRecDepth 20000
def tyF:Option TI:=some ⟨.fn,1,8,false,[0],[.nilFunc],[],false,0⟩
def ty1:Option TI:=some ⟨.ptr,1,8,false,[0],[.pointer none],[],false,0⟩
def ty2:Option TI:=some ⟨.iface,1,16,false,[0],[.nilIface],[],false,0⟩
def ty3:Option TI:=some ⟨(.struct [(0,1,false)]),1,16,true,[0],[.string ⟨#[]⟩],[],false,0⟩
def ty4:Option TI:=some ⟨(.int .i64),1,8,false,[0],[.int .i64 0],[],false,0⟩
def ty5:Option TI:=some ⟨(.int .u64),1,8,false,[0],[.int .u64 0],[],false,0⟩
def ty6:Option TI:=some ⟨(.struct [(0,1,false),(1,1,false),(2,1,false),(3,1,false),(4,1,false)]),5,40,true,[0,0,0,0,0],[.int .i64 0, .int .i64 0, .int .i64 0, .int .i64 0, .int .i64 0],[],false,0⟩
def ty7:Option TI:=some ⟨(.struct [(0,1,false),(1,1,false)]),2,32,true,[0,1],[.pointer none, .slice none 0 0],[],false,0⟩
def ty8:Option TI:=some ⟨(.struct [(0,1,false),(1,1,false),(2,1,false)]),3,64,true,[0,1,1],[.string ⟨#[]⟩, .slice none 0 0, .slice none 0 0],[],false,0⟩
def ty9:Option TI:=some ⟨(.struct [(0,1,false),(1,1,false),(2,1,false)]),3,72,true,[4,7,4],[.slice none 0 0, .slice none 0 0, .slice none 0 0],[],false,0⟩
def ty10:Option TI:=some ⟨(.struct [(0,1,false),(1,1,false),(2,1,false),(3,1,false)]),4,48,true,[0,0,0,0],[.string ⟨#[]⟩, .int .i64 0, .string ⟨#[]⟩, .int .i64 0],[],false,0⟩
def ty11:Option TI:=some ⟨(.struct [(0,1,false),(1,1,false),(2,1,false),(3,1,false),(4,1,false),(5,1,false),(6,1,false)]),7,80,true,[0,0,1,0,0,0,0],[.string ⟨#[]⟩, .bool false, .slice none 0 0, .int .i64 0, .int .i64 0, .int .i64 0, .int .i64 0],[],false,0⟩
def ty12:Option TI:=some ⟨(.struct [(0,1,false),(1,1,false),(2,1,false),(3,1,false),(4,1,false)]),5,72,true,[1,1,0,0,0],[.slice none 0 0, .slice none 0 0, .int .i64 0, .bool false, .map none],[],false,0⟩
def ty13:Option TI:=some ⟨(.struct [(0,1,false),(1,1,false),(2,1,false),(3,1,false)]),4,48,true,[0,0,0,0],[.string ⟨#[]⟩, .string ⟨#[]⟩, .int .i64 0, .int .i64 0],[],false,0⟩
def ty14:Option TI:=some ⟨(.struct [(0,1,false),(1,1,false),(2,1,false)]),3,24,true,[0,0,0],[.map none, .map none, .map none],[],false,0⟩
def ty15:Option TI:=some ⟨(.struct [(0,1,false),(1,1,false)]),2,32,true,[0,1],[.bool false, .slice none 0 0],[],false,0⟩
def ty16:Option TI:=some ⟨(.struct [(0,1,false),(1,1,false)]),2,24,true,[0,0],[.string ⟨#[]⟩, .int .i64 0],[],false,0⟩
def ty17:Option TI:=some ⟨(.struct [(0,1,false),(1,1,false),(2,1,false)]),3,24,true,[0,0,0],[.int .i64 0, .pointer none, .int .i64 0],[],false,0⟩
def ty18:Option TI:=some ⟨(.struct [(0,1,false),(1,1,false),(2,1,false),(3,1,false),(4,1,false),(5,1,false),(6,1,false),(7,1,false),(8,1,false)]),9,96,true,[0,0,1,0,0,0,0,0,0],[.string ⟨#[]⟩, .bool false, .slice none 0 0, .int .i64 0, .int .i64 0, .int .i64 0, .int .i64 0, .map none, .int .i64 0],[],false,0⟩
def ty19:Option TI:=some ⟨(.struct [(0,1,false),(1,1,false),(2,1,false)]),3,48,true,[0,0,0],[.string ⟨#[]⟩, .string ⟨#[]⟩, .nilIface],[],false,0⟩
def ty20:Option TI:=some ⟨(.struct [(0,1,false),(1,1,false)]),2,2,true,[0,0],[.int .u8 0, .int .u8 0],[],false,0⟩
def tyN:Tree (Option TI) := .node .leaf none .leaf
def tyL:Tree (Option TI) := .node .leaf tyF .leaf
def zai:Tree (Option TI) :=
 (.node (.node (.node (.node (.node (.node (.node (.node tyL tyF tyN) tyF (.node tyN tyF (.node .leaf (some ⟨(.arr 0 1 false),0,0,true,[],[],[],false,0⟩) .leaf))) tyF (.node (.node tyN tyF tyN) tyF (.node tyN none tyN))) ty1 (.node (.node (.node tyL tyF tyN) tyF (.node tyN tyF (.node .leaf (some ⟨(.struct [(0,1,false),(1,1,false),(2,1,false),(3,1,false),(4,1,false),(5,1,false),(6,1,false),(7,1,false),(8,1,false),(9,1,false),(10,1,false)]),11,48,true,(List.replicate 11 0),[.int .u64 0, .int .u64 0, .int .u32 0, .int .u8 0, .int .u8 0, .int .u8 0, .int .u8 0, .nilFunc, .pointer none, .int .i32 0, .int .i32 0],[],false,0⟩) .leaf))) tyF (.node (.node tyN tyF (.node .leaf ty1 .leaf)) tyF (.node tyL ty8 .leaf)))) none (.node (.node (.node (.node .leaf ty8 .leaf) tyF tyN) tyF (.node tyL tyF tyL)) ty1 (.node (.node tyL tyF (.node .leaf (some ⟨(.slice 43 1 false),1,24,false,[1],[.slice none 0 0],[],false,0⟩) .leaf)) (some ⟨(.slice 112 4 true),1,24,false,[4],[.slice none 0 0],[],false,0⟩) (.node tyL (some ⟨(.int .u16),1,2,false,[0],[.int .u16 0],[],false,0⟩) tyL)))) ty4 (.node (.node (.node (.node (.node .leaf (some ⟨.ptr,1,8,false,[0],[.pointer none],[],false,5⟩) .leaf) (some ⟨(.slice 5 1 false),1,24,false,[1],[.slice none 0 0],[],false,0⟩) tyL) (some ⟨(.slice 112 4 true),1,24,false,[4],[.slice none 0 0],[("tusche/tuschelaw14.lines", 26)],false,0⟩) (.node (.node .leaf (some ⟨(.slice 153 4 true),1,24,false,[4],[.slice none 0 0],[],false,0⟩) .leaf) tyF (.node .leaf (some ⟨(.slice 155 7 true),1,24,false,[7],[.slice none 0 0],[],false,0⟩) .leaf))) ty1 (.node (.node (.node .leaf (some ⟨(.slice 162 4 true),1,24,false,[4],[.slice none 0 0],[],false,0⟩) .leaf) (some ⟨(.mp 9 77),1,8,false,[0],[.map none],[],false,0⟩) (.node .leaf ty9 .leaf)) tyF (.node (.node .leaf ty9 .leaf) (some ⟨(.mp 9 84),1,8,false,[0],[.map none],[],false,0⟩) tyL))) none (.node (.node (.node tyL none (.node .leaf ty10 .leaf)) (some ⟨(.mp 9 9),1,8,false,[0],[.map none],[],false,0⟩) (.node (.node .leaf ty10 .leaf) tyF (.node .leaf ty11 .leaf))) none (.node (.node (.node .leaf ty11 .leaf) ty1 tyN) (some ⟨(.slice 22 1 false),1,24,false,[1],[.slice none 0 0],[],false,0⟩) (.node tyL (some ⟨(.mp 9 3),1,8,false,[0],[.map none],[],false,0⟩) tyL))))) tyF (.node (.node (.node (.node (.node tyL ty12 tyL) tyF (.node (.node .leaf ty13 .leaf) ty12 (.node .leaf ty13 .leaf))) none (.node (.node tyL tyF tyL) tyF (.node tyL tyF tyL))) (some ⟨.str,1,16,false,[0],[.string ⟨#[]⟩],[],false,0⟩) (.node (.node (.node tyN none tyL) none (.node tyL (some ⟨(.arr 2 1 false),2,32,true,[0,0],[.string ⟨#[]⟩, .string ⟨#[]⟩],[],false,0⟩) tyL)) ty2 (.node (.node tyL none tyN) tyF (.node tyL tyF tyL)))) (some ⟨.bool,1,1,false,[0],[.bool false],[],false,0⟩) (.node (.node (.node (.node tyN tyF tyL) (some ⟨(.slice 3 1 false),1,24,false,[1],[.slice none 0 0],[],false,0⟩) (.node tyL (some ⟨(.arr 2 1 false),2,16,true,[0,0],[.int .i64 0, .int .i64 0],[],false,0⟩) tyL)) (some ⟨(.int .i32),1,4,false,[0],[.int .i32 0],[],false,0⟩) (.node (.node tyN tyF tyL) none (.node (.node .leaf (some ⟨(.arr 24 1 false),24,24,true,(List.replicate 24 0),(List.replicate 24 (.int .u8 0)),[],false,0⟩) .leaf) (some ⟨(.mp 9 113),1,8,false,[0],[.map none],[],false,0⟩) (.node .leaf ty5 .leaf)))) none (.node (.node (.node tyL (some ⟨(.mp 9 114),1,8,false,[0],[.map none],[],false,0⟩) tyL) tyF (.node tyN (some ⟨(.mp 9 4),1,8,false,[0],[.map none],[],false,0⟩) tyL)) (some ⟨(.slice 9 1 false),1,24,false,[1],[.slice none 0 0],[],false,0⟩) (.node (.node tyL ty14 tyL) ty6 (.node tyL ty14 tyL)))))) none (.node (.node (.node (.node (.node (.node tyN ty15 tyN) ty6 (.node tyL ty15 (.node .leaf ty1 .leaf))) tyF (.node (.node tyL ty2 tyL) none (.node tyL ty2 (.node .leaf ty16 .leaf)))) none (.node (.node (.node (.node .leaf (some ⟨(.struct [(0,1,false),(1,1,false)]),2,24,true,[0,0],[.string ⟨#[]⟩, .int .i64 0],[("tusche/foreman.do", 197),("tusche/foreman.wrong", 198)],false,0⟩) .leaf) none (.node .leaf ty3 .leaf)) tyF (.node (.node .leaf (some ⟨(.struct [(0,1,false)]),1,16,true,[0],[.string ⟨#[]⟩],[("tusche/foreman.do", 199),("tusche/foreman.wrong", 200)],false,0⟩) .leaf) tyF (.node .leaf (some ⟨(.struct [(0,1,false),(1,1,false)]),2,32,true,[0,0],[.string ⟨#[]⟩, .string ⟨#[]⟩],[],false,0⟩) .leaf))) ty1 (.node (.node (.node .leaf (some ⟨(.struct [(0,1,false),(1,1,false)]),2,32,true,[0,0],[.string ⟨#[]⟩, .string ⟨#[]⟩],[("tusche/foreman.do", 201),("tusche/foreman.wrong", 202)],false,0⟩) .leaf) tyF (.node .leaf ty16 .leaf)) tyF (.node (.node .leaf (some ⟨(.struct [(0,1,false),(1,1,false)]),2,24,true,[0,0],[.string ⟨#[]⟩, .int .i64 0],[("tusche/foreman.do", 203),("tusche/foreman.wrong", 204)],false,0⟩) .leaf) tyF (.node .leaf (some ⟨(.struct [(0,1,false),(1,1,false),(2,1,false)]),3,32,true,[0,0,0],[.string ⟨#[]⟩, .int .i64 0, .int .i64 0],[],false,0⟩) .leaf))))) (some ⟨(.int .u8),1,1,false,[0],[.int .u8 0],[],false,0⟩) (.node (.node (.node (.node (.node .leaf (some ⟨(.struct [(0,1,false),(1,1,false),(2,1,false)]),3,32,true,[0,0,0],[.string ⟨#[]⟩, .int .i64 0, .int .i64 0],[("tusche/foreman.do", 205),("tusche/foreman.wrong", 206)],false,0⟩) .leaf) tyF (.node .leaf ty3 .leaf)) none (.node (.node .leaf (some ⟨(.struct [(0,1,false)]),1,16,true,[0],[.string ⟨#[]⟩],[("tusche/foreman.do", 207),("tusche/foreman.wrong", 208)],false,0⟩) .leaf) ty1 (.node .leaf (some ⟨(.struct [(0,1,false),(1,1,false),(2,1,false)]),3,40,true,[0,0,0],[.string ⟨#[]⟩, .string ⟨#[]⟩, .int .i64 0],[],false,0⟩) .leaf))) tyF (.node (.node (.node .leaf (some ⟨(.struct [(0,1,false),(1,1,false),(2,1,false)]),3,40,true,[0,0,0],[.string ⟨#[]⟩, .string ⟨#[]⟩, .int .i64 0],[("tusche/foreman.do", 209),("tusche/foreman.wrong", 210)],false,0⟩) .leaf) ty7 (.node .leaf (some ⟨(.struct [(0,3,true)]),3,40,true,[0,0,0],[.string ⟨#[]⟩, .string ⟨#[]⟩, .int .i64 0],[],false,0⟩) .leaf)) tyF (.node (.node .leaf (some ⟨(.struct [(0,3,true)]),3,40,true,[0,0,0],[.string ⟨#[]⟩, .string ⟨#[]⟩, .int .i64 0],[("tusche/foreman.do", 211),("tusche/foreman.wrong", 212)],false,0⟩) .leaf) (some ⟨(.struct [(0,1,false),(1,1,false)]),2,32,true,[0,1],[.pointer none, .slice none 0 0],[],true,0⟩) (.node .leaf ty3 .leaf)))) ty5 (.node (.node (.node (.node .leaf (some ⟨(.struct [(0,1,false)]),1,16,true,[0],[.string ⟨#[]⟩],[("tusche/foreman.do", 214),("tusche/foreman.wrong", 215)],false,0⟩) .leaf) ty2 tyL) tyF (.node tyL ty2 tyL)) ty1 (.node (.node tyL none tyL) tyF (.node tyL tyF tyL))))) ty4 (.node (.node (.node (.node (.node tyL tyF tyL) none (.node tyL (some ⟨(.arr 4 1 false),4,4,true,[0,0,0,0],[.int .u8 0, .int .u8 0, .int .u8 0, .int .u8 0],[],false,0⟩) (.node .leaf (some ⟨(.arr 20 1 false),20,160,true,(List.replicate 20 0),[.int .u64 0, .int .u64 0, .int .u64 0, .int .u64 0, .int .u64 0, .int .u64 0, .int .u64 0, .int .u64 0, .int .u64 0, .int .u64 0, .int .u64 0, .int .u64 0, .int .u64 0, .int .u64 0, .int .u64 0, .int .u64 0, .int .u64 0, .int .u64 0, .int .u64 0, .int .u64 0],[],false,0⟩) .leaf))) tyF (.node (.node (.node .leaf (some ⟨(.int .u32),1,4,false,[0],[.int .u32 0],[],false,0⟩) .leaf) ty1 (.node .leaf (some ⟨(.arr 65 1 false),65,65,true,(List.replicate 65 0),(List.replicate 65 (.int .u8 0)),[],false,0⟩) .leaf)) tyF (.node (.node .leaf ty5 .leaf) ty1 tyL))) none (.node (.node (.node tyN ty17 tyL) none (.node tyL ty17 tyN)) ty4 (.node (.node tyL ty18 (.node .leaf ty19 .leaf)) tyF (.node (.node .leaf ty19 .leaf) ty18 tyL)))) none (.node (.node (.node (.node tyL none tyL) tyF (.node tyL tyF (.node .leaf (some ⟨(.arr 10 1 false),10,10,true,(List.replicate 10 0),[.bool false, .bool false, .bool false, .bool false, .bool false, .bool false, .bool false, .bool false, .bool false, .bool false],[],false,0⟩) .leaf))) tyF (.node (.node tyL tyF tyL) ty1 (.node (.node .leaf ty1 .leaf) ty6 (.node .leaf ty3 .leaf)))) none (.node (.node (.node (.node .leaf ty3 .leaf) none (.node .leaf (some ⟨(.arr 32 1 false),32,32,true,(List.replicate 32 0),(List.replicate 32 (.int .u8 0)),[],false,0⟩) .leaf)) ty7 (.node (.node .leaf (some ⟨(.arr 64 1 false),64,64,true,(List.replicate 64 0),(List.replicate 64 (.int .u8 0)),[],false,0⟩) .leaf) tyF (.node .leaf (some ⟨(.arr 256 1 false),256,256,true,(List.replicate 256 0),(List.replicate 256 (.int .u8 0)),[],false,0⟩) .leaf))) tyF (.node (.node (.node .leaf ty20 .leaf) tyF (.node .leaf ty20 .leaf)) ty7 (.node (.node .leaf (some ⟨(.arr 16 2 true),32,32,true,(List.replicate 32 0),(List.replicate 32 (.int .u8 0)),[],false,0⟩) .leaf) tyF tyN)))))))
theorem tyOK:TyOK Tryz.prog zai:=ty_ok (by kernel_rfl)
end Go.Vc
namespace Go.Vc
open Go.Proofs
structure Claiming where
 customer:ByteArray
 edition:ByteArray
 n:Int
 deriving DecidableEq,Inhabited
def Claiming.d (x:Claiming):D := .agg [strN x.customer,strN x.edition,iN x.n]
structure NewStone where
 name:ByteArray
 thick:Int
 deriving DecidableEq,Inhabited
def NewStone.d (x:NewStone):D := .agg [strN x.name,iN x.thick]
structure NewEdition where
 name:ByteArray
 deriving DecidableEq,Inhabited
def NewEdition.d (x:NewEdition):D := .agg [strN x.name]
structure Drawing where
 stone:ByteArray
 edition:ByteArray
 deriving DecidableEq,Inhabited
def Drawing.d (x:Drawing):D := .agg [strN x.stone,strN x.edition]
structure Paper where
 edition:ByteArray
 n:Int
 deriving DecidableEq,Inhabited
def Paper.d (x:Paper):D := .agg [strN x.edition,iN x.n]
structure Printing where
 stone:ByteArray
 good:Int
 spoilt:Int
 deriving DecidableEq,Inhabited
def Printing.d (x:Printing):D := .agg [strN x.stone,iN x.good,iN x.spoilt]
structure Closing where
 edition:ByteArray
 deriving DecidableEq,Inhabited
def Closing.d (x:Closing):D := .agg [strN x.edition]
structure Delivery where
 claiming:Claiming
 deriving DecidableEq,Inhabited
def Delivery.d (x:Delivery):D := .agg [strN x.claiming.customer,strN x.claiming.edition,iN x.claiming.n]
structure Grinding where
 stone:ByteArray
 deriving DecidableEq,Inhabited
def Grinding.d (x:Grinding):D := .agg [strN x.stone]
structure A4u8N where
 e0:Int
 e1:Int
 e2:Int
 e3:Int
 deriving DecidableEq,Inhabited
def A4u8N.d (x:A4u8N):D := .agg [u8N x.e0,u8N x.e1,u8N x.e2,u8N x.e3]
def A4u8N.of (l:List Int):Option A4u8N:=match l with
 | [a0,a1,a2,a3]=>some ⟨a0,a1,a2,a3⟩
 | _=>none
theorem A4u8N.of_step {ρ:Type}{r:ρ}{l:List Int}{A:A4u8N->Option ρ}{K:List D->Prop}(h:∀ x,A x=some r->K [u8N x.e0,u8N x.e1,u8N x.e2,u8N x.e3])(hF:(A4u8N.of l).bind A=some r):∃ cs,zd7 4 ((l.map u8N).drop 0)=some cs/\K cs:=by
 obtain⟨x,hx,hA⟩:=bind_some hF;unfold A4u8N.of at hx
 split at hx
 .cases hx;exact⟨_,rfl,h _ hA⟩
 .cases hx
def zbc (l:List Int):D := .sl 1 (l.map iN)
structure Edition where
 name:ByteArray
 closed:Bool
 places:List Int
 ground:Int
 paper:Int
 delivered:Int
 spoilt:Int
 deriving DecidableEq,Inhabited
def Edition.d (x:Edition):D := .agg [strN x.name,bN x.closed,zbc x.places,iN x.ground,iN x.paper,iN x.delivered,iN x.spoilt]
structure A2iN where
 e0:Int
 e1:Int
 deriving DecidableEq,Inhabited
def A2iN.d (x:A2iN):D := .agg [iN x.e0,iN x.e1]
def A2iN.of (l:List Int):Option A2iN:=match l with
 | [a0,a1]=>some ⟨a0,a1⟩
 | _=>none
theorem A2iN.of_step {ρ:Type}{r:ρ}{l:List Int}{A:A2iN->Option ρ}{K:List D->Prop}(h:∀ x,A x=some r->K [iN x.e0,iN x.e1])(hF:(A2iN.of l).bind A=some r):∃ cs,zd7 2 ((l.map iN).drop 0)=some cs/\K cs:=by
 obtain⟨x,hx,hA⟩:=bind_some hF;unfold A2iN.of at hx
 split at hx
 .cases hx;exact⟨_,rfl,h _ hA⟩
 .cases hx
structure Stone where
 name:ByteArray
 thick:Int
 on:ByteArray
 place:Int
 deriving DecidableEq,Inhabited
def Stone.d (x:Stone):D := .agg [strN x.name,iN x.thick,strN x.on,iN x.place]
structure ClaimS where
 customer:ByteArray
 edition:ByteArray
 claimed:Int
 got:Int
 deriving DecidableEq,Inhabited
def ClaimS.d (x:ClaimS):D := .agg [strN x.customer,strN x.edition,iN x.claimed,iN x.got]
def ztk (l:List Stone):D := .sl 4 (l.map Stone.d)
def zpz (l:List Edition):D := .sl 7 (l.map Edition.d)
def zrj (l:List ClaimS):D := .sl 4 (l.map ClaimS.d)
structure StateS where
 stones:List Stone
 editions:List Edition
 claims:List ClaimS
 deriving DecidableEq,Inhabited
def StateS.d (x:StateS):D := .agg [ztk x.stones,zpz x.editions,zrj x.claims]
def zat (l:List ByteArray):D := .sl 1 (l.map strN)
structure Order where
 what:ByteArray
 names:List ByteArray
 n:List Int
 deriving DecidableEq,Inhabited
def Order.d (x:Order):D := .agg [strN x.what,zat x.names,zbc x.n]
structure Tally where
 Paper:Int
 Delivered:Int
 Spoilt:Int
 Lost:Int
 Rest:Int
 deriving DecidableEq,Inhabited
def Tally.d (x:Tally):D := .agg [iN x.Paper,iN x.Delivered,iN x.Spoilt,iN x.Lost,iN x.Rest]
def zdM (l:List A4u8N):D := .sl 4 (l.map A4u8N.d)
def zao (l:List (List Int)):D := .sl 1 (l.map zbc)
def zwQ (l:List Int):D := .sl 1 (l.map u8N)
structure StoneM where
 thick:Int
 of:Option Nat
 place:Int
 deriving DecidableEq,Inhabited
def StoneM.m (x:StoneM):List MC:=[.d (iN x.thick), .p 0 x.of, .d (iN x.place)]
def StoneM.pt (x:StoneM):D := .pt (zcN x.m)
structure EditionM where
 name:ByteArray
 closed:Bool
 places:List Int
 from_:Int
 paper:Int
 delivered:Int
 spoilt:Int
 owed:List (ByteArray×Int)
 open_:Int
 deriving DecidableEq,Inhabited
def EditionM.m (x:EditionM):List MC:=[.d (strN x.name), .d (bN x.closed), .r 3 1 (List.map iN x.places), .d (iN x.from_), .d (iN x.paper), .d (iN x.delivered), .d (iN x.spoilt), .m (encM strN iN x.owed), .d (iN x.open_)]
def EditionM.pt (x:EditionM):D := .pt (zcN x.m)
structure RunM where
 sheets:List Int
 stones:List ByteArray
 ground:Int
 closed:Bool
 claims:List (ByteArray×Int)
 deriving DecidableEq,Inhabited
def RunM.m (x:RunM):List MC:=[.r 3 1 (List.map iN x.sheets), .r 9 1 (List.map strN x.stones), .d (iN x.ground), .d (bN x.closed), .m (encM strN iN x.claims)]
def RunM.pt (x:RunM):D := .pt (zcN x.m)
inductive I97 where
 | nil
 | c199 (x:NewStone)
 | c201 (x:NewEdition)
 | c203 (x:Drawing)
 | c205 (x:Paper)
 | c207 (x:Printing)
 | c209 (x:Closing)
 | c211 (x:Claiming)
 | c213 (x:Delivery)
 | c215 (x:Grinding)
 deriving DecidableEq,Inhabited
def I97.d:I97->D
 | .nil=>.v .nilIface
 | .c199 x=>.ifc 199 (NewStone.d x)
 | .c201 x=>.ifc 201 (NewEdition.d x)
 | .c203 x=>.ifc 203 (Drawing.d x)
 | .c205 x=>.ifc 205 (Paper.d x)
 | .c207 x=>.ifc 207 (Printing.d x)
 | .c209 x=>.ifc 209 (Closing.d x)
 | .c211 x=>.ifc 211 (Claiming.d x)
 | .c213 x=>.ifc 213 (Delivery.d x)
 | .c215 x=>.ifc 215 (Grinding.d x)
theorem I97.fo {x:I97}{K:SV->Prop}(h:K (.dat x.d)):zkp (SV.ofD x.d) K:=by cases x <;> exact h
theorem I97.fp {x:I97}{K:SV->Prop}(h:K (.dat x.d)):zkp (.dat x.d) K:=by cases x <;> exact h
def I97.on {β:Type}(x:I97)(a:Option β)(f199:NewStone->Option β)(f201:NewEdition->Option β)(f203:Drawing->Option β)(f205:Paper->Option β)(f207:Printing->Option β)(f209:Closing->Option β)(f211:Claiming->Option β)(f213:Delivery->Option β)(f215:Grinding->Option β):Option β:=match x with
 | .nil=>a
 | .c199 y=>f199 y
 | .c201 y=>f201 y
 | .c203 y=>f203 y
 | .c205 y=>f205 y
 | .c207 y=>f207 y
 | .c209 y=>f209 y
 | .c211 y=>f211 y
 | .c213 y=>f213 y
 | .c215 y=>f215 y
theorem I97.on_step {β:Type}{x:I97}{a:Option β}{f199:NewStone->Option β}{f201:NewEdition->Option β}{f203:Drawing->Option β}{f205:Paper->Option β}{f207:Printing->Option β}{f209:Closing->Option β}{f211:Claiming->Option β}{f213:Delivery->Option β}{f215:Grinding->Option β}{r:β}{P:Prop}(h0:x = .nil->a=some r->P)(h199:∀ y,x = .c199 y->f199 y=some r->P)(h201:∀ y,x = .c201 y->f201 y=some r->P)(h203:∀ y,x = .c203 y->f203 y=some r->P)(h205:∀ y,x = .c205 y->f205 y=some r->P)(h207:∀ y,x = .c207 y->f207 y=some r->P)(h209:∀ y,x = .c209 y->f209 y=some r->P)(h211:∀ y,x = .c211 y->f211 y=some r->P)(h213:∀ y,x = .c213 y->f213 y=some r->P)(h215:∀ y,x = .c215 y->f215 y=some r->P)(hF:I97.on x a f199 f201 f203 f205 f207 f209 f211 f213 f215=some r):P:=by
 cases x with
 | nil=>exact h0 rfl hF
 | c199 y=>exact h199 y rfl hF
 | c201 y=>exact h201 y rfl hF
 | c203 y=>exact h203 y rfl hF
 | c205 y=>exact h205 y rfl hF
 | c207 y=>exact h207 y rfl hF
 | c209 y=>exact h209 y rfl hF
 | c211 y=>exact h211 y rfl hF
 | c213 y=>exact h213 y rfl hF
 | c215 y=>exact h215 y rfl hF
abbrev LS:=List (ByteArray×StoneM)
abbrev LE:=List (ByteArray×EditionM)
abbrev LC:=List (ByteArray×Bool)
abbrev LB:=List ByteArray
abbrev rW (x:LB):Blk := .row 9 1 (List.map strN x)
abbrev sW (k:List Nat)(x:LS):Blk := .fam k (encF strN StoneM.m x) []
abbrev eW (x:LE):Blk := .fam [] (encF strN EditionM.m x) []
abbrev mW (x:LC):Blk := .mp (encM strN bN x)
end Go.Vc
namespace Go.Proofs
open Go.Shelf
def Tryz.laysM171_ren:Go.Shelf.Ren:=⟨fun|171=>30|243=>60|246=>87|283=>120|284=>121|285=>122|286=>123|129=>150|317=>149|318=>151|319=>152|320=>153|337=>167|338=>168|n=>n,fun|3=>3|9=>9|2=>2|4=>4|171=>181|0=>0|53=>182|37=>71|5=>5|173=>185|212=>226|51=>227|20=>20|213=>228|46=>229|232=>248|233=>249|n=>n,fun|17=>0|18=>4|19=>5|n=>n⟩
theorem Tryz.laysM171 : Go.Proofs.LaysM.n171 Tryz.prog Tryz.laysM171_ren := {
  mixed := by kernel_rfl
  f129 := Tryz.func150.trans (congrArg some (by kernel_rfl))
  f171 := Tryz.func30.trans (congrArg some (by kernel_rfl))
  f243 := Tryz.func60.trans (congrArg some (by kernel_rfl))
  f246 := Tryz.func87.trans (congrArg some (by kernel_rfl))
  f283 := Tryz.func120.trans (congrArg some (by kernel_rfl))
  f284 := Tryz.func121.trans (congrArg some (by kernel_rfl))
  f285 := Tryz.func122.trans (congrArg some (by kernel_rfl))
  f286 := Tryz.func123.trans (congrArg some (by kernel_rfl))
  f317 := Tryz.func149.trans (congrArg some (by kernel_rfl))
  f318 := Tryz.func151.trans (congrArg some (by kernel_rfl))
  f319 := Tryz.func152.trans (congrArg some (by kernel_rfl))
  f320 := Tryz.func153.trans (congrArg some (by kernel_rfl))
  f337 := Tryz.func167.trans (congrArg some (by kernel_rfl))
  f338 := Tryz.func168.trans (congrArg some (by kernel_rfl))
  t0 := Tryz.underlying0
  a0 := Tryz.isAgg0
  z0 := Tryz.sizeOf0
  v0 := Tryz.zeroValue0
  t2 := Tryz.underlying2
  a2 := Tryz.isAgg2
  z2 := Tryz.sizeOf2
  v2 := Tryz.zeroValue2
  t3 := Tryz.underlying3
  a3 := Tryz.isAgg3
  z3 := Tryz.sizeOf3
  v3 := Tryz.zeroValue3
  t4 := Tryz.underlying4
  a4 := Tryz.isAgg4
  z4 := Tryz.sizeOf4
  v4 := Tryz.zeroValue4
  t5 := Tryz.underlying5
  a5 := Tryz.isAgg5
  z5 := Tryz.sizeOf5
  v5 := Tryz.zeroValue5
  t9 := Tryz.underlying9
  a9 := Tryz.isAgg9
  z9 := Tryz.sizeOf9
  v9 := Tryz.zeroValue9
  t20 := Tryz.underlying20
  a20 := Tryz.isAgg20
  z20 := Tryz.sizeOf20
  v20 := Tryz.zeroValue20
  t37 := Tryz.underlying71
  a37 := Tryz.isAgg71
  z37 := Tryz.sizeOf71
  v37 := Tryz.zeroValue71
  t46 := Tryz.underlying229
  a46 := Tryz.isAgg229
  z46 := Tryz.sizeOf229
  v46 := Tryz.zeroValue229
  t51 := Tryz.underlying227
  a51 := Tryz.isAgg227
  z51 := Tryz.sizeOf227
  v51 := Tryz.zeroValue227
  t53 := Tryz.underlying182
  a53 := Tryz.isAgg182
  z53 := Tryz.sizeOf182
  v53 := Tryz.zeroValue182
  t171 := Tryz.underlying181
  a171 := Tryz.isAgg181
  z171 := Tryz.sizeOf181
  v171 := Tryz.zeroValue181
  t173 := Tryz.underlying185
  a173 := Tryz.isAgg185
  z173 := Tryz.sizeOf185
  v173 := Tryz.zeroValue185
  t212 := Tryz.underlying226
  a212 := Tryz.isAgg226
  z212 := Tryz.sizeOf226
  v212 := Tryz.zeroValue226
  t213 := Tryz.underlying228
  a213 := Tryz.isAgg228
  z213 := Tryz.sizeOf228
  t232 := Tryz.underlying248
  a232 := Tryz.isAgg248
  z232 := Tryz.sizeOf248
  v232 := Tryz.zeroValue248
  t233 := Tryz.underlying249
  a233 := Tryz.isAgg249
  z233 := Tryz.sizeOf249
  v233 := Tryz.zeroValue249
  g17 := by kernel_rfl
  g18 := by kernel_rfl
  g19 := by kernel_rfl
  i0 := by kernel_rfl
  i2 := by kernel_rfl
  i3 := by kernel_rfl
  i4 := by kernel_rfl
  i5 := by kernel_rfl
  i9 := by kernel_rfl
  i20 := by kernel_rfl
  i37 := by kernel_rfl
  i46 := by kernel_rfl
  i51 := by kernel_rfl
  i53 := by kernel_rfl
  i171 := by kernel_rfl
  i173 := by kernel_rfl
  i212 := by kernel_rfl
  i232 := by kernel_rfl
  i233 := by kernel_rfl
  m17 := by kernel_rfl
  m18 := by kernel_rfl
  m19 := by kernel_rfl }
open Go.RowKit Go.Sort Go.Lib in
theorem Tryz.strconv_Itoa (n:Int) (h0 : -9223372036854775808<=n) (h1:n<=9223372036854775807) (w:World) (htab:Lib.TabIs Tryz.prog w "internal/strconv.uint64pow10" .u64 Lib.pow10Tab) :
  Calls Tryz.prog 30 #[.int .i64 n] w λ e w' => e = .returned (.string ⟨(Lib.itoa n).toArray⟩)/\∃ k os,w'=grow (w.drewN k) os:=Any.strconv_Itoa Tryz.laysM171 n h0 h1 w htab
def Tryz.lays149_ren:Go.Shelf.Ren:=⟨fun|149=>100|222=>130|n=>n,fun|9=>9|5=>5|3=>3|4=>4|n=>n,fun|n=>n⟩
theorem Tryz.lays149 : Go.Proofs.Lays.n149 Tryz.prog Tryz.lays149_ren := {
  mixed := by kernel_rfl
  f149 := Tryz.func100.trans (congrArg some (by kernel_rfl))
  f222 := Tryz.func130.trans (congrArg some (by kernel_rfl))
  t3 := Tryz.underlying3
  a3 := Tryz.isAgg3
  z3 := Tryz.sizeOf3
  v3 := Tryz.zeroValue3
  t4 := Tryz.underlying4
  a4 := Tryz.isAgg4
  z4 := Tryz.sizeOf4
  v4 := Tryz.zeroValue4
  t5 := Tryz.underlying5
  a5 := Tryz.isAgg5
  z5 := Tryz.sizeOf5
  v5 := Tryz.zeroValue5
  t9 := Tryz.underlying9
  a9 := Tryz.isAgg9
  z9 := Tryz.sizeOf9
  v9 := Tryz.zeroValue9 }
open Go.RowKit Go.Lib in
theorem Tryz.strings_LastIndexByte (s:ByteArray)(c:Int)(hs:s.size<4611686018427387904)(w:World) :
  Calls Tryz.prog 100 #[.string s, .int .u8 c] w λ e w' => e = .returned (.int .i64 (Lib.lastIndexByte s c))/\w'=w:=Any.strings_LastIndexByte Tryz.lays149 s c hs w
def Tryz.lays100_ren:Go.Shelf.Ren:=⟨fun|100=>72|207=>97|n=>n,fun|9=>9|4=>4|3=>3|n=>n,fun|n=>n⟩
theorem Tryz.lays100 : Go.Proofs.Lays.n100 Tryz.prog Tryz.lays100_ren := {
  mixed := by kernel_rfl
  f100 := Tryz.func72.trans (congrArg some (by kernel_rfl))
  f207 := Tryz.func97.trans (congrArg some (by kernel_rfl))
  t3 := Tryz.underlying3
  a3 := Tryz.isAgg3
  z3 := Tryz.sizeOf3
  v3 := Tryz.zeroValue3
  t4 := Tryz.underlying4
  a4 := Tryz.isAgg4
  z4 := Tryz.sizeOf4
  v4 := Tryz.zeroValue4
  t9 := Tryz.underlying9
  a9 := Tryz.isAgg9
  z9 := Tryz.sizeOf9
  v9 := Tryz.zeroValue9 }
open Go.RowKit Go.Lib in
theorem Tryz.strings_HasSuffix (s p:ByteArray)(w:World)(hs:s.size<=9223372036854775807) :
  Calls Tryz.prog 72 #[.string s, .string p] w λ e w' => e = .returned (.bool (Lib.hasSuffix s.data.toList p.data.toList))/\w'=w:=Any.strings_HasSuffix Tryz.lays100 s p w hs
def Tryz.lays102_ren:Go.Shelf.Ren:=⟨fun|102=>74|209=>99|207=>97|n=>n,fun|9=>9|4=>4|3=>3|n=>n,fun|n=>n⟩
theorem Tryz.lays102 : Go.Proofs.Lays.n102 Tryz.prog Tryz.lays102_ren := {
  mixed := by kernel_rfl
  f102 := Tryz.func74.trans (congrArg some (by kernel_rfl))
  f207 := Tryz.func97.trans (congrArg some (by kernel_rfl))
  f209 := Tryz.func99.trans (congrArg some (by kernel_rfl))
  t3 := Tryz.underlying3
  a3 := Tryz.isAgg3
  z3 := Tryz.sizeOf3
  v3 := Tryz.zeroValue3
  t4 := Tryz.underlying4
  a4 := Tryz.isAgg4
  z4 := Tryz.sizeOf4
  v4 := Tryz.zeroValue4
  t9 := Tryz.underlying9
  a9 := Tryz.isAgg9
  z9 := Tryz.sizeOf9
  v9 := Tryz.zeroValue9 }
open Go.RowKit Go.Lib in
theorem Tryz.strings_TrimSuffix (s p:ByteArray)(w:World)(hs:s.size<=9223372036854775807) :
  Calls Tryz.prog 74 #[.string s, .string p] w λ e w' => e = .returned (.string ⟨(Lib.trimSuffix s.data.toList p.data.toList).toArray⟩)/\w'=w:=Any.strings_TrimSuffix Tryz.lays102 s p w hs
def Tryz.lays146_ren:Go.Shelf.Ren:=⟨fun|146=>73|221=>98|268=>127|138=>128|143=>129|195=>154|197=>155|218=>156|219=>157|260=>169|217=>170|225=>171|224=>172|267=>173|266=>177|314=>178|n=>n,fun|9=>9|31=>22|3=>3|4=>4|0=>0|105=>231|21=>21|5=>5|46=>229|119=>250|139=>253|138=>252|146=>254|51=>227|n=>n,fun|1=>1|3=>6|4=>7|n=>n⟩
theorem Tryz.lays146 : Go.Proofs.Lays.n146 Tryz.prog Tryz.lays146_ren := {
  mixed := by kernel_rfl
  f138 := Tryz.func128.trans (congrArg some (by kernel_rfl))
  f143 := Tryz.func129.trans (congrArg some (by kernel_rfl))
  f146 := Tryz.func73.trans (congrArg some (by kernel_rfl))
  f195 := Tryz.func154.trans (congrArg some (by kernel_rfl))
  f197 := Tryz.func155.trans (congrArg some (by kernel_rfl))
  f217 := Tryz.func170.trans (congrArg some (by kernel_rfl))
  f218 := Tryz.func156.trans (congrArg some (by kernel_rfl))
  f219 := Tryz.func157.trans (congrArg some (by kernel_rfl))
  f221 := Tryz.func98.trans (congrArg some (by kernel_rfl))
  f224 := Tryz.func172.trans (congrArg some (by kernel_rfl))
  f225 := Tryz.func171.trans (congrArg some (by kernel_rfl))
  f260 := Tryz.func169.trans (congrArg some (by kernel_rfl))
  f266 := Tryz.func177.trans (congrArg some (by kernel_rfl))
  f267 := Tryz.func173.trans (congrArg some (by kernel_rfl))
  f268 := Tryz.func127.trans (congrArg some (by kernel_rfl))
  f314 := Tryz.func178.trans (congrArg some (by kernel_rfl))
  t0 := Tryz.underlying0
  a0 := Tryz.isAgg0
  z0 := Tryz.sizeOf0
  v0 := Tryz.zeroValue0
  t3 := Tryz.underlying3
  a3 := Tryz.isAgg3
  z3 := Tryz.sizeOf3
  v3 := Tryz.zeroValue3
  t4 := Tryz.underlying4
  a4 := Tryz.isAgg4
  z4 := Tryz.sizeOf4
  v4 := Tryz.zeroValue4
  t5 := Tryz.underlying5
  a5 := Tryz.isAgg5
  z5 := Tryz.sizeOf5
  v5 := Tryz.zeroValue5
  t9 := Tryz.underlying9
  a9 := Tryz.isAgg9
  z9 := Tryz.sizeOf9
  v9 := Tryz.zeroValue9
  t21 := Tryz.underlying21
  a21 := Tryz.isAgg21
  z21 := Tryz.sizeOf21
  v21 := Tryz.zeroValue21
  t31 := Tryz.underlying22
  a31 := Tryz.isAgg22
  z31 := Tryz.sizeOf22
  v31 := Tryz.zeroValue22
  t46 := Tryz.underlying229
  a46 := Tryz.isAgg229
  z46 := Tryz.sizeOf229
  v46 := Tryz.zeroValue229
  t51 := Tryz.underlying227
  a51 := Tryz.isAgg227
  z51 := Tryz.sizeOf227
  v51 := Tryz.zeroValue227
  t105 := Tryz.underlying231
  a105 := Tryz.isAgg231
  z105 := Tryz.sizeOf231
  v105 := Tryz.zeroValue231
  t119 := Tryz.underlying250
  a119 := Tryz.isAgg250
  z119 := Tryz.sizeOf250
  t138 := Tryz.underlying252
  a138 := Tryz.isAgg252
  z138 := Tryz.sizeOf252
  v138 := Tryz.zeroValue252
  t139 := Tryz.underlying253
  a139 := Tryz.isAgg253
  z139 := Tryz.sizeOf253
  v139 := Tryz.zeroValue253
  t146 := Tryz.underlying254
  a146 := Tryz.isAgg254
  z146 := Tryz.sizeOf254
  v146 := Tryz.zeroValue254
  g1 := by kernel_rfl
  g3 := by kernel_rfl
  g4 := by kernel_rfl }
open Go.RowKit Go.Lib in
theorem Tryz.strings_Split (s sep:ByteArray)(m:Int)(w:World)(hs:s.size<4294967281)(hm:w.cell? ⟨1,0,none⟩=some (.int .i64 m))(h1:1<=sep.size) :
  Calls Tryz.prog 73 #[.string s, .string sep] w λ e w' =>
   e = .returned (.slice (some ⟨w.heap.size,0,none⟩) (Lib.countB s sep+1) (Lib.countB s sep+1))/\w'=w.alloc (.cells ((Lib.splitB sep 0 (Lib.countB s sep) s).map Value.string).toArray 9):=Any.strings_Split Tryz.lays146 (by kernel_rfl) s sep m w hs hm h1
def Tryz.laysM146_ren:Go.Shelf.Ren:=⟨fun|146=>73|221=>98|268=>127|138=>128|143=>129|195=>154|197=>155|218=>156|219=>157|260=>169|217=>170|225=>171|224=>172|267=>173|266=>177|314=>178|n=>n,fun|9=>9|31=>22|3=>3|4=>4|0=>0|105=>231|21=>21|5=>5|46=>229|119=>250|139=>253|138=>252|146=>254|51=>227|n=>n,fun|1=>1|3=>6|4=>7|n=>n⟩
theorem Tryz.laysM146 : Go.Proofs.LaysM.n146 Tryz.prog Tryz.laysM146_ren := {
  mixed := by kernel_rfl
  f138 := Tryz.func128.trans (congrArg some (by kernel_rfl))
  f143 := Tryz.func129.trans (congrArg some (by kernel_rfl))
  f146 := Tryz.func73.trans (congrArg some (by kernel_rfl))
  f195 := Tryz.func154.trans (congrArg some (by kernel_rfl))
  f197 := Tryz.func155.trans (congrArg some (by kernel_rfl))
  f217 := Tryz.func170.trans (congrArg some (by kernel_rfl))
  f218 := Tryz.func156.trans (congrArg some (by kernel_rfl))
  f219 := Tryz.func157.trans (congrArg some (by kernel_rfl))
  f221 := Tryz.func98.trans (congrArg some (by kernel_rfl))
  f224 := Tryz.func172.trans (congrArg some (by kernel_rfl))
  f225 := Tryz.func171.trans (congrArg some (by kernel_rfl))
  f260 := Tryz.func169.trans (congrArg some (by kernel_rfl))
  f266 := Tryz.func177.trans (congrArg some (by kernel_rfl))
  f267 := Tryz.func173.trans (congrArg some (by kernel_rfl))
  f268 := Tryz.func127.trans (congrArg some (by kernel_rfl))
  f314 := Tryz.func178.trans (congrArg some (by kernel_rfl))
  t0 := Tryz.underlying0
  a0 := Tryz.isAgg0
  z0 := Tryz.sizeOf0
  v0 := Tryz.zeroValue0
  t3 := Tryz.underlying3
  a3 := Tryz.isAgg3
  z3 := Tryz.sizeOf3
  v3 := Tryz.zeroValue3
  t4 := Tryz.underlying4
  a4 := Tryz.isAgg4
  z4 := Tryz.sizeOf4
  v4 := Tryz.zeroValue4
  t5 := Tryz.underlying5
  a5 := Tryz.isAgg5
  z5 := Tryz.sizeOf5
  v5 := Tryz.zeroValue5
  t9 := Tryz.underlying9
  a9 := Tryz.isAgg9
  z9 := Tryz.sizeOf9
  v9 := Tryz.zeroValue9
  t21 := Tryz.underlying21
  a21 := Tryz.isAgg21
  z21 := Tryz.sizeOf21
  v21 := Tryz.zeroValue21
  t31 := Tryz.underlying22
  a31 := Tryz.isAgg22
  z31 := Tryz.sizeOf22
  v31 := Tryz.zeroValue22
  t46 := Tryz.underlying229
  a46 := Tryz.isAgg229
  z46 := Tryz.sizeOf229
  v46 := Tryz.zeroValue229
  t51 := Tryz.underlying227
  a51 := Tryz.isAgg227
  z51 := Tryz.sizeOf227
  v51 := Tryz.zeroValue227
  t105 := Tryz.underlying231
  a105 := Tryz.isAgg231
  z105 := Tryz.sizeOf231
  v105 := Tryz.zeroValue231
  t119 := Tryz.underlying250
  a119 := Tryz.isAgg250
  z119 := Tryz.sizeOf250
  t138 := Tryz.underlying252
  a138 := Tryz.isAgg252
  z138 := Tryz.sizeOf252
  v138 := Tryz.zeroValue252
  t139 := Tryz.underlying253
  a139 := Tryz.isAgg253
  z139 := Tryz.sizeOf253
  v139 := Tryz.zeroValue253
  t146 := Tryz.underlying254
  a146 := Tryz.isAgg254
  z146 := Tryz.sizeOf254
  v146 := Tryz.zeroValue254
  g1 := by kernel_rfl
  g3 := by kernel_rfl
  g4 := by kernel_rfl
  i0 := by kernel_rfl
  i3 := by kernel_rfl
  i4 := by kernel_rfl
  i5 := by kernel_rfl
  i9 := by kernel_rfl
  i21 := by kernel_rfl
  i31 := by kernel_rfl
  i46 := by kernel_rfl
  i51 := by kernel_rfl
  i105 := by kernel_rfl
  i138 := by kernel_rfl
  i139 := by kernel_rfl
  i146 := by kernel_rfl
  m1 := by kernel_rfl
  s1_3 := fun w h => Go.Proofs.cell_of_shapedOpen_int (zero := #[.int .i64 0]) (t := 3) h (of_decide_eq_true (by kernel_rfl)) (by kernel_rfl) rfl (by kernel_rfl) (by kernel_rfl) Tryz.underlying3
  m3 := by kernel_rfl
  m4 := by kernel_rfl }
end Go.Proofs
namespace Go.Vc
open Go.Proofs Go.RowKit
def digs:Nat->Nat->List UInt8
 | 0,_=>[]
 | f+1,u=>if u<10 then [UInt8.ofNat (48+u)] else digs f (u / 10)++[UInt8.ofNat (48+u % 10)]
theorem zvG:∀ f u,u<10 ^ (f+1)->digs (f+1) u=Lib.decDigits u:=by
 intro f
 induction f with
 | zero =>
  intro u h;rw[Lib.decDigits,digs]
  have:u<10:=by simpa using h
  rw[if_pos this,dif_pos this]
 | succ f ih =>
  intro u h;rw[Lib.decDigits,digs];by_cases h1:u<10
  .rw [if_pos h1,dif_pos h1]
  .rw [if_neg h1,dif_neg h1,ih (u / 10) (by rw[Nat.pow_succ] at h;omega)]
theorem zfI:∀ f u,(digs f u).length<=f:=by
 intro f
 induction f with
 | zero=>intro u;simp[digs]
 | succ f ih =>
  intro u;rw[digs]
  split
  .simp
  .have:=ih (u / 10);simp;omega
def za7 (c:UInt8):List UInt8->List (List UInt8)
 | []=>[[]]
 | b::l=>bif b == c then []::za7 c l else match za7 c l with
  | []=>[[b]]
  | x::r=>(b::x)::r
theorem zfJ (c:UInt8):∀ l,za7 c l≠[]:=by
 intro l
 cases l with
 | nil=>simp[za7]
 | cons b l =>
  unfold za7
  cases b == c
  .dsimp only[cond_false];split <;> simp
  .simp
theorem zeI (c:UInt8):∀ l,(za7 c l).length<=l.length+1/\∀ x,x∈za7 c l->x.length<=l.length:=by
 intro l
 induction l with
 | nil=>simp[za7]
 | cons b l ih =>
  unfold za7
  cases hb:b == c
  .dsimp only[cond_false]
   split
   .simp
   .rename_i x r h
    rw[h] at ih;refine⟨by simpa using Nat.le_succ_of_le ih.1, ?_⟩;intro y hy
    rcases List.mem_cons.1 hy with rfl|hy
    .have:=ih.2 x (by simp);simp;exact this
    .have:=ih.2 y (by simp[hy]);simp;omega
  .dsimp only[cond_true]
   refine⟨by simpa using ih.1, ?_⟩;intro y hy
   rcases List.mem_cons.1 hy with rfl|hy
   .simp
   .have:=ih.2 y hy;simp;omega
theorem zem (c:UInt8):∀ l,(Lib.index l [c] = -1->za7 c l=[l])/\∀ i:Nat,Lib.index l [c]=i->i<l.length/\za7 c l=l.take i::za7 c (l.drop (i+1)):=by
 intro l
 induction l with
 | nil =>
  refine⟨λ _=>rfl,λ i h=>?_⟩;simp[Lib.index] at h
 | cons b l ih =>
  have hp:([c]:List UInt8).isPrefixOf (b::l)=(c == b):=by simp[List.isPrefixOf]
  by_cases hb:b=c
  .subst hb
   have hix:Lib.index (b::l) [b]=0:=by rw[Lib.index,hp];simp
   refine⟨λ h=>by rw[hix] at h;exact absurd h (by decide),λ i h=>?_⟩;rw[hix] at h
   obtain rfl:i=0:=by omega
   refine⟨by simp, ?_⟩;rw[za7];simp
  .have hcb:(c == b)=false:=by simpa using Ne.symm hb
   have hbc:(b == c)=false:=by simpa using hb
   have hix:Lib.index (b::l) [c]=if Lib.index l [c] == -1 then -1 else Lib.index l [c]+1:=by rw[Lib.index,hp,hcb];simp
   have hs:za7 c (b::l)=match za7 c l with|[]=>[[b]]|x::r=>(b::x)::r:=by rw[za7,hbc];rfl
   by_cases hm:Lib.index l [c] = -1
   .rw [if_pos (by simpa using hm)] at hix
    refine⟨λ _=>by rw[hs,ih.1 hm],λ i h=>by rw[hix] at h;omega⟩
   .rw [if_neg (by simpa using hm)] at hix
    have hge:=Lib.index_ge l [c];refine⟨λ h=>by rw[hix] at h;omega,λ i h=>?_⟩;rw[hix] at h;obtain⟨j,rfl⟩:∃ j,i=j+1:=⟨i-1,by omega⟩;obtain⟨h1,h2⟩:=ih.2 j (by omega);refine⟨by simpa using h1, ?_⟩;rw[hs,h2];simp
theorem zwR {a b:ByteArray}(h:a.data.toList=b.data.toList):a=b:=ByteArray.ext (Array.ext' h)
theorem zpA (c:UInt8):∀ (n:Nat) (s:ByteArray),s.size<=n->Lib.splitB ⟨#[c]⟩ 0 (Lib.countB s ⟨#[c]⟩) s=(za7 c s.data.toList).map λ l=>⟨l.toArray⟩:=by
 intro n
 induction n with
 | zero =>
  intro s hn
  rcases Lib.indexB_cases s ⟨#[c]⟩ with hix|⟨i,hix,hr⟩
  .have hi:Lib.index s.data.toList [c] = -1:=hix
   rw[Lib.splitB_miss _ _ _ _ hix,(zem c _).1 hi];rfl
  .have:(⟨#[c]⟩:ByteArray).size=1:=rfl
   omega
 | succ n ih =>
  intro s hn
  rcases Lib.indexB_cases s ⟨#[c]⟩ with hix|⟨i,hix,hr⟩
  .have hi:Lib.index s.data.toList [c] = -1:=hix
   rw[Lib.splitB_miss _ _ _ _ hix,(zem c _).1 hi];rfl
  .have h1:(⟨#[c]⟩:ByteArray).size=1:=rfl
   have hi:Lib.index s.data.toList [c]=i:=hix;have hc:=Lib.countB_hit s ⟨#[c]⟩ i (Nat.le_refl 1) hix;have hlen:s.data.toList.length=s.size:=rfl
   have hrest:(s.extract (i+1) s.size).data.toList=s.data.toList.drop (i+1):=by
    rw[ByteArray.data_extract,Array.toList_extract,List.extract_eq_take_drop,<- hlen];exact List.take_of_length_le (by simp)
   have hfirst:(s.extract 0 i).data.toList=s.data.toList.take i:=by
    rw[ByteArray.data_extract,Array.toList_extract,List.extract_eq_take_drop];simp
   rw[hc,Nat.add_comm 1,Lib.splitB_hit _ _ _ _ _ hix,((zem c _).2 i hi).2,h1,ih _ (by rw[ByteArray.size_extract];omega),hrest,List.map_cons,Nat.add_zero]
   congr 1
   exact zwR hfirst
section
variable {P:Program} {w:World}
theorem zwS {b:Nat} (hb:P.globalNamed "internal/strconv.uint64pow10" = some b) (hg:Glb P w):LX P w:=by
 obtain⟨o,ho,h⟩:=hg b (λ o=>∀ w2:World,w2.heap[b]? = some o->LX P w2) (λ w' _ hx=>by
  unfold LX Lib.TabIs World.var? at hx;rw[hb] at hx
  cases ho:w'.heap[b]? with
  | none=>simp[ho] at hx
  | some o =>
   refine⟨o,rfl,λ w2 h2=>?_⟩;unfold LX Lib.TabIs World.var?;rw[hb];simp only[zyQ,h2] at hx ⊢
   simpa [ho] using hx)
 exact h w ho
theorem ztl (w:World)(k:Nat)(os:Array Obj):Ext w (Go.Sort.grow (w.drewN k) os):=by
 refine⟨rfl,rfl,rfl, ?_,λ b hb=>?_⟩
 .simp [Go.Sort.grow]
 .show (w.heap++os)[b]? = _
  rw[Array.getElem?_append_left hb]
end
theorem ztm:Tryz.prog.globalNamed "internal/strconv.uint64pow10" = some (Tryz.prog.globalNamed "internal/strconv.uint64pow10").get! := by kernel_rfl
theorem zwT {F:Nat->Prop}{w:World}{v:Value}{n:Int}(h:Rd F w v (iN n)):v = .int .i64 n/\IntKind.i64.min<=n/\n<=IntKind.i64.max:=by
 cases h with|v hp=>exact⟨rfl,hp⟩
theorem rd_u8 {F:Nat->Prop}{w:World}{v:Value}{n:Int}(h:Rd F w v (u8N n)):v = .int .u8 n:=by
 cases h with|v hp=>rfl
end Go.Vc
namespace Go.Vc
open Go.Proofs Go.RowKit
theorem zrk:(Tryz.prog.info? 106).map (·.size)=some 2:=by kernel_rfl
theorem zvH:liesAt Tryz.prog Tryz.prog.depth 106 (2 / Tryz.prog.cellsOf 106) 0 106 1=true:=by kernel_rfl
set_option maxHeartbeats 1000000 in
set_option maxRecDepth 100000 in
theorem zvI (b:Nat)(w:World)(h0:w.cell? ⟨b,0,none⟩=some (.pointer (some ⟨b,0,none⟩))) :
  Calls Tryz.prog 82 #[.pointer (some ⟨b,0,none⟩)] w λ e w' => e = .returned (.tuple #[])/\w'=w:=by
 obtain⟨j,hj,_⟩:=Option.map_eq_some_iff.1 zrk
 go_enter Tryz.func82,Tryz.ntmps82
 go_wp2
 rw[Lib.run_neq_ptr_same w _ Tryz.underlying104 hj]
 go_wp2
 go_end0
 exact⟨rfl,rfl⟩
set_option maxHeartbeats 1000000 in
set_option maxRecDepth 100000 in
theorem ztn (b:Nat)(w:World)(h0:w.cell? ⟨b,0,none⟩=some (.pointer none))(hsh:w.shape? b=some (106,2))(hfz:w.frozen? ⟨b,0,none⟩=false) :
  Calls Tryz.prog 82 #[.pointer (some ⟨b,0,none⟩)] w λ e w' => e = .returned (.tuple #[])/\w'=w.setCell ⟨b,0,none⟩ (.pointer (some ⟨b,0,none⟩)):=by
 obtain⟨j,hj,hjs⟩:=Option.map_eq_some_iff.1 zrk
 go_enter Tryz.func82,Tryz.ntmps82
 go_wp2
 rw[Lib.run_to_unsafe w ⟨b,0,none⟩ Tryz.underlying104 Tryz.underlying175 hj (by rw[hjs];decide) hsh (Nat.zero_lt_succ 1)];simp only[Result.andThen];rw[Oper.upon_value]
 go_wp2
 rw[run_callFunc_extern Tryz.func115 (by kernel_rfl) (by kernel_rfl) (by kernel_rfl) (e:=Extern.AbiNoEscape.same) (by kernel_rfl)];rw[Lib.run_noEscape];simp only[Result.andThen];rw[Oper.upon_value]
 go_wp2
 rw[Lib.run_from_unsafe w ⟨b,0,none⟩ Tryz.underlying175 Tryz.underlying104 hj hsh zvH];simp only[Result.andThen];rw[Oper.upon_value]
 go_wp2
 go_end0
 exact⟨rfl,rfl⟩
def copyPg (T:TypeId)(xs:List SV)(id:Nat):Pg:=match xs with
 | [.ptr k 0]=>Pg.getB k fun
  | .box [.slf k' t',x]=>when_ (Nat.beq k' k&&Nat.beq t' T) (Pg.ret ⟨.tup [],[]⟩)
  | _=>Pg.fail
 | _=>Pg.fail
theorem Local.copyPg (T:TypeId)(xs:List SV)(id:Nat):Local (copyPg T xs id):=by
 unfold Vc.copyPg
 split
 .refine Local.getB λ x=>?_
  split
  .exact Local.when_ (Local.ret _)
  .exact Local.fail
 .exact Local.fail
theorem zlv {w:World}{b:Nat}{vs:List Value}{t:TypeId}{u v:Value}(h:w.heap[b]? = some (.cells (u::vs).toArray t (0,0))):(w.setCell ⟨b,0,none⟩ v).heap[b]? = some (.cells (v::vs).toArray t (0,0)):=by
 unfold World.setCell;show (w.heap.modify _ _)[b]? = _;rw[Array.getElem?_modify,if_pos rfl,h];simp
theorem zfK {w:World}{b i:Nat}{v:Value}(h:i≠b):(w.setCell ⟨b,0,none⟩ v).heap[i]? = w.heap[i]? := by
 unfold World.setCell;show (w.heap.modify _ _)[i]? = _;rw[Array.getElem?_modify,if_neg (Ne.symm h)]
theorem zvJ:CallOK Tryz.prog 82 (copyPg 106):=by
 intro fr hfr nt g e m a w xs vs id l K hs hp hl hx hb hpg;unfold copyPg at hpg
 split at hpg
 .rename_i k
  simp only[Pg.getB,zal] at hpg;have hblk:=hs.mem.blk k
  cases hm:m k with
  | box cs =>
   rw[hm] at hblk hpg
   have key:∃ x,cs=[.slf k 106,x]/\K ⟨.tup [],[]⟩ (.b k::l):=by
    match cs,hpg with
    | [.slf k' t',x],hpg =>
     obtain⟨h1,h2⟩:=zah hpg;simp only[zyW] at h1;obtain rfl:=zyT h1.1;obtain rfl:=zyT h1.2;exact⟨x,rfl,h2⟩
   obtain⟨x,rfl,hK⟩:=key;clear hpg
   match vs,hl with
   | [v],_ =>
   have hv:=hx 0 v _ rfl rfl
   have hv':v = .pointer (some ⟨g.β k,0,none⟩):=by
    rcases hv with hv|hv
    .cases hv
    .cases hv;rfl
   subst hv';obtain⟨us,t,r1,r2,r3,r4⟩:=hblk;obtain rfl:106=t:=r4 k 106 rfl
   match us,r2 with
   | [u0,u1],_ =>
   have hal:zab g m k:=by simp[zab,hm]
   have hfin:∀ w':World,SR fr nt g e m a w'->∃ v δ l' g',(Ending.returned (.tuple #[])) = .returned v/\K δ l'/\SR fr nt g' e (mApp δ.wr m) a w'/\DenO g' w' v δ.val/\∀ k,k∈δ.val.ids->mApp δ.wr m k ≠ .unborn :=
    λ w' h=>⟨_,_,_,g,rfl,hK,h, .inr (Den.tup (vs:=[]) rfl (by simp)),by simp[SV.ids,SV.idsL]⟩
   cases (r3 0 u0 _ rfl rfl).2 with
   | slfP =>
    refine(zvI (g.β k) w (by simp[World.cell?,r1])).mono ?_;rintro en w' ⟨rfl,rfl⟩;exact hfin _ hs
   | slfN =>
    refine(ztn (g.β k) w (by simp[World.cell?,r1]) (by simp[World.shape?,r1]) (by simp[World.frozen?,r1])).mono ?_;rintro en w' ⟨rfl,rfl⟩;refine hfin _ ?_;have hF:∀ b,g.F b->(w.setCell ⟨g.β k,0,none⟩ (.pointer (some ⟨g.β k,0,none⟩))).heap[b]? = w.heap[b]? := λ b hb=>zfK λ h=>hs.mem.hot k hal (h ▸ hb)
    have h2:=hs.setB (k:=k) (w':=w.setCell ⟨g.β k,0,none⟩ (.pointer (some ⟨g.β k,0,none⟩))) (b := .box [.slf k 106,x]) hal (λ i hi=>zfK hi) (by simp[World.setCell]) rfl rfl rfl
     ⟨[.pointer (some ⟨g.β k,0,none⟩),u1],106,zlv r1,rfl,λ i u y hu hy=>by
      match i,hu,hy with
      | 0,hu,hy =>
       simp only[List.getElem?_cons_zero,Option.some.injEq] at hu hy;subst hu;subst hy;exact⟨rfl, .slfP⟩
      | i+1,hu,hy =>
       have:=r3 (i+1) u y (by simpa using hu) (by simpa using hy)
       exact⟨this.1,this.2.mono (λ _ h=>h) hF λ _ _=>⟨rfl,rfl,rfl,List.prefix_rfl⟩⟩,r4⟩ (by simp) (λ i hi=>hs.bornM k i (by rw[hm];exact hi))
    have em:mApp [(k, .box [.slf k 106,x])] m=m:=by
     funext j;rw[zaa];by_cases hj:k=j
     .subst hj;rw[if_pos rfl,hm]
     .rw [if_neg hj];rfl
    rw[em] at h2;exact h2
  | _=>rw[hm] at hpg;exact hpg.elim
 .exact hpg.elim
theorem zn4 {T:Tree (Option TI)}{l:List Ent}(hc:zcu Tryz.prog 82)(h:CtxOK Tryz.prog (zaq T l)):CtxOK Tryz.prog (zaq T ((82,true,copyPg 106)::l)) :=
 zf3 hc zvJ (λ _ xs id=>Local.copyPg 106 xs id) h
end Go.Vc
namespace Go.Vc
open Go.Proofs
variable {N id:Nat} {ρ:Type} {q:ρ} {xs:List SV} {m:Nat->Blk} {l:List Loc} {ds:List D} {K:Dl->List Loc->Prop} {k0 k1 k2 k3 k4 k5 k6 k7 k8 k9 k10 k11 k12 k13 k14 k15 m0 m1 m2 m3 m4 m5:Nat}
def f73 (N:Nat)(a0:ByteArray)(a1:ByteArray):Option (LB) :=
 match N with|0=>none|_+1=>(if a0.size<=1000000/\a1.size=1 then some ((za7 (a1.data.toList.headD 0) a0.data.toList).map λ l=>⟨l.toArray⟩) else none)
def G73 (ds:List D)(d:D):Prop:=∃ (N:Nat) (a0:ByteArray) (a1:ByteArray) (r:LB),ds=[strN a0,strN a1]/\f73 N a0 a1=some r/\d=zat r
theorem G73.step {a0 a1}{A:_->Option ρ}{K:D->Prop}(hd:ds=[strN a0,strN a1])(h:∀ r,A r=some q->K (zat r))(hF:(f73 N a0 a1).bind A=some q):∃ d,G73 ds d/\K d:=by
 obtain⟨r,hr,hA⟩:=bind_some hF;exact⟨_,⟨N,a0,a1,r,hd,hr,rfl⟩,h r hA⟩
theorem P73:PureOK Tryz.prog 73 G73:=by
 rintro w Z vs ds d hZ hl hr hg ⟨N,a0,a1,r,rfl,hF,rfl⟩
 rcases N with _|N
 .cases hF
 simp only[f73] at hF
 split at hF
 .rename_i h
  cases hF
  obtain⟨v,u,rfl,h1,h2⟩:=zq5 hl hr;obtain⟨rfl,l1⟩:=zlh h1;obtain⟨rfl,l2⟩:=zlh h2;obtain⟨c,rfl⟩:=Lib.one_byte a1 h.2;obtain⟨m,hm⟩:=zvC hg Go.Proofs.Tryz.laysM146.s1_3;refine(Go.Proofs.Tryz.strings_Split a0 ⟨#[c]⟩ m w (by omega) hm (Nat.le_refl 1)).mono ?_;rintro e w' ⟨rfl,rfl⟩;have hs:=zpA c a0.size a0 (Nat.le_refl _);have hn:=Lib.splitB_all ⟨#[c]⟩ (Nat.le_refl 1) 0 _ a0 rfl;rw[hs] at hn ⊢;obtain⟨b1,b2⟩:=zeI c a0.data.toList;have hz:a0.data.toList.length=a0.size:=rfl;generalize hq:(za7 c a0.data.toList).map (λ l=>(⟨l.toArray⟩:ByteArray))=q at hn ⊢
  have hql:q.length=(za7 c a0.data.toList).length:=by rw[<- hq];simp
  have hp:∀ x,x∈q.map Value.string->pl x/\x.oneCell'=true:=by
   intro x hx;obtain⟨y,hy,rfl⟩:=List.mem_map.1 hx;rw[<- hq] at hy;obtain⟨l,hl,rfl⟩:=List.mem_map.1 hy;refine⟨?_,rfl⟩;have:=b2 l hl;show ByteArray.size _<=maxLen;simp only[ByteArray.size,List.size_toArray,maxLen];omega
  have ho:=zwO (w:=w.alloc (.cells (q.map Value.string).toArray 9)) (t:=9) (v := .slice (some ⟨w.heap.size,0,none⟩) (Lib.countB a0 ⟨#[c]⟩+1) (Lib.countB a0 ⟨#[c]⟩+1)) (n:=Lib.countB a0 ⟨#[c]⟩+1) (xs:=q.map Value.string) (b0:=w.heap.size)
   ⟨by simpa using hn, .inr ⟨w.heap.size,_,_,rfl,Nat.le_refl _,zbS w _,Nat.le_refl _,by simp only[maxLen];omega,by simpa using hn,by rw[Nat.mul_one,<- hn];exact List.take_of_length_le (by simp)⟩⟩ hp
  refine⟨_,rfl,Ext.alloc w _, ?_⟩;have:=ho.mono (F':=λ b=>Z b∨(w.heap.size<=b/\b<(w.alloc (.cells (q.map Value.string).toArray 9)).heap.size)) (λ b hb=>.inr hb) (λ _ _=>rfl);rw[List.map_map] at this;subst hq;exact this
 .cases hF
def zf8 (n2:Int):Option (Int×Bool) :=
 some (n2,true)
def zjL:Lp (Int) Unit (Int×Bool):=lp0 ⟨[2],[],[],[]⟩ (λ n2=>[.dat (iN n2)]) (λ _=>[]) (λ n2=>zf8 n2)
instance Ef105_c9 {n2}:IsLp 0 1 (zf8 n2) (zjL) n2:=⟨rfl⟩
instance Cf105_c9:IsCut 1 (zf8) (zjL) 9:=⟨⟩
def zmY (r4:Int->Nat->Option (Int×Bool))(a0:ByteArray)(k0:Int->Option (Int×Bool))(n2:Int)(p301:Nat):Option (Int×Bool) :=
 bif decide (p301<ByteArray.size a0) then ((some (zeN a0 p301)).bind λ x1 =>
 bif decide (x1.1<(48:Int)) then (some ((0:Int),false))
 else (bif decide ((57:Int)<x1.1) then (some ((0:Int),false))
 else (r4 (W ((W ((10:Int)*n2))+(Wk .i32 (x1.1-(48:Int))))) x1.2)))
 else (k0 n2)
def zhx (a0:ByteArray)(k0:Int->Option (Int×Bool)):Nat->Int->Nat->Option (Int×Bool)
 | 0,_,_=>none
 | n+1,n2,p301=>zmY (zhx a0 k0 n) a0 k0 n2 p301
def zrl (a0:ByteArray)(k0:Int->Option (Int×Bool)):Lp (Nat×Int×Nat) Unit (Int×Bool):=lp0 ⟨[2,23],[301],[],[]⟩ (λ (_,n2,_)=>[.dat (iN n2), .ptr 301 0]) (λ (_,_,p301)=>[.sit a0 p301]) (λ (n,n2,p301)=>zhx a0 k0 n n2 p301)
instance Ef105_4 {a0 k0 n n2 p301}:IsLp 0 2 (zhx a0 k0 n n2 p301) (zrl a0 k0) (n,n2,p301):=⟨rfl⟩
def ze8 (a0:ByteArray)(N:Nat):Option (Int×Bool) :=
 zau zf8 λ k0 =>
 zhx a0 k0 N (0:Int) 0
def zjM (a0:ByteArray)(N:Nat):Lp (Unit) Unit (Int×Bool):=lp0 ⟨[0,2],[],[],[]⟩ (λ _=>[.dat (strN a0), .dat (iN (0:Int))]) (λ _=>[]) (λ _=>ze8 a0 N)
instance Ef105_c3 {a0 N}:IsLp 0 0 (ze8 a0 N) (zjM a0 N) ():=⟨rfl⟩
instance Cf105_c3 {a0 N}:IsCut 0 (ze8 a0 N) (zjM a0 N) 3:=⟨⟩
def f105 (N:Nat)(a0:ByteArray):Option (Int×Bool) :=
 zau (ze8 a0 N) λ k1 =>
 bif decide (a0=zbO) then (some ((0:Int),false))
 else (bif decide ((8:Int)<(ByteArray.size a0:Int)) then (some ((0:Int),false))
 else ((idxS a0 (0:Int)).bind λ x2 =>
 bif decide (x2=(48:Int)) then (bif decide (¬ a0=(strC [48])) then (some ((0:Int),false))
 else k1)
 else k1))
def G105 (ds:List D)(d:D):Prop:=∃ (N:Nat) (a0:ByteArray) (r:Int×Bool),ds=[strN a0]/\f105 N a0=some r/\d = .tup [iN r.1,bN r.2]
theorem G105.lend {a0}{A:_->Option ρ}{K:D->Prop}(hd:ds=[strN a0])(h:∀ r,A r=some q->K (.tup [iN r.1,bN r.2]))(hF:(f105 N a0).bind A=some q):∃ d,(G105 ds d/\d.flatB=true)/\K d:=by
 obtain⟨r,hr,hA⟩:=bind_some hF;exact⟨_,⟨⟨N,a0,r,hd,hr,rfl⟩,rfl⟩,h r hA⟩
def zgp (a0:ByteArray):Option (Bool) :=
 bif decide (¬ a0=zbO) then (some (decide ((ByteArray.size a0:Int)<=(9:Int))))
 else (some (false))
def zmZ (a0:ByteArray):Lp (Unit) Unit (Bool):=lp0 ⟨[0],[],[],[]⟩ (λ _=>[.dat (strN a0)]) (λ _=>[]) (λ _=>zgp a0)
instance Ef88_c6 {a0}:IsLp 0 0 (zgp a0) (zmZ a0) ():=⟨rfl⟩
instance Cf88_c6 {a0}:IsCut 0 (zgp a0) (zmZ a0) 6:=⟨⟩
def zrm (r2:Nat->Option (Bool))(a0:ByteArray)(k0:Option (Bool))(p101:Nat):Option (Bool) :=
 bif decide (p101<ByteArray.size a0) then ((some (zeN a0 p101)).bind λ x1 =>
 bif decide (x1.1<(97:Int)) then (some (false))
 else (bif decide ((122:Int)<x1.1) then (some (false))
 else (r2 x1.2)))
 else k0
def zm0 (a0:ByteArray)(k0:Option (Bool)):Nat->Nat->Option (Bool)
 | 0,_=>none
 | n+1,p101=>zrm (zm0 a0 k0 n) a0 k0 p101
def zuC (a0:ByteArray)(k0:Option (Bool)):Lp (Nat×Nat) Unit (Bool):=lp0 ⟨[0,6],[101],[],[]⟩ (λ (_,_)=>[.dat (strN a0), .ptr 101 0]) (λ (_,p101)=>[.sit a0 p101]) (λ (n,p101)=>zm0 a0 k0 n p101)
instance Ef88_2 {a0 k0 n p101}:IsLp 0 1 (zm0 a0 k0 n p101) (zuC a0 k0) (n,p101):=⟨rfl⟩
def f88 (N:Nat)(a0:ByteArray):Option (Bool) :=
 zau (zgp a0) λ k0 =>
 zm0 a0 k0 N 0
def G88 (ds:List D)(d:D):Prop:=∃ (N:Nat) (a0:ByteArray) (r:Bool),ds=[strN a0]/\f88 N a0=some r/\d=bN r
theorem G88.lend {a0}{A:_->Option ρ}{K:D->Prop}(hd:ds=[strN a0])(h:∀ r,A r=some q->K (bN r))(hF:(f88 N a0).bind A=some q):∃ d,(G88 ds d/\d.flatB=true)/\K d:=by
 obtain⟨r,hr,hA⟩:=bind_some hF;exact⟨_,⟨⟨N,a0,r,hd,hr,rfl⟩,rfl⟩,h r hA⟩
def f108 (N:Nat)(a0:LB)(a1:A2iN):Option (I97) :=
 (ix a0 (0:Int)).bind λ x1 =>
 bif decide (x1=(strC [115,116,111,110,101])) then ((ix a0 (1:Int)).bind λ x2 =>
 some ((I97.c199 (NewStone.mk x2 a1.e0))))
 else (bif decide (x1=(strC [101,100,105,116,105,111,110])) then ((ix a0 (1:Int)).bind λ x3 =>
 some ((I97.c201 (NewEdition.mk x3))))
 else (bif decide (x1=(strC [100,114,97,119])) then ((ix a0 (1:Int)).bind λ x4 =>
 (ix a0 (2:Int)).bind λ x5 =>
 some ((I97.c203 (Drawing.mk x4 x5))))
 else (bif decide (x1=(strC [112,97,112,101,114])) then ((ix a0 (1:Int)).bind λ x6 =>
 some ((I97.c205 (Paper.mk x6 a1.e0))))
 else (bif decide (x1=(strC [112,114,105,110,116])) then ((ix a0 (1:Int)).bind λ x7 =>
 some ((I97.c207 (Printing.mk x7 a1.e0 a1.e1))))
 else (bif decide (x1=(strC [99,108,111,115,101])) then ((ix a0 (1:Int)).bind λ x8 =>
 some ((I97.c209 (Closing.mk x8))))
 else (bif decide (x1=(strC [99,108,97,105,109])) then ((ix a0 (1:Int)).bind λ x9 =>
 (ix a0 (2:Int)).bind λ x10 =>
 some ((I97.c211 (Claiming.mk x9 x10 a1.e0))))
 else (bif decide (x1=(strC [100,101,108,105,118,101,114])) then ((ix a0 (1:Int)).bind λ x11 =>
 (ix a0 (2:Int)).bind λ x12 =>
 some ((I97.c213 (Delivery.mk (Claiming.mk x11 x12 a1.e0)))))
 else ((ix a0 (1:Int)).bind λ x13 =>
 some ((I97.c215 (Grinding.mk x13)))))))))))
def G108 (ds:List D)(d:D):Prop:=∃ (N:Nat) (a0:LB) (a1:A2iN) (r:I97),ds=[zat a0,A2iN.d a1]/\f108 N a0 a1=some r/\d=I97.d r
theorem G108.step {a0 a1}{A:_->Option ρ}{K:D->Prop}(hd:ds=[zat a0,A2iN.d a1])(h:∀ r,A r=some q->K (I97.d r))(hF:(f108 N a0 a1).bind A=some q):∃ d,G108 ds d/\K d:=by
 obtain⟨r,hr,hA⟩:=bind_some hF;exact⟨_,⟨N,a0,a1,r,hd,hr,rfl⟩,h r hA⟩
def zto (self:NewStone->LS->LE->LC->Option (Int))(N:Nat)(s0:NewStone)(s1:LS)(s2:LE)(s3:LC):Option (Int) :=
 onO (zaA s0.name s1) ((lenM s1).bind λ x2 =>
 bif decide ((x2:Int)=(8:Int)) then (some ((2:Int)))
 else (some ((0:Int)))) λ x1 =>
 some ((6:Int))
def f198:Nat->NewStone->LS->LE->LC->Option (Int)
 | 0,_,_,_,_=>none
 | N+1,s0,s1,s2,s3=>zto (f198 N) N s0 s1 s2 s3
def Af198 (s0:NewStone)(s1:LS)(s2:LE)(s3:LC):List SV:=[.dat (.agg [strN s0.name,iN s0.thick]), .ptr 0 0]
def Bf198 (s0:NewStone)(s1:LS)(s2:LE)(s3:LC):List Blk:=[.box [.mp 1, .mp 2, .mp 3],(sW [2] s1),(eW s2),(mW s3)]
def Rf198 (y:Int):List SV:=[.dat (iN y)]
def zwU (s0:NewStone)(s1:LS)(s2:LE)(s3:LC)(y:Int):List Blk:=[.box [.mp 1, .mp 2, .mp 3],(sW [2] s1),(eW s2),(mW s3)]
def zwV (y:Int):List Blk:=[]
def zlw:Spec (NewStone×LS×LE×LC) (Int):=⟨4,[],λ x=>Af198 x.1 x.2.1 x.2.2.1 x.2.2.2,λ x=>Bf198 x.1 x.2.1 x.2.2.1 x.2.2.2,λ _ y=>Rf198 y,λ x y=>zwU x.1 x.2.1 x.2.2.1 x.2.2.2 y,λ _ y=>zwV y⟩
def H198 (N:Nat)(x:NewStone×LS×LE×LC)(y:Int):Prop:=f198 N x.1 x.2.1 x.2.2.1 x.2.2.2=some y
def G198 (x:NewStone×LS×LE×LC)(y:Int):Prop:=∃ N,H198 N x y
theorem G198.step {s1 s2 s3}{s0:NewStone}{A:_->Option ρ}(ha:xs=[.dat (.agg [strN s0.name,iN s0.thick]), .ptr k0 0])(b0:m k0 = .box [.mp k1, .mp k2, .mp k3])(b1:m k1=(sW [k2] s1))(b2:m k2=(eW s2))(b3:m k3=(mW s3))(hu:True)(hn:zaU [k0,k1,k2,k3]=true)(h:∀ y,A y=some q->K ⟨.dat (iN y),[(k0, .box [.mp k1, .mp k2, .mp k3]),(k1,(sW [k2] s1)),(k2,(eW s2)),(k3,(mW s3))]⟩ ([Loc.b k0,Loc.b k1,Loc.b k2,Loc.b k3]++l))(hF:(f198 N s0 s1 s2 s3).bind A=some q):effPg zlw (G198) xs id (λ _=>SV.no) m l K:=by
 obtain⟨y,hy,hA⟩:=bind_some hF;exact zaH [k0,k1,k2,k3] (s0,s1,s2,s3) y _ ⟨N,hy⟩ rfl hn ha (by simp only[List.map_cons,List.map_nil,b0,b1,b2,b3];rfl) rfl rfl rfl (h y hA)
def zwW:Ann:=⟨[0],[0,1,2,3],[],[]⟩
def zvK:Ann:=⟨[0],[0,1,2,3],[],[]⟩
def ztp (self:NewEdition->LS->LE->LC->Option (Int))(N:Nat)(s0:NewEdition)(s1:LS)(s2:LE)(s3:LC):Option (Int) :=
 onO (zaA s0.name s2) ((lenM s2).bind λ x2 =>
 bif decide ((x2:Int)=(5:Int)) then (some ((2:Int)))
 else (some ((0:Int)))) λ x1 =>
 some ((6:Int))
def f200:Nat->NewEdition->LS->LE->LC->Option (Int)
 | 0,_,_,_,_=>none
 | N+1,s0,s1,s2,s3=>ztp (f200 N) N s0 s1 s2 s3
def Af200 (s0:NewEdition)(s1:LS)(s2:LE)(s3:LC):List SV:=[.dat (.agg [strN s0.name]), .ptr 0 0]
def Bf200 (s0:NewEdition)(s1:LS)(s2:LE)(s3:LC):List Blk:=[.box [.mp 1, .mp 2, .mp 3],(sW [2] s1),(eW s2),(mW s3)]
def Rf200 (y:Int):List SV:=[.dat (iN y)]
def zwX (s0:NewEdition)(s1:LS)(s2:LE)(s3:LC)(y:Int):List Blk:=[.box [.mp 1, .mp 2, .mp 3],(sW [2] s1),(eW s2),(mW s3)]
def zwY (y:Int):List Blk:=[]
def zlx:Spec (NewEdition×LS×LE×LC) (Int):=⟨4,[],λ x=>Af200 x.1 x.2.1 x.2.2.1 x.2.2.2,λ x=>Bf200 x.1 x.2.1 x.2.2.1 x.2.2.2,λ _ y=>Rf200 y,λ x y=>zwX x.1 x.2.1 x.2.2.1 x.2.2.2 y,λ _ y=>zwY y⟩
def H200 (N:Nat)(x:NewEdition×LS×LE×LC)(y:Int):Prop:=f200 N x.1 x.2.1 x.2.2.1 x.2.2.2=some y
def G200 (x:NewEdition×LS×LE×LC)(y:Int):Prop:=∃ N,H200 N x y
theorem G200.step {s1 s2 s3}{s0:NewEdition}{A:_->Option ρ}(ha:xs=[.dat (.agg [strN s0.name]), .ptr k0 0])(b0:m k0 = .box [.mp k1, .mp k2, .mp k3])(b1:m k1=(sW [k2] s1))(b2:m k2=(eW s2))(b3:m k3=(mW s3))(hu:True)(hn:zaU [k0,k1,k2,k3]=true)(h:∀ y,A y=some q->K ⟨.dat (iN y),[(k0, .box [.mp k1, .mp k2, .mp k3]),(k1,(sW [k2] s1)),(k2,(eW s2)),(k3,(mW s3))]⟩ ([Loc.b k0,Loc.b k1,Loc.b k2,Loc.b k3]++l))(hF:(f200 N s0 s1 s2 s3).bind A=some q):effPg zlx (G200) xs id (λ _=>SV.no) m l K:=by
 obtain⟨y,hy,hA⟩:=bind_some hF;exact zaH [k0,k1,k2,k3] (s0,s1,s2,s3) y _ ⟨N,hy⟩ rfl hn ha (by simp only[List.map_cons,List.map_nil,b0,b1,b2,b3];rfl) rfl rfl rfl (h y hA)
def zwZ:Ann:=⟨[0],[0,1,2,3],[],[]⟩
def zvL:Ann:=⟨[0],[0,1,2,3],[],[]⟩
def ztq (self:Drawing->LS->LE->LC->Option (Int))(N:Nat)(s0:Drawing)(s1:LS)(s2:LE)(s3:LC):Option (Int) :=
 onO (zaA s0.stone s1) (onO (zaA s0.edition s2) (some ((5:Int))) λ x2 =>
 some ((5:Int))) λ x1 =>
 onO (zaA s0.edition s2) (some ((5:Int))) λ x3 =>
 (getF s1 x1).bind λ x4 =>
 onO x4.of ((getF s2 x3).bind λ x6 =>
 bif x6.closed then (some ((21:Int)))
 else (some ((0:Int)))) λ x5 =>
 some ((20:Int))
def f202:Nat->Drawing->LS->LE->LC->Option (Int)
 | 0,_,_,_,_=>none
 | N+1,s0,s1,s2,s3=>ztq (f202 N) N s0 s1 s2 s3
def Af202 (s0:Drawing)(s1:LS)(s2:LE)(s3:LC):List SV:=[.dat (.agg [strN s0.stone,strN s0.edition]), .ptr 0 0]
def Bf202 (s0:Drawing)(s1:LS)(s2:LE)(s3:LC):List Blk:=[.box [.mp 1, .mp 2, .mp 3],(sW [2] s1),(eW s2),(mW s3)]
def Rf202 (y:Int):List SV:=[.dat (iN y)]
def zw0 (s0:Drawing)(s1:LS)(s2:LE)(s3:LC)(y:Int):List Blk:=[.box [.mp 1, .mp 2, .mp 3],(sW [2] s1),(eW s2),(mW s3)]
def zw1 (y:Int):List Blk:=[]
def zly:Spec (Drawing×LS×LE×LC) (Int):=⟨4,[],λ x=>Af202 x.1 x.2.1 x.2.2.1 x.2.2.2,λ x=>Bf202 x.1 x.2.1 x.2.2.1 x.2.2.2,λ _ y=>Rf202 y,λ x y=>zw0 x.1 x.2.1 x.2.2.1 x.2.2.2 y,λ _ y=>zw1 y⟩
def H202 (N:Nat)(x:Drawing×LS×LE×LC)(y:Int):Prop:=f202 N x.1 x.2.1 x.2.2.1 x.2.2.2=some y
def G202 (x:Drawing×LS×LE×LC)(y:Int):Prop:=∃ N,H202 N x y
theorem G202.step {s1 s2 s3}{s0:Drawing}{A:_->Option ρ}(ha:xs=[.dat (.agg [strN s0.stone,strN s0.edition]), .ptr k0 0])(b0:m k0 = .box [.mp k1, .mp k2, .mp k3])(b1:m k1=(sW [k2] s1))(b2:m k2=(eW s2))(b3:m k3=(mW s3))(hu:True)(hn:zaU [k0,k1,k2,k3]=true)(h:∀ y,A y=some q->K ⟨.dat (iN y),[(k0, .box [.mp k1, .mp k2, .mp k3]),(k1,(sW [k2] s1)),(k2,(eW s2)),(k3,(mW s3))]⟩ ([Loc.b k0,Loc.b k1,Loc.b k2,Loc.b k3]++l))(hF:(f202 N s0 s1 s2 s3).bind A=some q):effPg zly (G202) xs id (λ _=>SV.no) m l K:=by
 obtain⟨y,hy,hA⟩:=bind_some hF;exact zaH [k0,k1,k2,k3] (s0,s1,s2,s3) y _ ⟨N,hy⟩ rfl hn ha (by simp only[List.map_cons,List.map_nil,b0,b1,b2,b3];rfl) rfl rfl rfl (h y hA)
def zw2:Ann:=⟨[0],[0,1,2,3],[],[]⟩
def zvM:Ann:=⟨[0],[0,1,2,3],[],[]⟩
def ztr (self:Paper->LS->LE->LC->Option (Int))(N:Nat)(s0:Paper)(s1:LS)(s2:LE)(s3:LC):Option (Int) :=
 onO (zaA s0.edition s2) (some ((5:Int))) λ x1 =>
 (getF s2 x1).bind λ x2 =>
 bif decide ((0:Int)<x2.from_) then (some ((21:Int)))
 else (bif decide ((5000:Int)<(W (x2.paper+s0.n))) then (some ((16:Int)))
 else (some ((0:Int))))
def f204:Nat->Paper->LS->LE->LC->Option (Int)
 | 0,_,_,_,_=>none
 | N+1,s0,s1,s2,s3=>ztr (f204 N) N s0 s1 s2 s3
def Af204 (s0:Paper)(s1:LS)(s2:LE)(s3:LC):List SV:=[.dat (.agg [strN s0.edition,iN s0.n]), .ptr 0 0]
def Bf204 (s0:Paper)(s1:LS)(s2:LE)(s3:LC):List Blk:=[.box [.mp 1, .mp 2, .mp 3],(sW [2] s1),(eW s2),(mW s3)]
def Rf204 (y:Int):List SV:=[.dat (iN y)]
def zw3 (s0:Paper)(s1:LS)(s2:LE)(s3:LC)(y:Int):List Blk:=[.box [.mp 1, .mp 2, .mp 3],(sW [2] s1),(eW s2),(mW s3)]
def zw4 (y:Int):List Blk:=[]
def zlz:Spec (Paper×LS×LE×LC) (Int):=⟨4,[],λ x=>Af204 x.1 x.2.1 x.2.2.1 x.2.2.2,λ x=>Bf204 x.1 x.2.1 x.2.2.1 x.2.2.2,λ _ y=>Rf204 y,λ x y=>zw3 x.1 x.2.1 x.2.2.1 x.2.2.2 y,λ _ y=>zw4 y⟩
def H204 (N:Nat)(x:Paper×LS×LE×LC)(y:Int):Prop:=f204 N x.1 x.2.1 x.2.2.1 x.2.2.2=some y
def G204 (x:Paper×LS×LE×LC)(y:Int):Prop:=∃ N,H204 N x y
theorem G204.step {s1 s2 s3}{s0:Paper}{A:_->Option ρ}(ha:xs=[.dat (.agg [strN s0.edition,iN s0.n]), .ptr k0 0])(b0:m k0 = .box [.mp k1, .mp k2, .mp k3])(b1:m k1=(sW [k2] s1))(b2:m k2=(eW s2))(b3:m k3=(mW s3))(hu:True)(hn:zaU [k0,k1,k2,k3]=true)(h:∀ y,A y=some q->K ⟨.dat (iN y),[(k0, .box [.mp k1, .mp k2, .mp k3]),(k1,(sW [k2] s1)),(k2,(eW s2)),(k3,(mW s3))]⟩ ([Loc.b k0,Loc.b k1,Loc.b k2,Loc.b k3]++l))(hF:(f204 N s0 s1 s2 s3).bind A=some q):effPg zlz (G204) xs id (λ _=>SV.no) m l K:=by
 obtain⟨y,hy,hA⟩:=bind_some hF;exact zaH [k0,k1,k2,k3] (s0,s1,s2,s3) y _ ⟨N,hy⟩ rfl hn ha (by simp only[List.map_cons,List.map_nil,b0,b1,b2,b3];rfl) rfl rfl rfl (h y hA)
def zw5:Ann:=⟨[0],[0,1,2,3],[],[]⟩
def zvN:Ann:=⟨[0],[0,1,2,3],[],[]⟩
def zts (self:Printing->LS->LE->LC->Option (Int))(N:Nat)(s0:Printing)(s1:LS)(s2:LE)(s3:LC):Option (Int) :=
 onO (zaA s0.stone s1) (some ((5:Int))) λ x1 =>
 (getF s1 x1).bind λ x2 =>
 onO x2.of (some ((1:Int))) λ x3 =>
 bif decide ((W (s0.good+s0.spoilt))=(0:Int)) then (some ((1:Int)))
 else ((getF s2 x3).bind λ x4 =>
 (ix x4.places x2.place).bind λ x5 =>
 (some ()).bind λ _ =>
 bif decide (x5<(W (s0.good+s0.spoilt))) then (some ((16:Int)))
 else (some ((0:Int))))
def f206:Nat->Printing->LS->LE->LC->Option (Int)
 | 0,_,_,_,_=>none
 | N+1,s0,s1,s2,s3=>zts (f206 N) N s0 s1 s2 s3
def Af206 (s0:Printing)(s1:LS)(s2:LE)(s3:LC):List SV:=[.dat (.agg [strN s0.stone,iN s0.good,iN s0.spoilt]), .ptr 0 0]
def Bf206 (s0:Printing)(s1:LS)(s2:LE)(s3:LC):List Blk:=[.box [.mp 1, .mp 2, .mp 3],(sW [2] s1),(eW s2),(mW s3)]
def Rf206 (y:Int):List SV:=[.dat (iN y)]
def zw6 (s0:Printing)(s1:LS)(s2:LE)(s3:LC)(y:Int):List Blk:=[.box [.mp 1, .mp 2, .mp 3],(sW [2] s1),(eW s2),(mW s3)]
def zw7 (y:Int):List Blk:=[]
def zlA:Spec (Printing×LS×LE×LC) (Int):=⟨4,[],λ x=>Af206 x.1 x.2.1 x.2.2.1 x.2.2.2,λ x=>Bf206 x.1 x.2.1 x.2.2.1 x.2.2.2,λ _ y=>Rf206 y,λ x y=>zw6 x.1 x.2.1 x.2.2.1 x.2.2.2 y,λ _ y=>zw7 y⟩
def H206 (N:Nat)(x:Printing×LS×LE×LC)(y:Int):Prop:=f206 N x.1 x.2.1 x.2.2.1 x.2.2.2=some y
def G206 (x:Printing×LS×LE×LC)(y:Int):Prop:=∃ N,H206 N x y
theorem G206.step {s1 s2 s3}{s0:Printing}{A:_->Option ρ}(ha:xs=[.dat (.agg [strN s0.stone,iN s0.good,iN s0.spoilt]), .ptr k0 0])(b0:m k0 = .box [.mp k1, .mp k2, .mp k3])(b1:m k1=(sW [k2] s1))(b2:m k2=(eW s2))(b3:m k3=(mW s3))(hu:True)(hn:zaU [k0,k1,k2,k3]=true)(h:∀ y,A y=some q->K ⟨.dat (iN y),[(k0, .box [.mp k1, .mp k2, .mp k3]),(k1,(sW [k2] s1)),(k2,(eW s2)),(k3,(mW s3))]⟩ ([Loc.b k0,Loc.b k1,Loc.b k2,Loc.b k3]++l))(hF:(f206 N s0 s1 s2 s3).bind A=some q):effPg zlA (G206) xs id (λ _=>SV.no) m l K:=by
 obtain⟨y,hy,hA⟩:=bind_some hF;exact zaH [k0,k1,k2,k3] (s0,s1,s2,s3) y _ ⟨N,hy⟩ rfl hn ha (by simp only[List.map_cons,List.map_nil,b0,b1,b2,b3];rfl) rfl rfl rfl (h y hA)
def zw8:Ann:=⟨[0],[0,1,2,3],[],[]⟩
def zvO:Ann:=⟨[0],[0,1,2,3],[],[]⟩
def ztt (self:Closing->LS->LE->LC->Option (Int))(N:Nat)(s0:Closing)(s1:LS)(s2:LE)(s3:LC):Option (Int) :=
 onO (zaA s0.edition s2) (some ((5:Int))) λ x1 =>
 (getF s2 x1).bind λ x2 =>
 bif x2.closed then (some ((21:Int)))
 else ((some ()).bind λ _ =>
 bif decide ((List.length x2.places:Int)=(1:Int)) then (some ((1:Int)))
 else (some ((0:Int))))
def f208:Nat->Closing->LS->LE->LC->Option (Int)
 | 0,_,_,_,_=>none
 | N+1,s0,s1,s2,s3=>ztt (f208 N) N s0 s1 s2 s3
def Af208 (s0:Closing)(s1:LS)(s2:LE)(s3:LC):List SV:=[.dat (.agg [strN s0.edition]), .ptr 0 0]
def Bf208 (s0:Closing)(s1:LS)(s2:LE)(s3:LC):List Blk:=[.box [.mp 1, .mp 2, .mp 3],(sW [2] s1),(eW s2),(mW s3)]
def Rf208 (y:Int):List SV:=[.dat (iN y)]
def zw9 (s0:Closing)(s1:LS)(s2:LE)(s3:LC)(y:Int):List Blk:=[.box [.mp 1, .mp 2, .mp 3],(sW [2] s1),(eW s2),(mW s3)]
def zx (y:Int):List Blk:=[]
def zlB:Spec (Closing×LS×LE×LC) (Int):=⟨4,[],λ x=>Af208 x.1 x.2.1 x.2.2.1 x.2.2.2,λ x=>Bf208 x.1 x.2.1 x.2.2.1 x.2.2.2,λ _ y=>Rf208 y,λ x y=>zw9 x.1 x.2.1 x.2.2.1 x.2.2.2 y,λ _ y=>zx y⟩
def H208 (N:Nat)(x:Closing×LS×LE×LC)(y:Int):Prop:=f208 N x.1 x.2.1 x.2.2.1 x.2.2.2=some y
def G208 (x:Closing×LS×LE×LC)(y:Int):Prop:=∃ N,H208 N x y
theorem G208.step {s1 s2 s3}{s0:Closing}{A:_->Option ρ}(ha:xs=[.dat (.agg [strN s0.edition]), .ptr k0 0])(b0:m k0 = .box [.mp k1, .mp k2, .mp k3])(b1:m k1=(sW [k2] s1))(b2:m k2=(eW s2))(b3:m k3=(mW s3))(hu:True)(hn:zaU [k0,k1,k2,k3]=true)(h:∀ y,A y=some q->K ⟨.dat (iN y),[(k0, .box [.mp k1, .mp k2, .mp k3]),(k1,(sW [k2] s1)),(k2,(eW s2)),(k3,(mW s3))]⟩ ([Loc.b k0,Loc.b k1,Loc.b k2,Loc.b k3]++l))(hF:(f208 N s0 s1 s2 s3).bind A=some q):effPg zlB (G208) xs id (λ _=>SV.no) m l K:=by
 obtain⟨y,hy,hA⟩:=bind_some hF;exact zaH [k0,k1,k2,k3] (s0,s1,s2,s3) y _ ⟨N,hy⟩ rfl hn ha (by simp only[List.map_cons,List.map_nil,b0,b1,b2,b3];rfl) rfl rfl rfl (h y hA)
def zxa:Ann:=⟨[0],[0,1,2,3],[],[]⟩
def zvP:Ann:=⟨[0],[0,1,2,3],[],[]⟩
def zhy (n5:Int):Option (Int) :=
 some (n5)
def zm1:Lp (Int) Unit (Int):=lp0 ⟨[5],[],[],[]⟩ (λ n5=>[.dat (iN n5)]) (λ _=>[]) (λ n5=>zhy n5)
instance Ef64_c7 {n5}:IsLp 0 1 (zhy n5) (zm1) n5:=⟨rfl⟩
instance Cf64_c7:IsCut 1 (zhy) (zm1) 7:=⟨⟩
def zn5 (r3:Int->Int->Option (Int))(k0:Int->Option (Int))(x1:List Int)(n5:Int)(v15:Int):Option (Int) :=
 bif decide (v15<(List.length x1:Int)) then ((ix x1 v15).bind λ x2 =>
 r3 (W (n5+x2)) (W (v15+(1:Int))))
 else (k0 n5)
def zlC (k0:Int->Option (Int))(x1:List Int):Nat->Int->Int->Option (Int)
 | 0,_,_=>none
 | n+1,n5,v15=>zn5 (zlC k0 x1 n) k0 x1 n5 v15
def zuD (k0:Int->Option (Int))(x1:List Int):Lp (Nat×Int×Int) Unit (Int):=lp0 ⟨[5,13,14,15],[],[],[]⟩ (λ (_,n5,v15)=>[.dat (iN n5), .dat (zbc x1), .dat (iN (List.length x1:Int)), .dat (iN v15)]) (λ (_,_,_)=>[]) (λ (n,n5,v15)=>zlC k0 x1 n n5 v15)
instance Ef64_3 {k0 x1 n n5 v15}:IsLp 0 2 (zlC k0 x1 n n5 v15) (zuD k0 x1) (n,n5,v15):=⟨rfl⟩
def f64 (N:Nat)(a0:EditionM)(a1:Int):Option (Int) :=
 zau zhy λ k0 =>
 (sub a0.places a1 (List.length a0.places:Int)).bind λ x1 =>
 zlC k0 x1 N (0:Int) (0:Int)
def G64 (ds:List D)(d:D):Prop:=∃ (N:Nat) (a0:EditionM) (a1:Int) (r:Int),ds=[EditionM.pt a0,iN a1]/\f64 N a0 a1=some r/\d=iN r
theorem G64.lend {a0 a1}{A:_->Option ρ}{K:D->Prop}(hd:ds=[EditionM.pt a0,iN a1])(h:∀ r,A r=some q->K (iN r))(hF:(f64 N a0 a1).bind A=some q):∃ d,(G64 ds d/\d.flatB=true)/\K d:=by
 obtain⟨r,hr,hA⟩:=bind_some hF;exact⟨_,⟨⟨N,a0,a1,r,hd,hr,rfl⟩,rfl⟩,h r hA⟩
abbrev zm2 (l:List Int):Int:=W ((List.length l:Int)-(1:Int))
abbrev zm3 (x:EditionM):Int:=zm2 x.places
def zlD:Spec (Nat×LE×EditionM) Unit:=⟨2,[],λ x=>[.po 0 x.1 0],λ x=>[.fam [] (encF strN EditionM.m x.2.1) [(x.1,2,1)], .row 3 1 (List.map iN x.2.2.places)],λ x _=>[.rp 1 1 (zm3 x.2.2).toNat 0],
 λ x _=>[.fam [] (encF strN EditionM.m x.2.1) [(x.1,2,1)], .row 3 1 (List.map iN x.2.2.places)],λ _ _=>[]⟩
def G213 (x:Nat×LE×EditionM)(y:Unit):Prop:=getF x.2.1 x.1=some x.2.2/\0<=zm3 x.2.2/\zm3 x.2.2<x.2.2.places.length
theorem G213.step {i:Nat}{es:LE}{x:EditionM}{pl:List Int}{A:_->Option ρ}(ha:xs=[.po k0 i 0])(b0:m k0=(eW es))(hu:m id = .unborn)(hx:getF es i=some x)(hp:x.places=pl)(hne:zaU [k0,id]=true)
  (h:∀ y,pl[(zm2 pl).toNat]? = some y->A y=some q->K ⟨.rp id 1 (zm2 pl).toNat 0,[(k0, .fam [] (encF strN EditionM.m es) [(i,2,id)]),(id, .row 3 1 (List.map iN pl)),(id, .row 3 1 (List.map iN pl)),(k0, .fam [] (encF strN EditionM.m es) [(i,2,id)])]⟩ ([Loc.b k0,Loc.b id,Loc.b id,Loc.b k0]++l)) (hF:(ix pl (zm2 pl)).bind A=some q):preTake 2 (effPg zlD G213) xs id (λ _=>SV.no) m l K:=by
 subst hp;obtain⟨y,hy,hA⟩:=bind_some hF;unfold ix at hy
 split at hy
 .rename_i h0
  have hlt:=(zyR.1 hy).1
  have h1:zm2 x.places<x.places.length:=by generalize zm2 x.places=k at *;omega
  have hk:id≠k0:=by
   intro e;subst e;simp[zaU,memB] at hne
  obtain⟨key,hkey⟩:=za2.1 hx;subst ha;refine⟨k0,i,0,[],[],_,[],3,1,List.map iN x.places,rfl,b0, ?_,hu,zav, ?_⟩
  .unfold mcAt;rw[zbI,hkey];rfl
  refine zaH (S:=zlD) (G:=G213) (K:=λ δ l' => K ⟨δ.val,δ.wr++[(id, .row 3 1 (List.map iN x.places)),(k0, .fam [] (encF strN EditionM.m es) [(i,2,id)])]⟩ l') (v := .rp id 1 (zm3 x).toNat 0) [k0,id] (i,es,x) () [(k0, .fam [] (encF strN EditionM.m es) [(i,2,id)]),(id, .row 3 1 (List.map iN x.places))] (show G213 (i,es,x) () from ⟨hx,h0,h1⟩) rfl hne rfl ?_ rfl rfl rfl (h y hy hA);simp only[List.map_cons,List.map_nil,zaa,if_neg hk,if_pos];rfl
 .cases hy
def ztu (self:NewStone->LS->LE->LC->Option (LS))(N:Nat)(s0:NewStone)(s1:LS)(s2:LE)(s3:LC):Option (LS) :=
 (insF s0.name (StoneM.mk s0.thick none (0:Int)) s1).bind λ x1 =>
 some (x1)
def f197:Nat->NewStone->LS->LE->LC->Option (LS)
 | 0,_,_,_,_=>none
 | N+1,s0,s1,s2,s3=>ztu (f197 N) N s0 s1 s2 s3
def Af197 (s0:NewStone)(s1:LS)(s2:LE)(s3:LC):List SV:=[.dat (.agg [strN s0.name,iN s0.thick]), .ptr 0 0]
def Bf197 (s0:NewStone)(s1:LS)(s2:LE)(s3:LC):List Blk:=[.box [.mp 1, .mp 2, .mp 3],(sW [2] s1),(eW s2),(mW s3)]
def Rf197 (y:LS):List SV:=[]
def zxb (s0:NewStone)(s1:LS)(s2:LE)(s3:LC)(y:LS):List Blk:=[.box [.mp 1, .mp 2, .mp 3],(sW [2] y),(eW s2),(mW s3)]
def zxc (y:LS):List Blk:=[]
def zlE:Spec (NewStone×LS×LE×LC) (LS):=⟨4,[],λ x=>Af197 x.1 x.2.1 x.2.2.1 x.2.2.2,λ x=>Bf197 x.1 x.2.1 x.2.2.1 x.2.2.2,λ _ y=>Rf197 y,λ x y=>zxb x.1 x.2.1 x.2.2.1 x.2.2.2 y,λ _ y=>zxc y⟩
def H197 (N:Nat)(x:NewStone×LS×LE×LC)(y:LS):Prop:=f197 N x.1 x.2.1 x.2.2.1 x.2.2.2=some y
def G197 (x:NewStone×LS×LE×LC)(y:LS):Prop:=∃ N,H197 N x y
theorem G197.step {s1 s2 s3}{s0:NewStone}{A:_->Option ρ}(ha:xs=[.dat (.agg [strN s0.name,iN s0.thick]), .ptr k0 0])(b0:m k0 = .box [.mp k1, .mp k2, .mp k3])(b1:m k1=(sW [k2] s1))(b2:m k2=(eW s2))(b3:m k3=(mW s3))(hu:True)(hn:zaU [k0,k1,k2,k3]=true)(h:∀ y,A y=some q->K ⟨.tup [],[(k0, .box [.mp k1, .mp k2, .mp k3]),(k1,(sW [k2] y)),(k2,(eW s2)),(k3,(mW s3))]⟩ ([Loc.b k0,Loc.b k1,Loc.b k2,Loc.b k3]++l))(hF:(f197 N s0 s1 s2 s3).bind A=some q):effPg zlE (G197) xs id (λ _=>SV.no) m l K:=by
 obtain⟨y,hy,hA⟩:=bind_some hF;exact zaH [k0,k1,k2,k3] (s0,s1,s2,s3) y _ ⟨N,hy⟩ rfl hn ha (by simp only[List.map_cons,List.map_nil,b0,b1,b2,b3];rfl) rfl rfl rfl (h y hA)
def zxd:Ann:=⟨[],[0,1,2,3],[],[]⟩
def zvQ:Ann:=⟨[],[0,1,2,3],[],[]⟩
def ztv (self:NewEdition->LS->LE->LC->Option (LE))(N:Nat)(s0:NewEdition)(s1:LS)(s2:LE)(s3:LC):Option (LE) :=
 (insF s0.name (EditionM.mk s0.name false [(0:Int)] (0:Int) (0:Int) (0:Int) (0:Int) [] (0:Int)) s2).bind λ x1 =>
 some (x1)
def f199:Nat->NewEdition->LS->LE->LC->Option (LE)
 | 0,_,_,_,_=>none
 | N+1,s0,s1,s2,s3=>ztv (f199 N) N s0 s1 s2 s3
def Af199 (s0:NewEdition)(s1:LS)(s2:LE)(s3:LC):List SV:=[.dat (.agg [strN s0.name]), .ptr 0 0]
def Bf199 (s0:NewEdition)(s1:LS)(s2:LE)(s3:LC):List Blk:=[.box [.mp 1, .mp 2, .mp 3],(sW [2] s1),(eW s2),(mW s3)]
def Rf199 (y:LE):List SV:=[]
def zxe (s0:NewEdition)(s1:LS)(s2:LE)(s3:LC)(y:LE):List Blk:=[.box [.mp 1, .mp 2, .mp 3],(sW [2] s1),(eW y),(mW s3)]
def zxf (y:LE):List Blk:=[]
def zlF:Spec (NewEdition×LS×LE×LC) (LE):=⟨4,[],λ x=>Af199 x.1 x.2.1 x.2.2.1 x.2.2.2,λ x=>Bf199 x.1 x.2.1 x.2.2.1 x.2.2.2,λ _ y=>Rf199 y,λ x y=>zxe x.1 x.2.1 x.2.2.1 x.2.2.2 y,λ _ y=>zxf y⟩
def H199 (N:Nat)(x:NewEdition×LS×LE×LC)(y:LE):Prop:=f199 N x.1 x.2.1 x.2.2.1 x.2.2.2=some y
def G199 (x:NewEdition×LS×LE×LC)(y:LE):Prop:=∃ N,H199 N x y
theorem G199.step {s1 s2 s3}{s0:NewEdition}{A:_->Option ρ}(ha:xs=[.dat (.agg [strN s0.name]), .ptr k0 0])(b0:m k0 = .box [.mp k1, .mp k2, .mp k3])(b1:m k1=(sW [k2] s1))(b2:m k2=(eW s2))(b3:m k3=(mW s3))(hu:True)(hn:zaU [k0,k1,k2,k3]=true)(h:∀ y,A y=some q->K ⟨.tup [],[(k0, .box [.mp k1, .mp k2, .mp k3]),(k1,(sW [k2] s1)),(k2,(eW y)),(k3,(mW s3))]⟩ ([Loc.b k0,Loc.b k1,Loc.b k2,Loc.b k3]++l))(hF:(f199 N s0 s1 s2 s3).bind A=some q):effPg zlF (G199) xs id (λ _=>SV.no) m l K:=by
 obtain⟨y,hy,hA⟩:=bind_some hF;exact zaH [k0,k1,k2,k3] (s0,s1,s2,s3) y _ ⟨N,hy⟩ rfl hn ha (by simp only[List.map_cons,List.map_nil,b0,b1,b2,b3];rfl) rfl rfl rfl (h y hA)
def zxg:Ann:=⟨[],[0,1,2,3],[],[]⟩
def zvR:Ann:=⟨[],[0,1,2,3],[],[]⟩
def ztw (self:Drawing->LS->LE->LC->Option (LS×LE))(N:Nat)(s0:Drawing)(s1:LS)(s2:LE)(s3:LC):Option (LS×LE) :=
 onO (zaA s0.stone s1) (onO (zaA s0.edition s2) none λ x2 =>
 (getF s2 x2).bind λ x3 =>
 none) λ x1 =>
 onO (zaA s0.edition s2) none λ x4 =>
 (getF s2 x4).bind λ x5 =>
 (getF s1 x1).bind λ x6 =>
 (some (setF s1 x1 ({ x6 with of:=(some x4) }))).bind λ x7 =>
 (some (setF x7 x1 ({ x6 with of:=(some x4),place:=W ((List.length x5.places:Int)-(1:Int)) }))).bind λ x8 =>
 (some ()).bind λ _ =>
 (app 8 x5.places [(0:Int)]).bind λ x9 =>
 (some (setF s2 x4 ({ x5 with places:=x9 }))).bind λ x10 =>
 some (x8,x10)
def f201:Nat->Drawing->LS->LE->LC->Option (LS×LE)
 | 0,_,_,_,_=>none
 | N+1,s0,s1,s2,s3=>ztw (f201 N) N s0 s1 s2 s3
def Af201 (s0:Drawing)(s1:LS)(s2:LE)(s3:LC):List SV:=[.dat (.agg [strN s0.stone,strN s0.edition]), .ptr 0 0]
def Bf201 (s0:Drawing)(s1:LS)(s2:LE)(s3:LC):List Blk:=[.box [.mp 1, .mp 2, .mp 3],(sW [2] s1),(eW s2),(mW s3)]
def Rf201 (y:LS×LE):List SV:=[]
def zxh (s0:Drawing)(s1:LS)(s2:LE)(s3:LC)(y:LS×LE):List Blk:=[.box [.mp 1, .mp 2, .mp 3],(sW [2] y.1),(eW y.2),(mW s3)]
def zxi (y:LS×LE):List Blk:=[]
def zlG:Spec (Drawing×LS×LE×LC) (LS×LE):=⟨4,[],λ x=>Af201 x.1 x.2.1 x.2.2.1 x.2.2.2,λ x=>Bf201 x.1 x.2.1 x.2.2.1 x.2.2.2,λ _ y=>Rf201 y,λ x y=>zxh x.1 x.2.1 x.2.2.1 x.2.2.2 y,λ _ y=>zxi y⟩
def H201 (N:Nat)(x:Drawing×LS×LE×LC)(y:LS×LE):Prop:=f201 N x.1 x.2.1 x.2.2.1 x.2.2.2=some y
def G201 (x:Drawing×LS×LE×LC)(y:LS×LE):Prop:=∃ N,H201 N x y
theorem G201.step {s1 s2 s3}{s0:Drawing}{A:_->Option ρ}(ha:xs=[.dat (.agg [strN s0.stone,strN s0.edition]), .ptr k0 0])(b0:m k0 = .box [.mp k1, .mp k2, .mp k3])(b1:m k1=(sW [k2] s1))(b2:m k2=(eW s2))(b3:m k3=(mW s3))(hu:True)(hn:zaU [k0,k1,k2,k3]=true)(h:∀ y,A y=some q->K ⟨.tup [],[(k0, .box [.mp k1, .mp k2, .mp k3]),(k1,(sW [k2] y.1)),(k2,(eW y.2)),(k3,(mW s3))]⟩ ([Loc.b k0,Loc.b k1,Loc.b k2,Loc.b k3]++l))(hF:(f201 N s0 s1 s2 s3).bind A=some q):effPg zlG (G201) xs id (λ _=>SV.no) m l K:=by
 obtain⟨y,hy,hA⟩:=bind_some hF;exact zaH [k0,k1,k2,k3] (s0,s1,s2,s3) y _ ⟨N,hy⟩ rfl hn ha (by simp only[List.map_cons,List.map_nil,b0,b1,b2,b3];rfl) rfl rfl rfl (h y hA)
def zxj:Ann:=⟨[],[0,1,2,3],[],[]⟩
def zvS:Ann:=⟨[],[0,1,2,3],[],[]⟩
def ztx (self:Paper->LS->LE->LC->Option (LE))(N:Nat)(s0:Paper)(s1:LS)(s2:LE)(s3:LC):Option (LE) :=
 onO (zaA s0.edition s2) none λ x1 =>
 (getF s2 x1).bind λ x2 =>
 (some (setF s2 x1 ({ x2 with paper:=W (x2.paper+s0.n) }))).bind λ x3 =>
 (ix x2.places (0:Int)).bind λ x4 =>
 (ix x2.places (0:Int)).bind λ x5 =>
 (setx x2.places (0:Int) (W (x4+s0.n))).bind λ x6 =>
 (some (setF x3 x1 ({ x2 with places:=x6,paper:=W (x2.paper+s0.n) }))).bind λ x7 =>
 some (x7)
def f203:Nat->Paper->LS->LE->LC->Option (LE)
 | 0,_,_,_,_=>none
 | N+1,s0,s1,s2,s3=>ztx (f203 N) N s0 s1 s2 s3
def Af203 (s0:Paper)(s1:LS)(s2:LE)(s3:LC):List SV:=[.dat (.agg [strN s0.edition,iN s0.n]), .ptr 0 0]
def Bf203 (s0:Paper)(s1:LS)(s2:LE)(s3:LC):List Blk:=[.box [.mp 1, .mp 2, .mp 3],(sW [2] s1),(eW s2),(mW s3)]
def Rf203 (y:LE):List SV:=[]
def zxk (s0:Paper)(s1:LS)(s2:LE)(s3:LC)(y:LE):List Blk:=[.box [.mp 1, .mp 2, .mp 3],(sW [2] s1),(eW y),(mW s3)]
def zxl (y:LE):List Blk:=[]
def zlH:Spec (Paper×LS×LE×LC) (LE):=⟨4,[],λ x=>Af203 x.1 x.2.1 x.2.2.1 x.2.2.2,λ x=>Bf203 x.1 x.2.1 x.2.2.1 x.2.2.2,λ _ y=>Rf203 y,λ x y=>zxk x.1 x.2.1 x.2.2.1 x.2.2.2 y,λ _ y=>zxl y⟩
def H203 (N:Nat)(x:Paper×LS×LE×LC)(y:LE):Prop:=f203 N x.1 x.2.1 x.2.2.1 x.2.2.2=some y
def G203 (x:Paper×LS×LE×LC)(y:LE):Prop:=∃ N,H203 N x y
theorem G203.step {s1 s2 s3}{s0:Paper}{A:_->Option ρ}(ha:xs=[.dat (.agg [strN s0.edition,iN s0.n]), .ptr k0 0])(b0:m k0 = .box [.mp k1, .mp k2, .mp k3])(b1:m k1=(sW [k2] s1))(b2:m k2=(eW s2))(b3:m k3=(mW s3))(hu:True)(hn:zaU [k0,k1,k2,k3]=true)(h:∀ y,A y=some q->K ⟨.tup [],[(k0, .box [.mp k1, .mp k2, .mp k3]),(k1,(sW [k2] s1)),(k2,(eW y)),(k3,(mW s3))]⟩ ([Loc.b k0,Loc.b k1,Loc.b k2,Loc.b k3]++l))(hF:(f203 N s0 s1 s2 s3).bind A=some q):effPg zlH (G203) xs id (λ _=>SV.no) m l K:=by
 obtain⟨y,hy,hA⟩:=bind_some hF;exact zaH [k0,k1,k2,k3] (s0,s1,s2,s3) y _ ⟨N,hy⟩ rfl hn ha (by simp only[List.map_cons,List.map_nil,b0,b1,b2,b3];rfl) rfl rfl rfl (h y hA)
def zxm:Ann:=⟨[],[0,1,2,3],[],[]⟩
def zvT:Ann:=⟨[],[0,1,2,3],[],[]⟩
def zty (self:Printing->LS->LE->LC->Option (LE))(N:Nat)(s0:Printing)(s1:LS)(s2:LE)(s3:LC):Option (LE) :=
 onO (zaA s0.stone s1) none λ x1 =>
 (getF s1 x1).bind λ x2 =>
 onO x2.of none λ x3 =>
 (getF s2 x3).bind λ x4 =>
 (ix x4.places x2.place).bind λ x5 =>
 (ix x4.places x2.place).bind λ x6 =>
 (setx x4.places x2.place (W (x5-(W (s0.good+s0.spoilt))))).bind λ x7 =>
 (some (setF s2 x3 ({ x4 with places:=x7 }))).bind λ x8 =>
 (ix x7 (W (x2.place+(1:Int)))).bind λ x9 =>
 (ix x7 (W (x2.place+(1:Int)))).bind λ x10 =>
 (setx x7 (W (x2.place+(1:Int))) (W (x9+s0.good))).bind λ x11 =>
 (some (setF x8 x3 ({ x4 with places:=x11 }))).bind λ x12 =>
 (some (setF x12 x3 ({ x4 with places:=x11,spoilt:=W (x4.spoilt+s0.spoilt) }))).bind λ x13 =>
 some (x13)
def f205:Nat->Printing->LS->LE->LC->Option (LE)
 | 0,_,_,_,_=>none
 | N+1,s0,s1,s2,s3=>zty (f205 N) N s0 s1 s2 s3
def Af205 (s0:Printing)(s1:LS)(s2:LE)(s3:LC):List SV:=[.dat (.agg [strN s0.stone,iN s0.good,iN s0.spoilt]), .ptr 0 0]
def Bf205 (s0:Printing)(s1:LS)(s2:LE)(s3:LC):List Blk:=[.box [.mp 1, .mp 2, .mp 3],(sW [2] s1),(eW s2),(mW s3)]
def Rf205 (y:LE):List SV:=[]
def zxn (s0:Printing)(s1:LS)(s2:LE)(s3:LC)(y:LE):List Blk:=[.box [.mp 1, .mp 2, .mp 3],(sW [2] s1),(eW y),(mW s3)]
def zxo (y:LE):List Blk:=[]
def zlI:Spec (Printing×LS×LE×LC) (LE):=⟨4,[],λ x=>Af205 x.1 x.2.1 x.2.2.1 x.2.2.2,λ x=>Bf205 x.1 x.2.1 x.2.2.1 x.2.2.2,λ _ y=>Rf205 y,λ x y=>zxn x.1 x.2.1 x.2.2.1 x.2.2.2 y,λ _ y=>zxo y⟩
def H205 (N:Nat)(x:Printing×LS×LE×LC)(y:LE):Prop:=f205 N x.1 x.2.1 x.2.2.1 x.2.2.2=some y
def G205 (x:Printing×LS×LE×LC)(y:LE):Prop:=∃ N,H205 N x y
theorem G205.step {s1 s2 s3}{s0:Printing}{A:_->Option ρ}(ha:xs=[.dat (.agg [strN s0.stone,iN s0.good,iN s0.spoilt]), .ptr k0 0])(b0:m k0 = .box [.mp k1, .mp k2, .mp k3])(b1:m k1=(sW [k2] s1))(b2:m k2=(eW s2))(b3:m k3=(mW s3))(hu:True)(hn:zaU [k0,k1,k2,k3]=true)(h:∀ y,A y=some q->K ⟨.tup [],[(k0, .box [.mp k1, .mp k2, .mp k3]),(k1,(sW [k2] s1)),(k2,(eW y)),(k3,(mW s3))]⟩ ([Loc.b k0,Loc.b k1,Loc.b k2,Loc.b k3]++l))(hF:(f205 N s0 s1 s2 s3).bind A=some q):effPg zlI (G205) xs id (λ _=>SV.no) m l K:=by
 obtain⟨y,hy,hA⟩:=bind_some hF;exact zaH [k0,k1,k2,k3] (s0,s1,s2,s3) y _ ⟨N,hy⟩ rfl hn ha (by simp only[List.map_cons,List.map_nil,b0,b1,b2,b3];rfl) rfl rfl rfl (h y hA)
def zxp:Ann:=⟨[],[0,1,2,3],[],[]⟩
def zvU:Ann:=⟨[],[0,1,2,3],[],[]⟩
def ztz (self:Closing->LS->LE->LC->Option (LE))(N:Nat)(s0:Closing)(s1:LS)(s2:LE)(s3:LC):Option (LE) :=
 onO (zaA s0.edition s2) none λ x1 =>
 (getF s2 x1).bind λ x2 =>
 (some (setF s2 x1 ({ x2 with closed:=true }))).bind λ x3 =>
 some (x3)
def f207:Nat->Closing->LS->LE->LC->Option (LE)
 | 0,_,_,_,_=>none
 | N+1,s0,s1,s2,s3=>ztz (f207 N) N s0 s1 s2 s3
def Af207 (s0:Closing)(s1:LS)(s2:LE)(s3:LC):List SV:=[.dat (.agg [strN s0.edition]), .ptr 0 0]
def Bf207 (s0:Closing)(s1:LS)(s2:LE)(s3:LC):List Blk:=[.box [.mp 1, .mp 2, .mp 3],(sW [2] s1),(eW s2),(mW s3)]
def Rf207 (y:LE):List SV:=[]
def zxq (s0:Closing)(s1:LS)(s2:LE)(s3:LC)(y:LE):List Blk:=[.box [.mp 1, .mp 2, .mp 3],(sW [2] s1),(eW y),(mW s3)]
def zxr (y:LE):List Blk:=[]
def zlJ:Spec (Closing×LS×LE×LC) (LE):=⟨4,[],λ x=>Af207 x.1 x.2.1 x.2.2.1 x.2.2.2,λ x=>Bf207 x.1 x.2.1 x.2.2.1 x.2.2.2,λ _ y=>Rf207 y,λ x y=>zxq x.1 x.2.1 x.2.2.1 x.2.2.2 y,λ _ y=>zxr y⟩
def H207 (N:Nat)(x:Closing×LS×LE×LC)(y:LE):Prop:=f207 N x.1 x.2.1 x.2.2.1 x.2.2.2=some y
def G207 (x:Closing×LS×LE×LC)(y:LE):Prop:=∃ N,H207 N x y
theorem G207.step {s1 s2 s3}{s0:Closing}{A:_->Option ρ}(ha:xs=[.dat (.agg [strN s0.edition]), .ptr k0 0])(b0:m k0 = .box [.mp k1, .mp k2, .mp k3])(b1:m k1=(sW [k2] s1))(b2:m k2=(eW s2))(b3:m k3=(mW s3))(hu:True)(hn:zaU [k0,k1,k2,k3]=true)(h:∀ y,A y=some q->K ⟨.tup [],[(k0, .box [.mp k1, .mp k2, .mp k3]),(k1,(sW [k2] s1)),(k2,(eW y)),(k3,(mW s3))]⟩ ([Loc.b k0,Loc.b k1,Loc.b k2,Loc.b k3]++l))(hF:(f207 N s0 s1 s2 s3).bind A=some q):effPg zlJ (G207) xs id (λ _=>SV.no) m l K:=by
 obtain⟨y,hy,hA⟩:=bind_some hF;exact zaH [k0,k1,k2,k3] (s0,s1,s2,s3) y _ ⟨N,hy⟩ rfl hn ha (by simp only[List.map_cons,List.map_nil,b0,b1,b2,b3];rfl) rfl rfl rfl (h y hA)
def zxs:Ann:=⟨[],[0,1,2,3],[],[]⟩
def zvV:Ann:=⟨[],[0,1,2,3],[],[]⟩
def ztA (self:Claiming->LS->LE->LC->Option (LE×LC))(N:Nat)(s0:Claiming)(s1:LS)(s2:LE)(s3:LC):Option (LE×LC) :=
 (some (setK s0.customer true s3)).bind λ x1 =>
 onO (zaA s0.edition s2) none λ x2 =>
 (getF s2 x2).bind λ x3 =>
 (some (zbB (0:Int) s0.customer x3.owed)).bind λ x4 =>
 (some (setK s0.customer (W (x4.1+s0.n)) x3.owed)).bind λ x5 =>
 (some (setF s2 x2 ({ x3 with owed:=x5 }))).bind λ x6 =>
 (some (setF x6 x2 ({ x3 with owed:=x5,open_:=W (x3.open_+s0.n) }))).bind λ x7 =>
 some (x7,x1)
def f209:Nat->Claiming->LS->LE->LC->Option (LE×LC)
 | 0,_,_,_,_=>none
 | N+1,s0,s1,s2,s3=>ztA (f209 N) N s0 s1 s2 s3
def Af209 (s0:Claiming)(s1:LS)(s2:LE)(s3:LC):List SV:=[.dat (.agg [strN s0.customer,strN s0.edition,iN s0.n]), .ptr 0 0]
def Bf209 (s0:Claiming)(s1:LS)(s2:LE)(s3:LC):List Blk:=[.box [.mp 1, .mp 2, .mp 3],(sW [2] s1),(eW s2),(mW s3)]
def Rf209 (y:LE×LC):List SV:=[]
def zxt (s0:Claiming)(s1:LS)(s2:LE)(s3:LC)(y:LE×LC):List Blk:=[.box [.mp 1, .mp 2, .mp 3],(sW [2] s1),(eW y.1),(mW y.2)]
def zxu (y:LE×LC):List Blk:=[]
def zlK:Spec (Claiming×LS×LE×LC) (LE×LC):=⟨4,[],λ x=>Af209 x.1 x.2.1 x.2.2.1 x.2.2.2,λ x=>Bf209 x.1 x.2.1 x.2.2.1 x.2.2.2,λ _ y=>Rf209 y,λ x y=>zxt x.1 x.2.1 x.2.2.1 x.2.2.2 y,λ _ y=>zxu y⟩
def H209 (N:Nat)(x:Claiming×LS×LE×LC)(y:LE×LC):Prop:=f209 N x.1 x.2.1 x.2.2.1 x.2.2.2=some y
def G209 (x:Claiming×LS×LE×LC)(y:LE×LC):Prop:=∃ N,H209 N x y
theorem G209.step {s1 s2 s3}{s0:Claiming}{A:_->Option ρ}(ha:xs=[.dat (.agg [strN s0.customer,strN s0.edition,iN s0.n]), .ptr k0 0])(b0:m k0 = .box [.mp k1, .mp k2, .mp k3])(b1:m k1=(sW [k2] s1))(b2:m k2=(eW s2))(b3:m k3=(mW s3))(hu:True)(hn:zaU [k0,k1,k2,k3]=true)(h:∀ y,A y=some q->K ⟨.tup [],[(k0, .box [.mp k1, .mp k2, .mp k3]),(k1,(sW [k2] s1)),(k2,(eW y.1)),(k3,(mW y.2))]⟩ ([Loc.b k0,Loc.b k1,Loc.b k2,Loc.b k3]++l))(hF:(f209 N s0 s1 s2 s3).bind A=some q):effPg zlK (G209) xs id (λ _=>SV.no) m l K:=by
 obtain⟨y,hy,hA⟩:=bind_some hF;exact zaH [k0,k1,k2,k3] (s0,s1,s2,s3) y _ ⟨N,hy⟩ rfl hn ha (by simp only[List.map_cons,List.map_nil,b0,b1,b2,b3];rfl) rfl rfl rfl (h y hA)
def zxv:Ann:=⟨[],[0,1,2,3],[],[]⟩
def zvW:Ann:=⟨[],[0,1,2,3],[],[]⟩
def ztB (self:Grinding->LS->LE->LC->Option (LS×LE))(N:Nat)(s0:Grinding)(s1:LS)(s2:LE)(s3:LC):Option (LS×LE) :=
 onO (zaA s0.stone s1) none λ x1 =>
 (getF s1 x1).bind λ x2 =>
 onO x2.of none λ x3 =>
 (getF s2 x3).bind λ x4 =>
 (some (setF s2 x3 ({ x4 with from_:=max x4.from_ (W (x2.place+(1:Int))) }))).bind λ x5 =>
 (some (setF s1 x1 (StoneM.mk (W (x2.thick-(1:Int))) none (0:Int)))).bind λ x6 =>
 some (x6,x5)
def f214:Nat->Grinding->LS->LE->LC->Option (LS×LE)
 | 0,_,_,_,_=>none
 | N+1,s0,s1,s2,s3=>ztB (f214 N) N s0 s1 s2 s3
def Af214 (s0:Grinding)(s1:LS)(s2:LE)(s3:LC):List SV:=[.dat (.agg [strN s0.stone]), .ptr 0 0]
def Bf214 (s0:Grinding)(s1:LS)(s2:LE)(s3:LC):List Blk:=[.box [.mp 1, .mp 2, .mp 3],(sW [2] s1),(eW s2),(mW s3)]
def Rf214 (y:LS×LE):List SV:=[]
def zxw (s0:Grinding)(s1:LS)(s2:LE)(s3:LC)(y:LS×LE):List Blk:=[.box [.mp 1, .mp 2, .mp 3],(sW [2] y.1),(eW y.2),(mW s3)]
def zxx (y:LS×LE):List Blk:=[]
def zlL:Spec (Grinding×LS×LE×LC) (LS×LE):=⟨4,[],λ x=>Af214 x.1 x.2.1 x.2.2.1 x.2.2.2,λ x=>Bf214 x.1 x.2.1 x.2.2.1 x.2.2.2,λ _ y=>Rf214 y,λ x y=>zxw x.1 x.2.1 x.2.2.1 x.2.2.2 y,λ _ y=>zxx y⟩
def H214 (N:Nat)(x:Grinding×LS×LE×LC)(y:LS×LE):Prop:=f214 N x.1 x.2.1 x.2.2.1 x.2.2.2=some y
def G214 (x:Grinding×LS×LE×LC)(y:LS×LE):Prop:=∃ N,H214 N x y
theorem G214.step {s1 s2 s3}{s0:Grinding}{A:_->Option ρ}(ha:xs=[.dat (.agg [strN s0.stone]), .ptr k0 0])(b0:m k0 = .box [.mp k1, .mp k2, .mp k3])(b1:m k1=(sW [k2] s1))(b2:m k2=(eW s2))(b3:m k3=(mW s3))(hu:True)(hn:zaU [k0,k1,k2,k3]=true)(h:∀ y,A y=some q->K ⟨.tup [],[(k0, .box [.mp k1, .mp k2, .mp k3]),(k1,(sW [k2] y.1)),(k2,(eW y.2)),(k3,(mW s3))]⟩ ([Loc.b k0,Loc.b k1,Loc.b k2,Loc.b k3]++l))(hF:(f214 N s0 s1 s2 s3).bind A=some q):effPg zlL (G214) xs id (λ _=>SV.no) m l K:=by
 obtain⟨y,hy,hA⟩:=bind_some hF;exact zaH [k0,k1,k2,k3] (s0,s1,s2,s3) y _ ⟨N,hy⟩ rfl hn ha (by simp only[List.map_cons,List.map_nil,b0,b1,b2,b3];rfl) rfl rfl rfl (h y hA)
def zxy:Ann:=⟨[],[0,1,2,3],[],[]⟩
def zvX:Ann:=⟨[],[0,1,2,3],[],[]⟩
def f30 (N:Nat)(a0:Int):Option (ByteArray) :=
 match N with|0=>none|_+1=>(if 0<=a0/\a0<1000000 then some ⟨(digs 7 a0.toNat).toArray⟩ else none)
def G30 (ds:List D)(d:D):Prop:=∃ (N:Nat) (a0:Int) (r:ByteArray),ds=[iN a0]/\f30 N a0=some r/\d=strN r
theorem G30.lend {a0}{A:_->Option ρ}{K:D->Prop}(hd:ds=[iN a0])(h:∀ r,A r=some q->K (strN r))(hF:(f30 N a0).bind A=some q):∃ d,(G30 ds d/\d.flatB=true)/\K d:=by
 obtain⟨r,hr,hA⟩:=bind_some hF;exact⟨_,⟨⟨N,a0,r,hd,hr,rfl⟩,rfl⟩,h r hA⟩
theorem P30:PureOK Tryz.prog 30 G30:=by
 rintro w Z vs ds d hZ hl hr hg ⟨N,a0,r,rfl,hF,rfl⟩
 rcases N with _|N
 .cases hF
 simp only[f30] at hF
 split at hF
 .rename_i h
  cases hF
  obtain⟨v,rfl,h1⟩:=zwN hl hr;obtain⟨rfl,l1⟩:=zwT h1;refine(Go.Proofs.Tryz.strconv_Itoa a0 (by omega) (by omega) w (zwS ztm hg)).mono ?_;rintro e w' ⟨rfl,k,os,rfl⟩
  have he:Lib.itoa a0=digs 7 a0.toNat:=by
   rw[Lib.itoa,if_neg (by omega),zvG 6 a0.toNat (by omega)]
  rw[he];refine⟨_,rfl,ztl _ _ _, .v ?_⟩;show ByteArray.size _<=maxLen;have:=zfI 7 a0.toNat;simp only[ByteArray.size,List.size_toArray,maxLen];omega
 .cases hF
def f117 (N:Nat)(a0:Int)(a1:Int)(a2:Int):Option (Bool) :=
 bif decide (a0<=a1) then (some (decide (a1<=a2)))
 else (some (false))
def G117 (ds:List D)(d:D):Prop:=∃ (N:Nat) (a0:Int) (a1:Int) (a2:Int) (r:Bool),ds=[iN a0,iN a1,iN a2]/\f117 N a0 a1 a2=some r/\d=bN r
theorem G117.lend {a0 a1 a2}{A:_->Option ρ}{K:D->Prop}(hd:ds=[iN a0,iN a1,iN a2])(h:∀ r,A r=some q->K (bN r))(hF:(f117 N a0 a1 a2).bind A=some q):∃ d,(G117 ds d/\d.flatB=true)/\K d:=by
 obtain⟨r,hr,hA⟩:=bind_some hF;exact⟨_,⟨⟨N,a0,a1,a2,r,hd,hr,rfl⟩,rfl⟩,h r hA⟩
def zfL (newslice6':List Int):Option ((List Int)) :=
 some (newslice6')
def zhz:Lp ((List Int)) (Nat×Unit) ((List Int)):=lpm ⟨[6],[90006],[(.slot 6,90006,3,1)],[]⟩ (λ newslice6' => zfL newslice6') (λ _ (m0,_)=>[.rs 90006 m0]) (λ newslice6' (_,_)=>[.row 3 1 (List.map iN (newslice6'))]) λ newslice6' => (List.length (newslice6'),())
instance zxz {newslice6'}:IsLp 1 1 (zfL newslice6') (zhz) newslice6':=⟨rfl⟩
instance zxA:IsCut 1 (zfL) (zhz) 15:=⟨⟩
def zn6 (r11:(List Int)->Int->Option ((List Int)))(a0:List (List Int))(k0:(List Int)->Option ((List Int)))(newslice6':List Int)(v27:Int):Option ((List Int)) :=
 bif decide (v27<(List.length a0:Int)) then ((ix a0 v27).bind λ x1 =>
 (app 8 (newslice6') x1).bind λ x2 =>
 r11 x2 (W (v27+(1:Int))))
 else (k0 (newslice6'))
def zhA (a0:List (List Int))(k0:(List Int)->Option ((List Int))):Nat->(List Int)->Int->Option ((List Int))
 | 0,_,_=>none
 | n+1,newslice6',v27=>zn6 (zhA a0 k0 n) a0 k0 newslice6' v27
def zn7 (a0:List (List Int))(k0:(List Int)->Option ((List Int))):Lp (Nat×(List Int)×Int) (Nat×Unit) ((List Int)):=lpm ⟨[6,25,26,27],[90006],[(.slot 6,90006,3,1)],[]⟩ (λ (n,newslice6',v27)=>zhA a0 k0 n newslice6' v27) (λ (_,_,v27) (m0,_)=>[.rs 90006 m0, .dat (zao a0), .dat (iN (List.length a0:Int)), .dat (iN v27)]) (λ (_,newslice6',_) (_,_)=>[.row 3 1 (List.map iN (newslice6'))]) λ (_,newslice6',_)=>(List.length (newslice6'),())
instance Ef143_11 {a0 k0 n newslice6' v27}:IsLp 1 2 (zhA a0 k0 n newslice6' v27) (zn7 a0 k0) (n,newslice6',v27):=⟨rfl⟩
def zfM (a0:List (List Int))(N:Nat)(newslice6:List Int):Option ((List Int)) :=
 zau zfL λ k0 =>
 zhA a0 k0 N newslice6 (0:Int)
def zhB (a0:List (List Int))(N:Nat):Lp ((List Int)) (Nat×Unit) ((List Int)):=lpm ⟨[0,6],[90006],[(.slot 6,90006,3,1)],[]⟩ (λ newslice6=>zfM a0 N newslice6) (λ _ (m0,_)=>[.dat (zao a0), .rs 90006 m0]) (λ newslice6 (_,_)=>[.row 3 1 (List.map iN newslice6)]) λ newslice6=>(List.length newslice6,())
instance zxB {a0 N newslice6}:IsLp 1 1 (zfM a0 N newslice6) (zhB a0 N) newslice6:=⟨rfl⟩
instance zxC {a0 N}:IsCut 1 (zfM a0 N) (zhB a0 N) 10:=⟨⟩
def zhC (a0:List (List Int))(N:Nat)(size3:Int):Option ((List Int)) :=
 zau (zfM a0 N) λ k1 =>
 bif decide (size3<(0:Int)) then none
 else (bif decide ((0:Int)<(W (size3-(W ((0:Int)-(0:Int)))))) then ((mkA 8 (0:Int) (W (size3-(W ((0:Int)-(0:Int)))))).bind λ x3 =>
 (subR x3 0 (0:Int)).bind λ x4 =>
 k1 x4)
 else (k1 []))
def zjN (a0:List (List Int))(N:Nat):Lp (Int) Unit ((List Int)):=lp0 ⟨[0,3],[],[],[]⟩ (λ size3=>[.dat (zao a0), .dat (iN size3)]) (λ _=>[]) (λ size3=>zhC a0 N size3)
instance Ef143_c9 {a0 N size3}:IsLp 0 1 (zhC a0 N size3) (zjN a0 N) size3:=⟨rfl⟩
instance Cf143_c9 {a0 N}:IsCut 1 (zhC a0 N) (zjN a0 N) 9:=⟨⟩
def zrn (r3:Int->Int->Option ((List Int)))(a0:List (List Int))(k2:Int->Option ((List Int)))(size3:Int)(v11:Int):Option ((List Int)) :=
 bif decide (v11<(List.length a0:Int)) then ((ix a0 v11).bind λ x5 =>
 bif decide ((W (size3+(List.length x5:Int)))<(0:Int)) then none
 else (r3 (W (size3+(List.length x5:Int))) (W (v11+(1:Int)))))
 else (k2 size3)
def zlM (a0:List (List Int))(k2:Int->Option ((List Int))):Nat->Int->Int->Option ((List Int))
 | 0,_,_=>none
 | n+1,size3,v11=>zrn (zlM a0 k2 n) a0 k2 size3 v11
def zro (a0:List (List Int))(k2:Int->Option ((List Int))):Lp (Nat×Int×Int) Unit ((List Int)):=lp0 ⟨[0,3,9,10,11],[],[],[]⟩ (λ (_,size3,v11)=>[.dat (zao a0), .dat (iN size3), .dat (zao a0), .dat (iN (List.length a0:Int)), .dat (iN v11)]) (λ (_,_,_)=>[]) (λ (n,size3,v11)=>zlM a0 k2 n size3 v11)
instance Ef143_3 {a0 k2 n size3 v11}:IsLp 0 2 (zlM a0 k2 n size3 v11) (zro a0 k2) (n,size3,v11):=⟨rfl⟩
def f143 (N:Nat)(a0:List (List Int)):Option ((List Int)) :=
 zau (zhC a0 N) λ k2 =>
 zlM a0 k2 N (0:Int) (0:Int)
def G143 (ds:List D)(d:D):Prop:=∃ (N:Nat) (a0:List (List Int)) (r:(List Int)),ds=[zao a0]/\f143 N a0=some r/\d=zbc r
theorem G143.step {a0}{A:_->Option ρ}{K:D->Prop}(hd:ds=[zao a0])(h:∀ r,A r=some q->K (zbc r))(hF:(f143 N a0).bind A=some q):∃ d,G143 ds d/\K d:=by
 obtain⟨r,hr,hA⟩:=bind_some hF;exact⟨_,⟨N,a0,r,hd,hr,rfl⟩,h r hA⟩
def zfN (twice3:Bool):Option (Bool) :=
 some (twice3)
def zhD:Lp (Bool) Unit (Bool):=lp0 ⟨[3],[],[],[]⟩ (λ twice3=>[.kb twice3]) (λ _=>[]) (λ twice3=>zfN twice3)
instance zxD {twice3}:IsLp 0 1 (zfN twice3) (zhD) twice3:=⟨rfl⟩
instance zxE:IsCut 1 (zfN) (zhD) 15:=⟨⟩
def zfO (a0:List (List Int))(v12:Int)(r3:Bool->Int->Option (Bool))(twice3':Bool):Option (Bool) :=
 r3 (twice3') (W (v12+(1:Int)))
def zhE (a0:List (List Int))(v12:Int)(r3:Bool->Int->Option (Bool)):Lp (Bool) Unit (Bool):=lp0 ⟨[0,3,11,12],[],[],[]⟩ (λ twice3' => [.dat (zao a0), .kb (twice3'), .dat (iN (List.length a0:Int)), .dat (iN v12)]) (λ _=>[]) (λ twice3' => zfO a0 v12 r3 twice3')
instance zxF {a0 v12 r3 twice3'}:IsLp 0 1 (zfO a0 v12 r3 twice3') (zhE a0 v12 r3) twice3':=⟨rfl⟩
instance zxG {a0 v12 r3}:IsCut 1 (zfO a0 v12 r3) (zhE a0 v12 r3) 14:=⟨⟩
def zrp (r7:Bool->Int->(List Bool)->(List Bool)->Option (Bool))(a0:List (List Int))(k0:Bool->Option (Bool))(v12:Int)(k1:Bool->Option (Bool))(twice3':Bool)(v17:Int)(b500:List Bool)(b501:List Bool):Option (Bool) :=
 bif decide (v17<(List.length a0:Int)) then ((ix a0 v12).bind λ x1 =>
 (ix x1 v17).bind λ x2 =>
 (ix a0 v17).bind λ x3 =>
 (ix x3 v12).bind λ x4 =>
 (chkI 10 x2).bind λ _ =>
 (ixN b500 (Int.toNat x2)).bind λ x5 =>
 bif x5 then (k0 true)
 else ((chkI 10 x4).bind λ _ =>
 (ixN b501 (Int.toNat x4)).bind λ x6 =>
 bif x6 then (k0 true)
 else ((chkI 10 x2).bind λ _ =>
 (setN b500 (Int.toNat x2) true).bind λ x7 =>
 (chkI 10 x4).bind λ _ =>
 (setN b501 (Int.toNat x4) true).bind λ x8 =>
 r7 (twice3') (W (v17+(1:Int))) x7 x8)))
 else (k1 (twice3'))
def zlN (a0:List (List Int))(k0:Bool->Option (Bool))(v12:Int)(k1:Bool->Option (Bool)):Nat->Bool->Int->(List Bool)->(List Bool)->Option (Bool)
 | 0,_,_,_,_=>none
 | n+1,twice3',v17,b500,b501=>zrp (zlN a0 k0 v12 k1 n) a0 k0 v12 k1 twice3' v17 b500 b501
def zrq (a0:List (List Int))(k0:Bool->Option (Bool))(v12:Int)(k1:Bool->Option (Bool)):Lp (Nat×Bool×Int×(List Bool)×(List Bool)) Unit (Bool):=lp0 ⟨[0,3,4,5,6,11,12,16,17],[500,501],[],[]⟩ (λ (_,twice3',v17,_,_)=>[.dat (zao a0), .kb (twice3'), .dat (iN v12), .ptr 500 0, .ptr 501 0, .dat (iN (List.length a0:Int)), .dat (iN v12), .dat (iN (List.length a0:Int)), .dat (iN v17)]) (λ (_,_,_,b500,b501)=>[.arr (List.map bN b500), .arr (List.map bN b501)]) (λ (n,twice3',v17,b500,b501)=>zlN a0 k0 v12 k1 n twice3' v17 b500 b501)
instance Ef145_7 {a0 k0 v12 k1 n twice3' v17 b500 b501}:IsLp 0 4 (zlN a0 k0 v12 k1 n twice3' v17 b500 b501) (zrq a0 k0 v12 k1) (n,twice3',v17,b500,b501):=⟨rfl⟩
def zrr (r3:Bool->Int->Option (Bool))(a0:List (List Int))(N:Nat)(k0:Bool->Option (Bool))(twice3:Bool)(v12:Int):Option (Bool) :=
 bif decide (v12<(List.length a0:Int)) then (zau (zfO a0 v12 r3) λ k1 =>
 zlN a0 k0 v12 k1 N twice3 (0:Int) (List.replicate 10 false) (List.replicate 10 false))
 else (k0 twice3)
def zlO (a0:List (List Int))(N:Nat)(k0:Bool->Option (Bool)):Nat->Bool->Int->Option (Bool)
 | 0,_,_=>none
 | n+1,twice3,v12=>zrr (zlO a0 N k0 n) a0 N k0 twice3 v12
def zrs (a0:List (List Int))(N:Nat)(k0:Bool->Option (Bool)):Lp (Nat×Bool×Int) Unit (Bool):=lp0 ⟨[0,3,11,12],[],[],[]⟩ (λ (_,twice3,v12)=>[.dat (zao a0), .kb twice3, .dat (iN (List.length a0:Int)), .dat (iN v12)]) (λ (_,_,_)=>[]) (λ (n,twice3,v12)=>zlO a0 N k0 n twice3 v12)
instance Ef145_3 {a0 N k0 n twice3 v12}:IsLp 0 2 (zlO a0 N k0 n twice3 v12) (zrs a0 N k0) (n,twice3,v12):=⟨rfl⟩
def f145 (N:Nat)(a0:List (List Int)):Option (Bool) :=
 zau zfN λ k0 =>
 zlO a0 N k0 N false (0:Int)
def G145 (ds:List D)(d:D):Prop:=∃ (N:Nat) (a0:List (List Int)) (r:Bool),ds=[zao a0]/\f145 N a0=some r/\d=bN r
theorem G145.lend {a0}{A:_->Option ρ}{K:D->Prop}(hd:ds=[zao a0])(h:∀ r,A r=some q->K (bN r))(hF:(f145 N a0).bind A=some q):∃ d,(G145 ds d/\d.flatB=true)/\K d:=by
 obtain⟨r,hr,hA⟩:=bind_some hF;exact⟨_,⟨⟨N,a0,r,hd,hr,rfl⟩,rfl⟩,h r hA⟩
def zbE (a0:List (List Int))(start0:Int):Option (Int) :=
 some (start0)
def zdN (a0:List (List Int)):Lp (Int) Unit (Int):=lp0 ⟨[0],[0],[],[]⟩ (λ start0=>[.dat (iN start0)]) (λ _=>[.box [.dat (zao a0)]]) (λ start0=>zbE a0 start0)
instance ztC {a0 start0}:IsLp 0 1 (zbE a0 start0) (zdN a0) start0:=⟨rfl⟩
instance ztD {a0}:IsCut 1 (zbE a0) (zdN a0) 104000000006:=⟨⟩
def zdf (r2:Int->Int->Option (Int))(a0:List (List Int))(a2:List Int)(k0:Int->Option (Int))(start0:Int)(v11:Int):Option (Int) :=
 bif decide (v11<(List.length a2:Int)) then ((ix a2 v11).bind λ x1 =>
 (ix a0 start0).bind λ x2 =>
 (ix x2 x1).bind λ x3 =>
 r2 x3 (W (v11+(1:Int))))
 else (k0 start0)
def zbF (a0:List (List Int))(a2:List Int)(k0:Int->Option (Int)):Nat->Int->Int->Option (Int)
 | 0,_,_=>none
 | n+1,start0,v11=>zdf (zbF a0 a2 k0 n) a0 a2 k0 start0 v11
def zgq (a0:List (List Int))(a2:List Int)(k0:Int->Option (Int)):Lp (Nat×Int×Int) Unit (Int):=lp0 ⟨[0,2,9,10,11],[0],[],[]⟩ (λ (_,start0,v11)=>[.dat (iN start0), .fn 160 [] [.ptr 0 0], .dat (zbc a2), .dat (iN (List.length a2:Int)), .dat (iN v11)]) (λ (_,_,_)=>[.box [.dat (zao a0)]]) (λ (n,start0,v11)=>zbF a0 a2 k0 n start0 v11)
instance zuE {a0 a2 k0 n start0 v11}:IsLp 0 2 (zbF a0 a2 k0 n start0 v11) (zgq a0 a2 k0) (n,start0,v11):=⟨rfl⟩
def f132 (N:Nat)(a0:List (List Int))(a1:Int)(a2:List Int):Option (Int) :=
 zau (zbE a0) λ k0 =>
 zbF a0 a2 k0 N a1 (0:Int)
def G132 (ds:List D)(d:D):Prop:=∃ (N:Nat) (a0:List (List Int)) (a1:Int) (a2:List Int) (r:Int),ds=[zao a0,iN a1,zbc a2]/\f132 N a0 a1 a2=some r/\d=iN r
theorem G132.lend {a0 a1 a2}{A:_->Option ρ}{K:D->Prop}(hd:ds=[zao a0,iN a1,zbc a2])(h:∀ r,A r=some q->K (iN r))(hF:(f132 N a0 a1 a2).bind A=some q):∃ d,(G132 ds d/\d.flatB=true)/\K d:=by
 obtain⟨r,hr,hA⟩:=bind_some hF;exact⟨_,⟨⟨N,a0,a1,a2,r,hd,hr,rfl⟩,rfl⟩,h r hA⟩
def zf9:Option (Int) :=
 some ((-1:Int))
def zjO:Lp (Unit) Unit (Int):=lp0 ⟨[],[],[],[]⟩ (λ _=>[]) (λ _=>[]) (λ _=>zf9)
instance Ef147_c7:IsLp 0 0 (zf9) (zjO) ():=⟨rfl⟩
instance Cf147_c7:IsCut 0 (zf9) (zjO) 7:=⟨⟩
def zrt (r2:Int->Option (Int))(a0:List Int)(a1:Int)(k0:Option (Int))(v8:Int):Option (Int) :=
 bif decide (v8<(List.length a0:Int)) then ((ix a0 v8).bind λ x1 =>
 bif decide (a1=x1) then (some (v8))
 else (r2 (W (v8+(1:Int)))))
 else k0
def zlP (a0:List Int)(a1:Int)(k0:Option (Int)):Nat->Int->Option (Int)
 | 0,_=>none
 | n+1,v8=>zrt (zlP a0 a1 k0 n) a0 a1 k0 v8
def zru (a0:List Int)(a1:Int)(k0:Option (Int)):Lp (Nat×Int) Unit (Int):=lp0 ⟨[0,1,7,8],[],[],[]⟩ (λ (_,v8)=>[.dat (zbc a0), .dat (iN a1), .dat (iN (List.length a0:Int)), .dat (iN v8)]) (λ (_,_)=>[]) (λ (n,v8)=>zlP a0 a1 k0 n v8)
instance Ef147_2 {a0 a1 k0 n v8}:IsLp 0 1 (zlP a0 a1 k0 n v8) (zru a0 a1 k0) (n,v8):=⟨rfl⟩
def f147 (N:Nat)(a0:List Int)(a1:Int):Option (Int) :=
 zau zf9 λ k0 =>
 zlP a0 a1 k0 N (0:Int)
def G147 (ds:List D)(d:D):Prop:=∃ (N:Nat) (a0:List Int) (a1:Int) (r:Int),ds=[zbc a0,iN a1]/\f147 N a0 a1=some r/\d=iN r
theorem G147.lend {a0 a1}{A:_->Option ρ}{K:D->Prop}(hd:ds=[zbc a0,iN a1])(h:∀ r,A r=some q->K (iN r))(hF:(f147 N a0 a1).bind A=some q):∃ d,(G147 ds d/\d.flatB=true)/\K d:=by
 obtain⟨r,hr,hA⟩:=bind_some hF;exact⟨_,⟨⟨N,a0,a1,r,hd,hr,rfl⟩,rfl⟩,h r hA⟩
def zhF (a0':Int):Option (Int) :=
 some (a0')
def zjP:Lp (Int) Unit (Int):=lp0 ⟨[0],[],[],[]⟩ (λ a0' => [.dat (iN (a0'))]) (λ _=>[]) (λ a0' => zhF a0')
instance Ef148_c3 {a0'}:IsLp 0 1 (zhF a0') (zjP) a0':=⟨rfl⟩
instance Cf148_c3:IsCut 1 (zhF) (zjP) 3:=⟨⟩
def zrv (r1:Int->Int->Option (Int))(k0:Int->Option (Int))(a0':Int)(b1:Int):Option (Int) :=
 bif decide ((0:Int)<b1) then ((chk (decide (b1≠0))).bind λ _ =>
 r1 b1 (Int.tmod (a0') b1))
 else (k0 (a0'))
def zlQ (k0:Int->Option (Int)):Nat->Int->Int->Option (Int)
 | 0,_,_=>none
 | n+1,a0',b1=>zrv (zlQ k0 n) k0 a0' b1
def zrw (k0:Int->Option (Int)):Lp (Nat×Int×Int) Unit (Int):=lp0 ⟨[0,1],[],[],[]⟩ (λ (_,a0',b1)=>[.dat (iN (a0')), .dat (iN b1)]) (λ (_,_,_)=>[]) (λ (n,a0',b1)=>zlQ k0 n a0' b1)
instance Ef148_1 {k0 n a0' b1}:IsLp 0 2 (zlQ k0 n a0' b1) (zrw k0) (n,a0',b1):=⟨rfl⟩
def f148 (N:Nat)(a0:Int)(a1:Int):Option (Int) :=
 zau zhF λ k0 =>
 zlQ k0 N a0 a1
def G148 (ds:List D)(d:D):Prop:=∃ (N:Nat) (a0:Int) (a1:Int) (r:Int),ds=[iN a0,iN a1]/\f148 N a0 a1=some r/\d=iN r
theorem G148.lend {a0 a1}{A:_->Option ρ}{K:D->Prop}(hd:ds=[iN a0,iN a1])(h:∀ r,A r=some q->K (iN r))(hF:(f148 N a0 a1).bind A=some q):∃ d,(G148 ds d/\d.flatB=true)/\K d:=by
 obtain⟨r,hr,hA⟩:=bind_some hF;exact⟨_,⟨⟨N,a0,a1,r,hd,hr,rfl⟩,rfl⟩,h r hA⟩
def zgr:Option (Bool) :=
 some (true)
def zm4:Lp (Unit) Unit (Bool):=lp0 ⟨[],[],[],[]⟩ (λ _=>[]) (λ _=>[]) (λ _=>zgr)
instance Ef35_c8:IsLp 0 0 (zgr) (zm4) ():=⟨rfl⟩
instance Cf35_c8:IsCut 0 (zgr) (zm4) 8:=⟨⟩
def zn8 (r4:Int->Option (Bool))(a0:List Int)(a1:List Int)(k0:Option (Bool))(i5:Int):Option (Bool) :=
 bif decide (i5<(List.length a0:Int)) then ((ix a0 i5).bind λ x1 =>
 (ix a1 i5).bind λ x2 =>
 bif decide (¬ x1=x2) then (some (false))
 else (r4 (W (i5+(1:Int)))))
 else k0
def zlR (a0:List Int)(a1:List Int)(k0:Option (Bool)):Nat->Int->Option (Bool)
 | 0,_=>none
 | n+1,i5=>zn8 (zlR a0 a1 k0 n) a0 a1 k0 i5
def zuF (a0:List Int)(a1:List Int)(k0:Option (Bool)):Lp (Nat×Int) Unit (Bool):=lp0 ⟨[0,1,5],[],[],[]⟩ (λ (_,i5)=>[.dat (zbc a0), .dat (zbc a1), .dat (iN i5)]) (λ (_,_)=>[]) (λ (n,i5)=>zlR a0 a1 k0 n i5)
instance Ef35_4 {a0 a1 k0 n i5}:IsLp 0 1 (zlR a0 a1 k0 n i5) (zuF a0 a1 k0) (n,i5):=⟨rfl⟩
def f35 (N:Nat)(a0:List Int)(a1:List Int):Option (Bool) :=
 bif decide (¬ (List.length a0:Int)=(List.length a1:Int)) then (some (false))
 else (zau zgr λ k0 =>
 zlR a0 a1 k0 N (0:Int))
def G35 (ds:List D)(d:D):Prop:=∃ (N:Nat) (a0:List Int) (a1:List Int) (r:Bool),ds=[zbc a0,zbc a1]/\f35 N a0 a1=some r/\d=bN r
theorem G35.lend {a0 a1}{A:_->Option ρ}{K:D->Prop}(hd:ds=[zbc a0,zbc a1])(h:∀ r,A r=some q->K (bN r))(hF:(f35 N a0 a1).bind A=some q):∃ d,(G35 ds d/\d.flatB=true)/\K d:=by
 obtain⟨r,hr,hA⟩:=bind_some hF;exact⟨_,⟨⟨N,a0,a1,r,hd,hr,rfl⟩,rfl⟩,h r hA⟩
def f44 (N:Nat):Option (LB) :=
 some ([(strC [115,116,111,110,101,32,97,32,50]),(strC [115,116,111,110,101,32,98,32,57]),(strC [101,100,105,116,105,111,110,32,109,97,112]),(strC [112,97,112,101,114,32,109,97,112,32,49,48,48]),(strC [100,114,97,119,32,97,32,109,97,112]),(strC [100,114,97,119,32,98,32,109,97,112]),(strC [112,114,105,110,116,32,97,32,56,48,32,53]),(strC [112,114,105,110,116,32,98,32,53,48,32,50]),(strC [99,108,97,105,109,32,97,110,110,32,109,97,112,32,54,48]),(strC [99,108,111,115,101,32,109,97,112])])
def G44 (ds:List D)(d:D):Prop:=∃ (N:Nat) (r:LB),ds=[]/\f44 N  = some r/\d=zat r
theorem G44.step {A:_->Option ρ}{K:D->Prop}(hd:ds=[])(h:∀ r,A r=some q->K (zat r))(hF:(f44 N ).bind A=some q):∃ d,G44 ds d/\K d:=by
 obtain⟨r,hr,hA⟩:=bind_some hF;exact⟨_,⟨N,r,hd,hr,rfl⟩,h r hA⟩
def f21b (self:LB->LS->LE->LC->Option (LB))(N:Nat)(s0:LB)(s1:LS)(s2:LE)(s3:LC):Option (LB) :=
 demB s0 (some ([]))
 ((app 16 [] s0).bind λ x1 =>
 some (x1))
def f21:Nat->LB->LS->LE->LC->Option (LB)
 | 0,_,_,_,_=>none
 | N+1,s0,s1,s2,s3=>f21b (f21 N) N s0 s1 s2 s3
def Af21 (s0:LB)(s1:LS)(s2:LE)(s3:LC):List SV:=[.ptr 0 0]
def Bf21 (s0:LB)(s1:LS)(s2:LE)(s3:LC):List Blk:=[.box [.ptr 1 0, .rs 2 (List.length s0)], .box [.mp 3, .mp 4, .mp 5],(rW s0),(sW [4] s1),(eW s2),(mW s3)]
def Rf21 (y:LB):List SV:=[.rs 500 (List.length y)]
def B1f21 (s0:LB)(s1:LS)(s2:LE)(s3:LC)(y:LB):List Blk:=[.box [.ptr 1 0, .rs 2 (List.length s0)], .box [.mp 3, .mp 4, .mp 5],(rW s0),(sW [4] s1),(eW s2),(mW s3)]
def BZf21 (y:LB):List Blk:=[(rW y)]
def zpB:Spec (LB×LS×LE×LC) (LB):=⟨6,[500],λ x=>Af21 x.1 x.2.1 x.2.2.1 x.2.2.2,λ x=>Bf21 x.1 x.2.1 x.2.2.1 x.2.2.2,λ _ y=>Rf21 y,λ x y=>B1f21 x.1 x.2.1 x.2.2.1 x.2.2.2 y,λ _ y=>BZf21 y⟩
def H21 (N:Nat)(x:LB×LS×LE×LC)(y:LB):Prop:=f21 N x.1 x.2.1 x.2.2.1 x.2.2.2=some y
def G21 (x:LB×LS×LE×LC)(y:LB):Prop:=∃ N,H21 N x y
theorem G21.step {s0 s1 s2 s3}{A:_->Option ρ}(ha:xs=[.ptr k0 0])(b0:m k0 = .box [.ptr k1 0, .rs k2 m0])(b1:m k1 = .box [.mp k3, .mp k4, .mp k5])(b2:m k2=(rW s0))(b3:m k3=(sW [k4] s1))(b4:m k4=(eW s2))(b5:m k5=(mW s3))(em0:m0=List.length s0)(hu:(zcg id 1).map m=List.replicate 1 .unborn)(hn:zaU [k0,k1,k2,k3,k4,k5]=true)(h:∀ y,A y=some q->K ⟨.rs (id+BIG*0) (List.length y),[(k0, .box [.ptr k1 0, .rs k2 (List.length s0)]),(k1, .box [.mp k3, .mp k4, .mp k5]),(k2,(rW s0)),(k3,(sW [k4] s1)),(k4,(eW s2)),(k5,(mW s3)),(id,(rW y))]⟩ ([Loc.b k0,Loc.b k1,Loc.b k2,Loc.b k3,Loc.b k4,Loc.b k5,Loc.b id]++l))(hF:(f21 N s0 s1 s2 s3).bind A=some q):effPg zpB (G21) xs id (λ _=>SV.no) m l K:=by
 subst em0;obtain⟨y,hy,hA⟩:=bind_some hF;exact zaH [k0,k1,k2,k3,k4,k5] (s0,s1,s2,s3) y _ ⟨N,hy⟩ rfl hn ha (by simp only[List.map_cons,List.map_nil,b0,b1,b2,b3,b4,b5];rfl) hu rfl rfl (h y hA)
def Srf21:Ann:=⟨[0],[0,1,2,3,4,5,500],[(.slot 0,500,9,1)],[]⟩
def zxH:Ann:=⟨[0],[0,1,2,3,4,5],[],[]⟩
def f27 (N:Nat):Option (LB) :=
 some ([(strC [97]),(strC [98]),(strC [99])])
def G27 (ds:List D)(d:D):Prop:=∃ (N:Nat) (r:LB),ds=[]/\f27 N  = some r/\d=zat r
theorem G27.step {A:_->Option ρ}{K:D->Prop}(hd:ds=[])(h:∀ r,A r=some q->K (zat r))(hF:(f27 N ).bind A=some q):∃ d,G27 ds d/\K d:=by
 obtain⟨r,hr,hA⟩:=bind_some hF;exact⟨_,⟨N,r,hd,hr,rfl⟩,h r hA⟩
def f28 (N:Nat):Option (LB) :=
 some ([(strC [109,97,112]),(strC [111,100,101])])
def G28 (ds:List D)(d:D):Prop:=∃ (N:Nat) (r:LB),ds=[]/\f28 N  = some r/\d=zat r
theorem G28.step {A:_->Option ρ}{K:D->Prop}(hd:ds=[])(h:∀ r,A r=some q->K (zat r))(hF:(f28 N ).bind A=some q):∃ d,G28 ds d/\K d:=by
 obtain⟨r,hr,hA⟩:=bind_some hF;exact⟨_,⟨N,r,hd,hr,rfl⟩,h r hA⟩
def f29 (N:Nat):Option (LB) :=
 some ([(strC [97,110,110]),(strC [98,111,98]),(strC [99,121])])
def G29 (ds:List D)(d:D):Prop:=∃ (N:Nat) (r:LB),ds=[]/\f29 N  = some r/\d=zat r
theorem G29.step {A:_->Option ρ}{K:D->Prop}(hd:ds=[])(h:∀ r,A r=some q->K (zat r))(hF:(f29 N ).bind A=some q):∃ d,G29 ds d/\K d:=by
 obtain⟨r,hr,hA⟩:=bind_some hF;exact⟨_,⟨N,r,hd,hr,rfl⟩,h r hA⟩
def f50 (N:Nat)(a0:LB)(a1:Int):Option (ByteArray) :=
 (chk (decide ((List.length a0:Int)≠0))).bind λ _ =>
 (ix a0 (Int.tmod a1 (List.length a0:Int))).bind λ x1 =>
 some (x1)
def G50 (ds:List D)(d:D):Prop:=∃ (N:Nat) (a0:LB) (a1:Int) (r:ByteArray),ds=[zat a0,u8N a1]/\f50 N a0 a1=some r/\d=strN r
theorem G50.lend {a0 a1}{A:_->Option ρ}{K:D->Prop}(hd:ds=[zat a0,u8N a1])(h:∀ r,A r=some q->K (strN r))(hF:(f50 N a0 a1).bind A=some q):∃ d,(G50 ds d/\d.flatB=true)/\K d:=by
 obtain⟨r,hr,hA⟩:=bind_some hF;exact⟨_,⟨⟨N,a0,a1,r,hd,hr,rfl⟩,rfl⟩,h r hA⟩
def zgs:Option (Bool) :=
 some (true)
def zm5:Lp (Unit) Unit (Bool):=lp0 ⟨[],[],[],[]⟩ (λ _=>[]) (λ _=>[]) (λ _=>zgs)
instance Ef20_c8:IsLp 0 0 (zgs) (zm5) ():=⟨rfl⟩
instance Cf20_c8:IsCut 0 (zgs) (zm5) 8:=⟨⟩
def zn9 (r4:Int->Option (Bool))(a0:LB)(a1:LB)(k0:Option (Bool))(i5:Int):Option (Bool) :=
 bif decide (i5<(List.length a0:Int)) then ((ix a0 i5).bind λ x1 =>
 (ix a1 i5).bind λ x2 =>
 bif decide (¬ x1=x2) then (some (false))
 else (r4 (W (i5+(1:Int)))))
 else k0
def zlS (a0:LB)(a1:LB)(k0:Option (Bool)):Nat->Int->Option (Bool)
 | 0,_=>none
 | n+1,i5=>zn9 (zlS a0 a1 k0 n) a0 a1 k0 i5
def zuG (a0:LB)(a1:LB)(k0:Option (Bool)):Lp (Nat×Int) Unit (Bool):=lp0 ⟨[0,1,5],[],[],[]⟩ (λ (_,i5)=>[.dat (zat a0), .dat (zat a1), .dat (iN i5)]) (λ (_,_)=>[]) (λ (n,i5)=>zlS a0 a1 k0 n i5)
instance Ef20_4 {a0 a1 k0 n i5}:IsLp 0 1 (zlS a0 a1 k0 n i5) (zuG a0 a1 k0) (n,i5):=⟨rfl⟩
def f20 (N:Nat)(a0:LB)(a1:LB):Option (Bool) :=
 bif decide (¬ (List.length a0:Int)=(List.length a1:Int)) then (some (false))
 else (zau zgs λ k0 =>
 zlS a0 a1 k0 N (0:Int))
def G20 (ds:List D)(d:D):Prop:=∃ (N:Nat) (a0:LB) (a1:LB) (r:Bool),ds=[zat a0,zat a1]/\f20 N a0 a1=some r/\d=bN r
theorem G20.lend {a0 a1}{A:_->Option ρ}{K:D->Prop}(hd:ds=[zat a0,zat a1])(h:∀ r,A r=some q->K (bN r))(hF:(f20 N a0 a1).bind A=some q):∃ d,(G20 ds d/\d.flatB=true)/\K d:=by
 obtain⟨r,hr,hA⟩:=bind_some hF;exact⟨_,⟨⟨N,a0,a1,r,hd,hr,rfl⟩,rfl⟩,h r hA⟩
def f72 (N:Nat)(a0:ByteArray)(a1:ByteArray):Option (Bool) :=
 match N with|0=>none|_+1=>(some (Lib.hasSuffix a0.data.toList a1.data.toList))
def G72 (ds:List D)(d:D):Prop:=∃ (N:Nat) (a0:ByteArray) (a1:ByteArray) (r:Bool),ds=[strN a0,strN a1]/\f72 N a0 a1=some r/\d=bN r
theorem G72.lend {a0 a1}{A:_->Option ρ}{K:D->Prop}(hd:ds=[strN a0,strN a1])(h:∀ r,A r=some q->K (bN r))(hF:(f72 N a0 a1).bind A=some q):∃ d,(G72 ds d/\d.flatB=true)/\K d:=by
 obtain⟨r,hr,hA⟩:=bind_some hF;exact⟨_,⟨⟨N,a0,a1,r,hd,hr,rfl⟩,rfl⟩,h r hA⟩
theorem P72:PureOK Tryz.prog 72 G72:=zli (λ a b=>.bool (Lib.hasSuffix a.data.toList b.data.toList)) (λ _ _=>True) (by
 rintro ds d ⟨N,a0,a1,r,rfl,hF,rfl⟩
 rcases N with _|N
 .cases hF
 cases hF
 exact⟨a0,a1,rfl,rfl,trivial⟩) λ a b w _ ha _ _=>⟨trivial,Go.Proofs.Tryz.strings_HasSuffix a b w (by simp only[maxLen] at ha;omega)⟩
def f74 (N:Nat)(a0:ByteArray)(a1:ByteArray):Option (ByteArray) :=
 match N with|0=>none|_+1=>((λ q:List UInt8=>if q.length<=1000000 then some ⟨q.toArray⟩ else none) (Lib.trimSuffix a0.data.toList a1.data.toList))
def G74 (ds:List D)(d:D):Prop:=∃ (N:Nat) (a0:ByteArray) (a1:ByteArray) (r:ByteArray),ds=[strN a0,strN a1]/\f74 N a0 a1=some r/\d=strN r
theorem G74.lend {a0 a1}{A:_->Option ρ}{K:D->Prop}(hd:ds=[strN a0,strN a1])(h:∀ r,A r=some q->K (strN r))(hF:(f74 N a0 a1).bind A=some q):∃ d,(G74 ds d/\d.flatB=true)/\K d:=by
 obtain⟨r,hr,hA⟩:=bind_some hF;exact⟨_,⟨⟨N,a0,a1,r,hd,hr,rfl⟩,rfl⟩,h r hA⟩
theorem P74:PureOK Tryz.prog 74 G74:=zli (λ a b=>.string ⟨(Lib.trimSuffix a.data.toList b.data.toList).toArray⟩) (λ a b=>(Lib.trimSuffix a.data.toList b.data.toList).length<=1000000) (by
 rintro ds d ⟨N,a0,a1,r,rfl,hF,rfl⟩
 rcases N with _|N
 .cases hF
 simp only[f74] at hF
 split at hF
 .rename_i h
  cases hF
  exact⟨a0,a1,rfl,rfl,h⟩
 .cases hF) λ a b w _ ha _ h=>⟨by show ByteArray.size _<=maxLen;simp only[ByteArray.size,List.size_toArray,maxLen];omega,Go.Proofs.Tryz.strings_TrimSuffix a b w (by simp only[maxLen] at ha;omega)⟩
def f100 (N:Nat)(a0:ByteArray)(a1:Int):Option (Int) :=
 match N with|0=>none|_+1=>((λ x:Int=>if -1<=x/\x<=1000000/\a0.size<=1000000 then some x else none) (Lib.lastIndexByte a0 a1))
def G100 (ds:List D)(d:D):Prop:=∃ (N:Nat) (a0:ByteArray) (a1:Int) (r:Int),ds=[strN a0,u8N a1]/\f100 N a0 a1=some r/\d=iN r
theorem G100.lend {a0 a1}{A:_->Option ρ}{K:D->Prop}(hd:ds=[strN a0,u8N a1])(h:∀ r,A r=some q->K (iN r))(hF:(f100 N a0 a1).bind A=some q):∃ d,(G100 ds d/\d.flatB=true)/\K d:=by
 obtain⟨r,hr,hA⟩:=bind_some hF;exact⟨_,⟨⟨N,a0,a1,r,hd,hr,rfl⟩,rfl⟩,h r hA⟩
theorem P100:PureOK Tryz.prog 100 G100:=by
 rintro w Z vs ds d hZ hl hr hg ⟨N,a0,a1,r,rfl,hF,rfl⟩
 rcases N with _|N
 .cases hF
 simp only[f100] at hF
 split at hF
 .rename_i h
  cases hF
  obtain⟨v,u,rfl,h1,h2⟩:=zq5 hl hr;obtain⟨rfl,l1⟩:=zlh h1;obtain rfl:=rd_u8 h2;refine(Go.Proofs.Tryz.strings_LastIndexByte a0 a1 (by omega) w).mono ?_;rintro e w' ⟨rfl,rfl⟩;exact⟨_,rfl,Ext.refl _, .v (by simp only[pl,IntKind.min,IntKind.max,IntKind.signed,IntKind.bits];simp;omega)⟩
 .cases hF

end Go.Vc
namespace Go.Vc
open Go.Proofs
variable {N id:Nat} {ρ:Type} {q:ρ} {xs:List SV} {m:Nat->Blk} {l:List Loc} {ds:List D} {K:Dl->List Loc->Prop} {k0 k1 k2 k3 k4 k5 k6 k7 k8 k9 k10 k11 k12 k13 k14 k15 m0 m1 m2 m3 m4 m5:Nat}
def ze9 (a0:ByteArray)(N:Nat)(last4:Int):Option (LB×Bool) :=
 (f73 N a0 (strC [32])).bind λ x1 =>
 some (x1,decide (¬ last4=(32:Int)))
def zjQ (a0:ByteArray)(N:Nat):Lp (Int) Unit (LB×Bool):=lp0 ⟨[0,4],[],[],[]⟩ (λ last4=>[.dat (strN a0), .dat (i32N last4)]) (λ _=>[]) (λ last4=>ze9 a0 N last4)
instance Ef104_c8 {a0 N last4}:IsLp 0 1 (ze9 a0 N last4) (zjQ a0 N) last4:=⟨rfl⟩
instance Cf104_c8 {a0 N}:IsCut 1 (ze9 a0 N) (zjQ a0 N) 8:=⟨⟩
def zm6 (r3:Int->Nat->Option (LB×Bool))(a0:ByteArray)(k0:Int->Option (LB×Bool))(last4:Int)(p201:Nat):Option (LB×Bool) :=
 bif decide (p201<ByteArray.size a0) then ((some (zeN a0 p201)).bind λ x2 =>
 bif decide (x2.1<(32:Int)) then (some ([],false))
 else (bif decide ((126:Int)<x2.1) then (some ([],false))
 else (bif decide (x2.1=(32:Int)) then (bif decide (last4=(32:Int)) then (some ([],false))
 else (r3 x2.1 x2.2))
 else (r3 x2.1 x2.2))))
 else (k0 last4)
def zhG (a0:ByteArray)(k0:Int->Option (LB×Bool)):Nat->Int->Nat->Option (LB×Bool)
 | 0,_,_=>none
 | n+1,last4,p201=>zm6 (zhG a0 k0 n) a0 k0 last4 p201
def zrx (a0:ByteArray)(k0:Int->Option (LB×Bool)):Lp (Nat×Int×Nat) Unit (LB×Bool):=lp0 ⟨[0,4,8],[201],[],[]⟩ (λ (_,last4,_)=>[.dat (strN a0), .dat (i32N last4), .ptr 201 0]) (λ (_,_,p201)=>[.sit a0 p201]) (λ (n,last4,p201)=>zhG a0 k0 n last4 p201)
instance Ef104_3 {a0 k0 n last4 p201}:IsLp 0 2 (zhG a0 k0 n last4 p201) (zrx a0 k0) (n,last4,p201):=⟨rfl⟩
def f104 (N:Nat)(a0:ByteArray):Option (LB×Bool) :=
 zau (ze9 a0 N) λ k0 =>
 zhG a0 k0 N (32:Int) 0
def G104 (ds:List D)(d:D):Prop:=∃ (N:Nat) (a0:ByteArray) (r:LB×Bool),ds=[strN a0]/\f104 N a0=some r/\d = .tup [zat r.1,bN r.2]
theorem G104.step {a0}{A:_->Option ρ}{K:D->Prop}(hd:ds=[strN a0])(h:∀ r,A r=some q->K (.tup [zat r.1,bN r.2]))(hF:(f104 N a0).bind A=some q):∃ d,G104 ds d/\K d:=by
 obtain⟨r,hr,hA⟩:=bind_some hF;exact⟨_,⟨N,a0,r,hd,hr,rfl⟩,h r hA⟩
def f61 (N:Nat)(a0:ByteArray):Option (Bool) :=
 (f88 N a0).bind λ x1 =>
 some (x1)
def G61 (ds:List D)(d:D):Prop:=∃ (N:Nat) (a0:ByteArray) (r:Bool),ds=[strN a0]/\f61 N a0=some r/\d=bN r
theorem G61.lend {a0}{A:_->Option ρ}{K:D->Prop}(hd:ds=[strN a0])(h:∀ r,A r=some q->K (bN r))(hF:(f61 N a0).bind A=some q):∃ d,(G61 ds d/\d.flatB=true)/\K d:=by
 obtain⟨r,hr,hA⟩:=bind_some hF;exact⟨_,⟨⟨N,a0,r,hd,hr,rfl⟩,rfl⟩,h r hA⟩
def ztE (self:Claiming->LS->LE->LC->Option (Int))(N:Nat)(s0:Claiming)(s1:LS)(s2:LE)(s3:LC):Option (Int) :=
 onO (zaA s0.edition s2) (some ((5:Int))) λ x1 =>
 (some (zbB false s0.customer s3)).bind λ x2 =>
 bif !x2.1 then ((lenM s3).bind λ x3 =>
 bif decide ((x3:Int)=(6:Int)) then (some ((2:Int)))
 else ((getF s2 x1).bind λ x4 =>
 (f64 N x4 x4.from_).bind λ x5 =>
 bif decide (x5<(W (x4.open_+s0.n))) then (some ((16:Int)))
 else (some ((0:Int)))))
 else ((getF s2 x1).bind λ x6 =>
 (f64 N x6 x6.from_).bind λ x7 =>
 bif decide (x7<(W (x6.open_+s0.n))) then (some ((16:Int)))
 else (some ((0:Int))))
def f210:Nat->Claiming->LS->LE->LC->Option (Int)
 | 0,_,_,_,_=>none
 | N+1,s0,s1,s2,s3=>ztE (f210 N) N s0 s1 s2 s3
def Af210 (s0:Claiming)(s1:LS)(s2:LE)(s3:LC):List SV:=[.dat (.agg [strN s0.customer,strN s0.edition,iN s0.n]), .ptr 0 0]
def Bf210 (s0:Claiming)(s1:LS)(s2:LE)(s3:LC):List Blk:=[.box [.mp 1, .mp 2, .mp 3],(sW [2] s1),(eW s2),(mW s3)]
def Rf210 (y:Int):List SV:=[.dat (iN y)]
def zxI (s0:Claiming)(s1:LS)(s2:LE)(s3:LC)(y:Int):List Blk:=[.box [.mp 1, .mp 2, .mp 3],(sW [2] s1),(eW s2),(mW s3)]
def zxJ (y:Int):List Blk:=[]
def zlT:Spec (Claiming×LS×LE×LC) (Int):=⟨4,[],λ x=>Af210 x.1 x.2.1 x.2.2.1 x.2.2.2,λ x=>Bf210 x.1 x.2.1 x.2.2.1 x.2.2.2,λ _ y=>Rf210 y,λ x y=>zxI x.1 x.2.1 x.2.2.1 x.2.2.2 y,λ _ y=>zxJ y⟩
def H210 (N:Nat)(x:Claiming×LS×LE×LC)(y:Int):Prop:=f210 N x.1 x.2.1 x.2.2.1 x.2.2.2=some y
def G210 (x:Claiming×LS×LE×LC)(y:Int):Prop:=∃ N,H210 N x y
theorem G210.step {s1 s2 s3}{s0:Claiming}{A:_->Option ρ}(ha:xs=[.dat (.agg [strN s0.customer,strN s0.edition,iN s0.n]), .ptr k0 0])(b0:m k0 = .box [.mp k1, .mp k2, .mp k3])(b1:m k1=(sW [k2] s1))(b2:m k2=(eW s2))(b3:m k3=(mW s3))(hu:True)(hn:zaU [k0,k1,k2,k3]=true)(h:∀ y,A y=some q->K ⟨.dat (iN y),[(k0, .box [.mp k1, .mp k2, .mp k3]),(k1,(sW [k2] s1)),(k2,(eW s2)),(k3,(mW s3))]⟩ ([Loc.b k0,Loc.b k1,Loc.b k2,Loc.b k3]++l))(hF:(f210 N s0 s1 s2 s3).bind A=some q):effPg zlT (G210) xs id (λ _=>SV.no) m l K:=by
 obtain⟨y,hy,hA⟩:=bind_some hF;exact zaH [k0,k1,k2,k3] (s0,s1,s2,s3) y _ ⟨N,hy⟩ rfl hn ha (by simp only[List.map_cons,List.map_nil,b0,b1,b2,b3];rfl) rfl rfl rfl (h y hA)
def zxK:Ann:=⟨[0],[0,1,2,3],[],[]⟩
def zvY:Ann:=⟨[0],[0,1,2,3],[],[]⟩
def ztF (self:Delivery->LS->LE->LC->Option (Int))(N:Nat)(s0:Delivery)(s1:LS)(s2:LE)(s3:LC):Option (Int) :=
 onO (zaA s0.claiming.edition s2) (some ((5:Int))) λ x1 =>
 (getF s2 x1).bind λ x2 =>
 (some (zbB (0:Int) s0.claiming.customer x2.owed)).bind λ x3 =>
 (some ()).bind λ _ =>
 bif !x3.2 then (some ((5:Int)))
 else (bif !x2.closed then (some ((22:Int)))
 else (bif decide (x3.1<s0.claiming.n) then (some ((14:Int)))
 else ((ix x2.places (W ((List.length x2.places:Int)-(1:Int)))).bind λ x4 =>
 (some ()).bind λ _ =>
 bif decide (x4<s0.claiming.n) then (some ((16:Int)))
 else (some ((0:Int))))))
def f212:Nat->Delivery->LS->LE->LC->Option (Int)
 | 0,_,_,_,_=>none
 | N+1,s0,s1,s2,s3=>ztF (f212 N) N s0 s1 s2 s3
def Af212 (s0:Delivery)(s1:LS)(s2:LE)(s3:LC):List SV:=[.dat (.agg [strN s0.claiming.customer,strN s0.claiming.edition,iN s0.claiming.n]), .ptr 0 0]
def Bf212 (s0:Delivery)(s1:LS)(s2:LE)(s3:LC):List Blk:=[.box [.mp 1, .mp 2, .mp 3],(sW [2] s1),(eW s2),(mW s3)]
def Rf212 (y:Int):List SV:=[.dat (iN y)]
def zxL (s0:Delivery)(s1:LS)(s2:LE)(s3:LC)(y:Int):List Blk:=[.box [.mp 1, .mp 2, .mp 3],(sW [2] s1),(eW s2),(mW s3)]
def zxM (y:Int):List Blk:=[]
def zlU:Spec (Delivery×LS×LE×LC) (Int):=⟨4,[],λ x=>Af212 x.1 x.2.1 x.2.2.1 x.2.2.2,λ x=>Bf212 x.1 x.2.1 x.2.2.1 x.2.2.2,λ _ y=>Rf212 y,λ x y=>zxL x.1 x.2.1 x.2.2.1 x.2.2.2 y,λ _ y=>zxM y⟩
def H212 (N:Nat)(x:Delivery×LS×LE×LC)(y:Int):Prop:=f212 N x.1 x.2.1 x.2.2.1 x.2.2.2=some y
def G212 (x:Delivery×LS×LE×LC)(y:Int):Prop:=∃ N,H212 N x y
theorem G212.step {s1 s2 s3}{s0:Delivery}{A:_->Option ρ}(ha:xs=[.dat (.agg [strN s0.claiming.customer,strN s0.claiming.edition,iN s0.claiming.n]), .ptr k0 0])(b0:m k0 = .box [.mp k1, .mp k2, .mp k3])(b1:m k1=(sW [k2] s1))(b2:m k2=(eW s2))(b3:m k3=(mW s3))(hu:True)(hn:zaU [k0,k1,k2,k3]=true)(h:∀ y,A y=some q->K ⟨.dat (iN y),[(k0, .box [.mp k1, .mp k2, .mp k3]),(k1,(sW [k2] s1)),(k2,(eW s2)),(k3,(mW s3))]⟩ ([Loc.b k0,Loc.b k1,Loc.b k2,Loc.b k3]++l))(hF:(f212 N s0 s1 s2 s3).bind A=some q):effPg zlU (G212) xs id (λ _=>SV.no) m l K:=by
 obtain⟨y,hy,hA⟩:=bind_some hF;exact zaH [k0,k1,k2,k3] (s0,s1,s2,s3) y _ ⟨N,hy⟩ rfl hn ha (by simp only[List.map_cons,List.map_nil,b0,b1,b2,b3];rfl) rfl rfl rfl (h y hA)
def zxN:Ann:=⟨[0],[0,1,2,3],[],[]⟩
def zvZ:Ann:=⟨[0],[0,1,2,3],[],[]⟩
def ztG (self:Grinding->LS->LE->LC->Option (Int))(N:Nat)(s0:Grinding)(s1:LS)(s2:LE)(s3:LC):Option (Int) :=
 onO (zaA s0.stone s1) (some ((5:Int))) λ x1 =>
 (getF s1 x1).bind λ x2 =>
 onO x2.of (some ((1:Int))) λ x3 =>
 (getF s2 x3).bind λ x4 =>
 bif !x4.closed then (some ((22:Int)))
 else ((f64 N x4 x4.from_).bind λ x5 =>
 (f64 N x4 (max x4.from_ (W (x2.place+(1:Int))))).bind λ x6 =>
 bif decide (x6<x5) then (bif decide (x6<x4.open_) then (some ((12:Int)))
 else (bif decide (x2.thick=(1:Int)) then (some ((13:Int)))
 else (some ((0:Int)))))
 else (bif decide (x2.thick=(1:Int)) then (some ((13:Int)))
 else (some ((0:Int)))))
def f215:Nat->Grinding->LS->LE->LC->Option (Int)
 | 0,_,_,_,_=>none
 | N+1,s0,s1,s2,s3=>ztG (f215 N) N s0 s1 s2 s3
def Af215 (s0:Grinding)(s1:LS)(s2:LE)(s3:LC):List SV:=[.dat (.agg [strN s0.stone]), .ptr 0 0]
def Bf215 (s0:Grinding)(s1:LS)(s2:LE)(s3:LC):List Blk:=[.box [.mp 1, .mp 2, .mp 3],(sW [2] s1),(eW s2),(mW s3)]
def Rf215 (y:Int):List SV:=[.dat (iN y)]
def zxO (s0:Grinding)(s1:LS)(s2:LE)(s3:LC)(y:Int):List Blk:=[.box [.mp 1, .mp 2, .mp 3],(sW [2] s1),(eW s2),(mW s3)]
def zxP (y:Int):List Blk:=[]
def zlV:Spec (Grinding×LS×LE×LC) (Int):=⟨4,[],λ x=>Af215 x.1 x.2.1 x.2.2.1 x.2.2.2,λ x=>Bf215 x.1 x.2.1 x.2.2.1 x.2.2.2,λ _ y=>Rf215 y,λ x y=>zxO x.1 x.2.1 x.2.2.1 x.2.2.2 y,λ _ y=>zxP y⟩
def H215 (N:Nat)(x:Grinding×LS×LE×LC)(y:Int):Prop:=f215 N x.1 x.2.1 x.2.2.1 x.2.2.2=some y
def G215 (x:Grinding×LS×LE×LC)(y:Int):Prop:=∃ N,H215 N x y
theorem G215.step {s1 s2 s3}{s0:Grinding}{A:_->Option ρ}(ha:xs=[.dat (.agg [strN s0.stone]), .ptr k0 0])(b0:m k0 = .box [.mp k1, .mp k2, .mp k3])(b1:m k1=(sW [k2] s1))(b2:m k2=(eW s2))(b3:m k3=(mW s3))(hu:True)(hn:zaU [k0,k1,k2,k3]=true)(h:∀ y,A y=some q->K ⟨.dat (iN y),[(k0, .box [.mp k1, .mp k2, .mp k3]),(k1,(sW [k2] s1)),(k2,(eW s2)),(k3,(mW s3))]⟩ ([Loc.b k0,Loc.b k1,Loc.b k2,Loc.b k3]++l))(hF:(f215 N s0 s1 s2 s3).bind A=some q):effPg zlV (G215) xs id (λ _=>SV.no) m l K:=by
 obtain⟨y,hy,hA⟩:=bind_some hF;exact zaH [k0,k1,k2,k3] (s0,s1,s2,s3) y _ ⟨N,hy⟩ rfl hn ha (by simp only[List.map_cons,List.map_nil,b0,b1,b2,b3];rfl) rfl rfl rfl (h y hA)
def zxQ:Ann:=⟨[0],[0,1,2,3],[],[]⟩
def zv0:Ann:=⟨[0],[0,1,2,3],[],[]⟩
def ztH (self:Delivery->LS->LE->LC->Option (LE))(N:Nat)(s0:Delivery)(s1:LS)(s2:LE)(s3:LC):Option (LE) :=
 onO (zaA s0.claiming.edition s2) none λ x1 =>
 (getF s2 x1).bind λ x2 =>
 (some (zbB (0:Int) s0.claiming.customer x2.owed)).bind λ x3 =>
 (some (setK s0.claiming.customer (W (x3.1-s0.claiming.n)) x2.owed)).bind λ x4 =>
 (some (setF s2 x1 ({ x2 with owed:=x4 }))).bind λ x5 =>
 (some (setF x5 x1 ({ x2 with owed:=x4,open_:=W (x2.open_-s0.claiming.n) }))).bind λ x6 =>
 (some (setF x6 x1 ({ x2 with delivered:=W (x2.delivered+s0.claiming.n),owed:=x4,open_:=W (x2.open_-s0.claiming.n) }))).bind λ x7 =>
 (ix x2.places (W ((List.length x2.places:Int)-(1:Int)))).bind λ x8 =>
 (setx x2.places (W ((List.length x2.places:Int)-(1:Int))) (W (x8-s0.claiming.n))).bind λ x9 =>
 (some (setF x7 x1 ({ x2 with places:=x9,delivered:=W (x2.delivered+s0.claiming.n),owed:=x4,open_:=W (x2.open_-s0.claiming.n) }))).bind λ x10 =>
 some (x10)
def f211:Nat->Delivery->LS->LE->LC->Option (LE)
 | 0,_,_,_,_=>none
 | N+1,s0,s1,s2,s3=>ztH (f211 N) N s0 s1 s2 s3
def Af211 (s0:Delivery)(s1:LS)(s2:LE)(s3:LC):List SV:=[.dat (.agg [strN s0.claiming.customer,strN s0.claiming.edition,iN s0.claiming.n]), .ptr 0 0]
def Bf211 (s0:Delivery)(s1:LS)(s2:LE)(s3:LC):List Blk:=[.box [.mp 1, .mp 2, .mp 3],(sW [2] s1),(eW s2),(mW s3)]
def Rf211 (y:LE):List SV:=[]
def zxR (s0:Delivery)(s1:LS)(s2:LE)(s3:LC)(y:LE):List Blk:=[.box [.mp 1, .mp 2, .mp 3],(sW [2] s1),(eW y),(mW s3)]
def zxS (y:LE):List Blk:=[]
def zlW:Spec (Delivery×LS×LE×LC) (LE):=⟨4,[],λ x=>Af211 x.1 x.2.1 x.2.2.1 x.2.2.2,λ x=>Bf211 x.1 x.2.1 x.2.2.1 x.2.2.2,λ _ y=>Rf211 y,λ x y=>zxR x.1 x.2.1 x.2.2.1 x.2.2.2 y,λ _ y=>zxS y⟩
def H211 (N:Nat)(x:Delivery×LS×LE×LC)(y:LE):Prop:=f211 N x.1 x.2.1 x.2.2.1 x.2.2.2=some y
def G211 (x:Delivery×LS×LE×LC)(y:LE):Prop:=∃ N,H211 N x y
theorem G211.step {s1 s2 s3}{s0:Delivery}{A:_->Option ρ}(ha:xs=[.dat (.agg [strN s0.claiming.customer,strN s0.claiming.edition,iN s0.claiming.n]), .ptr k0 0])(b0:m k0 = .box [.mp k1, .mp k2, .mp k3])(b1:m k1=(sW [k2] s1))(b2:m k2=(eW s2))(b3:m k3=(mW s3))(hu:True)(hn:zaU [k0,k1,k2,k3]=true)(h:∀ y,A y=some q->K ⟨.tup [],[(k0, .box [.mp k1, .mp k2, .mp k3]),(k1,(sW [k2] s1)),(k2,(eW y)),(k3,(mW s3))]⟩ ([Loc.b k0,Loc.b k1,Loc.b k2,Loc.b k3]++l))(hF:(f211 N s0 s1 s2 s3).bind A=some q):effPg zlW (G211) xs id (λ _=>SV.no) m l K:=by
 obtain⟨y,hy,hA⟩:=bind_some hF;exact zaH [k0,k1,k2,k3] (s0,s1,s2,s3) y _ ⟨N,hy⟩ rfl hn ha (by simp only[List.map_cons,List.map_nil,b0,b1,b2,b3];rfl) rfl rfl rfl (h y hA)
def zxT:Ann:=⟨[],[0,1,2,3],[],[]⟩
def zv1:Ann:=⟨[],[0,1,2,3],[],[]⟩
def zaN (a0:List (List Int))(N:Nat):Option (Int) :=
 (f145 N a0).bind λ x3 =>
 bif x3 then (some ((6:Int)))
 else (some ((0:Int)))
def zbr (a0:List (List Int))(N:Nat):Lp (Unit) Unit (Int):=lp0 ⟨[],[102],[],[]⟩ (λ _=>[]) (λ _=>[.box [.dat (iN (List.length a0:Int))]]) (λ _=>zaN a0 N)
instance ziO {a0 N}:IsLp 0 0 (zaN a0 N) (zbr a0 N) ():=⟨rfl⟩
instance ziP {a0 N}:IsCut 0 (zaN a0 N) (zbr a0 N) 404000103000000007:=⟨⟩
def zcb (r2:Int->Option (Int))(a0:List (List Int))(N:Nat)(x2:List Int)(k0:Option (Int))(v8:Int):Option (Int) :=
 bif decide (v8<(List.length x2:Int)) then ((ix x2 v8).bind λ x4 =>
 (f117 N (0:Int) x4 (W ((List.length a0:Int)-(1:Int)))).bind λ x5 =>
 bif !x5 then (bif decide ((0:Int)<=v8) then (some ((4:Int)))
 else ((f145 N a0).bind λ x6 =>
 bif x6 then (some ((6:Int)))
 else (some ((0:Int)))))
 else (r2 (W (v8+(1:Int)))))
 else k0
def zaY (a0:List (List Int))(N:Nat)(x2:List Int)(k0:Option (Int)):Nat->Int->Option (Int)
 | 0,_=>none
 | n+1,v8=>zcb (zaY a0 N x2 k0 n) a0 N x2 k0 v8
def zcc (a0:List (List Int))(N:Nat)(x2:List Int)(k0:Option (Int)):Lp (Nat×Int) Unit (Int):=lp0 ⟨[0,1,7,8],[102],[],[]⟩ (λ (_,v8)=>[.dat (zbc x2), .fn 144 [] [.ptr 102 0], .dat (iN (List.length x2:Int)), .dat (iN v8)]) (λ (_,_)=>[.box [.dat (iN (List.length a0:Int))]]) (λ (n,v8)=>zaY a0 N x2 k0 n v8)
instance zjR {a0 N x2 k0 n v8}:IsLp 0 1 (zaY a0 N x2 k0 n v8) (zcc a0 N x2 k0) (n,v8):=⟨rfl⟩
def zaO (a0:List (List Int))(N:Nat):Option (Int) :=
 (f143 N a0).bind λ x2 =>
 zau (zaN a0 N) λ k0 =>
 zaY a0 N x2 k0 N (0:Int)
def zbs (a0:List (List Int))(N:Nat):Lp (Unit) Unit (Int):=lp0 ⟨[],[102],[],[]⟩ (λ _=>[]) (λ _=>[.box [.dat (iN (List.length a0:Int))]]) (λ _=>zaO a0 N)
instance ziQ {a0 N}:IsLp 0 0 (zaO a0 N) (zbs a0 N) ():=⟨rfl⟩
instance ziR {a0 N}:IsCut 0 (zaO a0 N) (zbs a0 N) 207000103000000007:=⟨⟩
def zaI (a0:List (List Int))(N:Nat):Option (Int) :=
 (f145 N a0).bind λ x9 =>
 bif x9 then (some ((6:Int)))
 else (some ((0:Int)))
def zbd (a0:List (List Int))(N:Nat):Lp (Unit) Unit (Int):=lp0 ⟨[],[102],[],[]⟩ (λ _=>[]) (λ _=>[.box [.dat (iN (List.length a0:Int))]]) (λ _=>zaI a0 N)
instance zi {a0 N}:IsLp 0 0 (zaI a0 N) (zbd a0 N) ():=⟨rfl⟩
instance zia {a0 N}:IsCut 0 (zaI a0 N) (zbd a0 N) 404000103000000007:=⟨⟩
def zbP (r2x:Int->Option (Int))(a0:List (List Int))(N:Nat)(x8:List Int)(k2:Option (Int))(v8':Int):Option (Int) :=
 bif decide ((v8')<(List.length x8:Int)) then ((ix x8 (v8')).bind λ x10 =>
 (f117 N (0:Int) x10 (W ((List.length a0:Int)-(1:Int)))).bind λ x11 =>
 bif !x11 then (bif decide ((0:Int)<=(v8')) then (some ((4:Int)))
 else ((f145 N a0).bind λ x12 =>
 bif x12 then (some ((6:Int)))
 else (some ((0:Int)))))
 else (r2x (W ((v8')+(1:Int)))))
 else k2
def zaV (a0:List (List Int))(N:Nat)(x8:List Int)(k2:Option (Int)):Nat->Int->Option (Int)
 | 0,_=>none
 | n+1,v8' => zbP (zaV a0 N x8 k2 n) a0 N x8 k2 v8'
def zbQ (a0:List (List Int))(N:Nat)(x8:List Int)(k2:Option (Int)):Lp (Nat×Int) Unit (Int):=lp0 ⟨[0,1,7,8],[102],[],[]⟩ (λ (_,v8')=>[.dat (zbc x8), .fn 144 [] [.ptr 102 0], .dat (iN (List.length x8:Int)), .dat (iN (v8'))]) (λ (_,_)=>[.box [.dat (iN (List.length a0:Int))]]) (λ (n,v8')=>zaV a0 N x8 k2 n v8')
instance zir {a0 N x8 k2 n v8'}:IsLp 0 1 (zaV a0 N x8 k2 n v8') (zbQ a0 N x8 k2) (n,v8'):=⟨rfl⟩
def zcd (r2:Int->Option (Int))(a0:List (List Int))(N:Nat)(k1:Option (Int))(v8:Int):Option (Int) :=
 bif decide (v8<(List.length a0:Int)) then ((ix a0 v8).bind λ x7 =>
 bif decide (¬ (List.length x7:Int)=(List.length a0:Int)) then (bif decide ((0:Int)<=v8) then (some ((3:Int)))
 else ((f143 N a0).bind λ x8 =>
 zau (zaI a0 N) λ k2 =>
 zaV a0 N x8 k2 N (0:Int)))
 else (r2 (W (v8+(1:Int)))))
 else k1
def zaZ (a0:List (List Int))(N:Nat)(k1:Option (Int)):Nat->Int->Option (Int)
 | 0,_=>none
 | n+1,v8=>zcd (zaZ a0 N k1 n) a0 N k1 v8
def zce (a0:List (List Int))(N:Nat)(k1:Option (Int)):Lp (Nat×Int) Unit (Int):=lp0 ⟨[0,1,7,8],[102],[],[]⟩ (λ (_,v8)=>[.dat (zao a0), .fn 141 [] [.ptr 102 0], .dat (iN (List.length a0:Int)), .dat (iN v8)]) (λ (_,_)=>[.box [.dat (iN (List.length a0:Int))]]) (λ (n,v8)=>zaZ a0 N k1 n v8)
instance zjS {a0 N k1 n v8}:IsLp 0 1 (zaZ a0 N k1 n v8) (zce a0 N k1) (n,v8):=⟨rfl⟩
def f116 (N:Nat)(a0:List (List Int)):Option (Int) :=
 (f117 N (2:Int) (List.length a0:Int) (10:Int)).bind λ x1 =>
 bif !x1 then (some ((3:Int)))
 else (zau (zaO a0 N) λ k1 =>
 zaZ a0 N k1 N (0:Int))
def G116 (ds:List D)(d:D):Prop:=∃ (N:Nat) (a0:List (List Int)) (r:Int),ds=[zao a0]/\f116 N a0=some r/\d=iN r
theorem G116.lend {a0}{A:_->Option ρ}{K:D->Prop}(hd:ds=[zao a0])(h:∀ r,A r=some q->K (iN r))(hF:(f116 N a0).bind A=some q):∃ d,(G116 ds d/\d.flatB=true)/\K d:=by
 obtain⟨r,hr,hA⟩:=bind_some hF;exact⟨_,⟨⟨N,a0,r,hd,hr,rfl⟩,rfl⟩,h r hA⟩
def zfP (b501:List (List Int)):Option ((List (List Int))×Int) :=
 some (b501,(0:Int))
def zhH:Lp ((List (List Int))) (Nat×Unit) ((List (List Int))×Int):=lpm ⟨[6],[501],[],[]⟩ (λ b501=>zfP b501) (λ _ (m0,_)=>[.rs 501 m0]) (λ b501 (_,_)=>[.nest 43 3 1 none (List.map (List.map iN) b501)]) λ b501=>(List.length b501,())
instance zxU {b501}:IsLp 1 1 (zfP b501) (zhH) b501:=⟨rfl⟩
instance zxV:IsCut 1 (zfP) (zhH) 15:=⟨⟩
def zfQ (a0:Int)(a1:Int)(x4:List (List Int))(v29:Int)(r7:Int->(List (List Int))->Option ((List (List Int))×Int))(b501':List (List Int)):Option ((List (List Int))×Int) :=
 r7 (W (v29+(1:Int))) (b501')
def zhI (a0:Int)(a1:Int)(x4:List (List Int))(v29:Int)(r7:Int->(List (List Int))->Option ((List (List Int))×Int)):Lp ((List (List Int))) (Nat×Unit) ((List (List Int))×Int):=lpm ⟨[0,1,6,28,29],[501],[],[]⟩ (λ b501' => zfQ a0 a1 x4 v29 r7 b501') (λ _ (m0,_)=>[.dat (iN a0), .dat (iN a1), .rs 501 m0, .dat (iN (List.length x4:Int)), .dat (iN v29)]) (λ b501' (_,_)=>[.nest 43 3 1 none (List.map (List.map iN) (b501'))]) λ b501' => (List.length (b501'),())
instance zxW {a0 a1 x4 v29 r7 b501'}:IsLp 1 1 (zfQ a0 a1 x4 v29 r7 b501') (zhI a0 a1 x4 v29 r7) b501':=⟨rfl⟩
instance zxX {a0 a1 x4 v29 r7}:IsCut 1 (zfQ a0 a1 x4 v29 r7) (zhI a0 a1 x4 v29 r7) 14:=⟨⟩
def zo (r10:Int->(List (List Int))->Option ((List (List Int))×Int))(a0:Int)(a1:Int)(x4:List (List Int))(v29:Int)(k1:(List (List Int))->Option ((List (List Int))×Int))(v33:Int)(b501':List (List Int)):Option ((List (List Int))×Int) :=
 bif decide (v33<a0) then ((ix (b501') v29).bind λ x5 =>
 (chk (decide (a0≠0))).bind λ _ =>
 (app 8 x5 [Int.tmod (W ((W (a1*v29))+v33)) a0]).bind λ x6 =>
 (ix (b501') v29).bind λ x7 =>
 (setx (b501') v29 x6).bind λ x8 =>
 r10 (W (v33+(1:Int))) x8)
 else (k1 (b501'))
def zhJ (a0:Int)(a1:Int)(x4:List (List Int))(v29:Int)(k1:(List (List Int))->Option ((List (List Int))×Int)):Nat->Int->(List (List Int))->Option ((List (List Int))×Int)
 | 0,_,_=>none
 | n+1,v33,b501' => zo (zhJ a0 a1 x4 v29 k1 n) a0 a1 x4 v29 k1 v33 b501'
def zoa (a0:Int)(a1:Int)(x4:List (List Int))(v29:Int)(k1:(List (List Int))->Option ((List (List Int))×Int)):Lp (Nat×Int×(List (List Int))) (Nat×Unit) ((List (List Int))×Int):=lpm ⟨[0,1,6,7,28,29,32,33],[501],[],[]⟩ (λ (n,v33,b501')=>zhJ a0 a1 x4 v29 k1 n v33 b501') (λ (_,v33,_) (m0,_)=>[.dat (iN a0), .dat (iN a1), .rs 501 m0, .dat (iN v29), .dat (iN (List.length x4:Int)), .dat (iN v29), .dat (iN a0), .dat (iN v33)]) (λ (_,_,b501') (_,_)=>[.nest 43 3 1 none (List.map (List.map iN) (b501'))]) λ (_,_,b501')=>(List.length (b501'),())
instance Ef119_10 {a0 a1 x4 v29 k1 n v33 b501'}:IsLp 1 2 (zhJ a0 a1 x4 v29 k1 n v33 b501') (zoa a0 a1 x4 v29 k1) (n,v33,b501'):=⟨rfl⟩
def zry (r7:Int->(List (List Int))->Option ((List (List Int))×Int))(a0:Int)(a1:Int)(N:Nat)(x4:List (List Int))(k0:(List (List Int))->Option ((List (List Int))×Int))(v29:Int)(b501:List (List Int)):Option ((List (List Int))×Int) :=
 bif decide (v29<(List.length x4:Int)) then (zau (zfQ a0 a1 x4 v29 r7) λ k1 =>
 zhJ a0 a1 x4 v29 k1 N (0:Int) b501)
 else (k0 b501)
def zlX (a0:Int)(a1:Int)(N:Nat)(x4:List (List Int))(k0:(List (List Int))->Option ((List (List Int))×Int)):Nat->Int->(List (List Int))->Option ((List (List Int))×Int)
 | 0,_,_=>none
 | n+1,v29,b501=>zry (zlX a0 a1 N x4 k0 n) a0 a1 N x4 k0 v29 b501
def zrz (a0:Int)(a1:Int)(N:Nat)(x4:List (List Int))(k0:(List (List Int))->Option ((List (List Int))×Int)):Lp (Nat×Int×(List (List Int))) (Nat×Unit) ((List (List Int))×Int):=lpm ⟨[0,1,6,28,29],[501],[],[]⟩ (λ (n,v29,b501)=>zlX a0 a1 N x4 k0 n v29 b501) (λ (_,v29,_) (m0,_)=>[.dat (iN a0), .dat (iN a1), .rs 501 m0, .dat (iN (List.length x4:Int)), .dat (iN v29)]) (λ (_,_,b501) (_,_)=>[.nest 43 3 1 none (List.map (List.map iN) b501)]) λ (_,_,b501)=>(List.length b501,())
instance Ef119_7 {a0 a1 N x4 k0 n v29 b501}:IsLp 1 2 (zlX a0 a1 N x4 k0 n v29 b501) (zrz a0 a1 N x4 k0) (n,v29,b501):=⟨rfl⟩
def f119 (N:Nat)(a0:Int)(a1:Int):Option ((List (List Int))×Int) :=
 (f117 N (2:Int) a0 (10:Int)).bind λ x1 =>
 bif !x1 then (some ([],(4:Int)))
 else ((f117 N (1:Int) a1 (W (a0-(1:Int)))).bind λ x2 =>
 bif !x2 then (some ([],(4:Int)))
 else ((f148 N a0 a1).bind λ x3 =>
 bif decide ((1:Int)<x3) then (some ([],(12:Int)))
 else ((mkS 24 [] a0 a0).bind λ x4 =>
 zau zfP λ k0 =>
 zlX a0 a1 N x4 k0 N (0:Int) x4)))
def G119 (ds:List D)(d:D):Prop:=∃ (N:Nat) (a0:Int) (a1:Int) (r:(List (List Int))×Int),ds=[iN a0,iN a1]/\f119 N a0 a1=some r/\d = .tup [zao r.1,iN r.2]
theorem G119.step {a0 a1}{A:_->Option ρ}{K:D->Prop}(hd:ds=[iN a0,iN a1])(h:∀ r,A r=some q->K (.tup [zao r.1,iN r.2]))(hF:(f119 N a0 a1).bind A=some q):∃ d,G119 ds d/\K d:=by
 obtain⟨r,hr,hA⟩:=bind_some hF;exact⟨_,⟨N,a0,a1,r,hd,hr,rfl⟩,h r hA⟩
def zen (v3:LB):Option (LB) :=
 some (v3)
def zjT:Lp (LB) (Nat×Unit) (LB):=lpm ⟨[3],[90003],[(.slot 3,90003,9,1)],[]⟩ (λ v3=>zen v3) (λ _ (m0,_)=>[.rs 90003 m0]) (λ v3 (_,_)=>[(rW v3)]) λ v3=>(List.length v3,())
instance Ef26_c32 {v3}:IsLp 1 1 (zen v3) (zjT) v3:=⟨rfl⟩
instance Cf26_c32:IsCut 1 (zen) (zjT) 32:=⟨⟩
def zlY (r3:LB->Int->Option (LB))(a0:List A4u8N)(N:Nat)(k0:LB->Option (LB))(v3:LB)(v13:Int):Option (LB) :=
 bif decide (v13<(List.length a0:Int)) then ((ix a0 v13).bind λ x1 =>
 bif decide ((30:Int)<=v13) then (k0 v3)
 else ((f27 N ).bind λ x2 =>
 (f50 N x2 x1.e1).bind λ x3 =>
 (f28 N ).bind λ x4 =>
 (f50 N x4 x1.e2).bind λ x5 =>
 (f29 N ).bind λ x6 =>
 (f50 N x6 x1.e1).bind λ x7 =>
 (f30 N (W ((1:Int)+(Int.tmod x1.e3 (9:Int))))).bind λ x8 =>
 bif decide ((Int.tmod x1.e0 (16:Int))=(0:Int)) then ((addS (strC [115,116,111,110,101,32]) x3).bind λ x9 =>
 (addS x9 (strC [32])).bind λ x10 =>
 (addS x10 x8).bind λ x11 =>
 (app 16 v3 [x11]).bind λ x12 =>
 r3 x12 (W (v13+(1:Int))))
 else (bif decide ((Int.tmod x1.e0 (16:Int))=(1:Int)) then ((addS (strC [101,100,105,116,105,111,110,32]) x5).bind λ x13 =>
 (app 16 v3 [x13]).bind λ x14 =>
 r3 x14 (W (v13+(1:Int))))
 else (bif decide ((Int.tmod x1.e0 (16:Int))=(2:Int)) then ((addS (strC [100,114,97,119,32]) x3).bind λ x15 =>
 (addS x15 (strC [32])).bind λ x16 =>
 (addS x16 x5).bind λ x17 =>
 (app 16 v3 [x17]).bind λ x18 =>
 r3 x18 (W (v13+(1:Int))))
 else (bif decide ((Int.tmod x1.e0 (16:Int))=(3:Int)) then ((addS (strC [100,114,97,119,32]) x3).bind λ x19 =>
 (addS x19 (strC [32])).bind λ x20 =>
 (addS x20 x5).bind λ x21 =>
 (app 16 v3 [x21]).bind λ x22 =>
 r3 x22 (W (v13+(1:Int))))
 else (bif decide ((Int.tmod x1.e0 (16:Int))=(4:Int)) then ((addS (strC [112,97,112,101,114,32]) x5).bind λ x23 =>
 (addS x23 (strC [32])).bind λ x24 =>
 (addS x24 x8).bind λ x25 =>
 (app 16 v3 [x25]).bind λ x26 =>
 r3 x26 (W (v13+(1:Int))))
 else (bif decide ((Int.tmod x1.e0 (16:Int))=(5:Int)) then ((addS (strC [112,114,105,110,116,32]) x3).bind λ x27 =>
 (addS x27 (strC [32])).bind λ x28 =>
 (addS x28 x8).bind λ x29 =>
 (addS x29 (strC [32])).bind λ x30 =>
 (f30 N (Int.tmod x1.e2 (3:Int))).bind λ x31 =>
 (addS x30 x31).bind λ x32 =>
 (app 16 v3 [x32]).bind λ x33 =>
 r3 x33 (W (v13+(1:Int))))
 else (bif decide ((Int.tmod x1.e0 (16:Int))=(6:Int)) then ((addS (strC [112,114,105,110,116,32]) x3).bind λ x34 =>
 (addS x34 (strC [32])).bind λ x35 =>
 (addS x35 x8).bind λ x36 =>
 (addS x36 (strC [32])).bind λ x37 =>
 (f30 N (Int.tmod x1.e2 (3:Int))).bind λ x38 =>
 (addS x37 x38).bind λ x39 =>
 (app 16 v3 [x39]).bind λ x40 =>
 r3 x40 (W (v13+(1:Int))))
 else (bif decide ((Int.tmod x1.e0 (16:Int))=(7:Int)) then ((addS (strC [112,114,105,110,116,32]) x3).bind λ x41 =>
 (addS x41 (strC [32])).bind λ x42 =>
 (addS x42 x8).bind λ x43 =>
 (addS x43 (strC [32])).bind λ x44 =>
 (f30 N (Int.tmod x1.e2 (3:Int))).bind λ x45 =>
 (addS x44 x45).bind λ x46 =>
 (app 16 v3 [x46]).bind λ x47 =>
 r3 x47 (W (v13+(1:Int))))
 else (bif decide ((Int.tmod x1.e0 (16:Int))=(8:Int)) then ((addS (strC [112,114,105,110,116,32]) x3).bind λ x48 =>
 (addS x48 (strC [32])).bind λ x49 =>
 (addS x49 x8).bind λ x50 =>
 (addS x50 (strC [32])).bind λ x51 =>
 (f30 N (Int.tmod x1.e2 (3:Int))).bind λ x52 =>
 (addS x51 x52).bind λ x53 =>
 (app 16 v3 [x53]).bind λ x54 =>
 r3 x54 (W (v13+(1:Int))))
 else (bif decide ((Int.tmod x1.e0 (16:Int))=(9:Int)) then ((addS (strC [99,108,111,115,101,32]) x5).bind λ x55 =>
 (app 16 v3 [x55]).bind λ x56 =>
 r3 x56 (W (v13+(1:Int))))
 else (bif decide ((Int.tmod x1.e0 (16:Int))=(10:Int)) then ((addS (strC [99,108,97,105,109,32]) x7).bind λ x57 =>
 (addS x57 (strC [32])).bind λ x58 =>
 (addS x58 x5).bind λ x59 =>
 (addS x59 (strC [32])).bind λ x60 =>
 (addS x60 x8).bind λ x61 =>
 (app 16 v3 [x61]).bind λ x62 =>
 r3 x62 (W (v13+(1:Int))))
 else (bif decide ((Int.tmod x1.e0 (16:Int))=(11:Int)) then ((addS (strC [99,108,97,105,109,32]) x7).bind λ x63 =>
 (addS x63 (strC [32])).bind λ x64 =>
 (addS x64 x5).bind λ x65 =>
 (addS x65 (strC [32])).bind λ x66 =>
 (addS x66 x8).bind λ x67 =>
 (app 16 v3 [x67]).bind λ x68 =>
 r3 x68 (W (v13+(1:Int))))
 else (bif decide ((Int.tmod x1.e0 (16:Int))=(12:Int)) then ((addS (strC [100,101,108,105,118,101,114,32]) x7).bind λ x69 =>
 (addS x69 (strC [32])).bind λ x70 =>
 (addS x70 x5).bind λ x71 =>
 (addS x71 (strC [32])).bind λ x72 =>
 (addS x72 x8).bind λ x73 =>
 (app 16 v3 [x73]).bind λ x74 =>
 r3 x74 (W (v13+(1:Int))))
 else (bif decide ((Int.tmod x1.e0 (16:Int))=(13:Int)) then ((addS (strC [100,101,108,105,118,101,114,32]) x7).bind λ x75 =>
 (addS x75 (strC [32])).bind λ x76 =>
 (addS x76 x5).bind λ x77 =>
 (addS x77 (strC [32])).bind λ x78 =>
 (addS x78 x8).bind λ x79 =>
 (app 16 v3 [x79]).bind λ x80 =>
 r3 x80 (W (v13+(1:Int))))
 else ((addS (strC [103,114,105,110,100,32]) x3).bind λ x81 =>
 (app 16 v3 [x81]).bind λ x82 =>
 r3 x82 (W (v13+(1:Int)))))))))))))))))))
 else (k0 v3)
def zhK (a0:List A4u8N)(N:Nat)(k0:LB->Option (LB)):Nat->LB->Int->Option (LB)
 | 0,_,_=>none
 | n+1,v3,v13=>zlY (zhK a0 N k0 n) a0 N k0 v3 v13
def zuH (a0:List A4u8N)(N:Nat)(k0:LB->Option (LB)):Lp (Nat×LB×Int) (Nat×Unit) (LB):=lpm ⟨[3,11,12,13],[90003],[(.slot 3,90003,9,1)],[]⟩ (λ (n,v3,v13)=>zhK a0 N k0 n v3 v13) (λ (_,_,v13) (m0,_)=>[.rs 90003 m0, .dat (zdM a0), .dat (iN (List.length a0:Int)), .dat (iN v13)]) (λ (_,v3,_) (_,_)=>[(rW v3)]) λ (_,v3,_)=>(List.length v3,())
instance Ef26_3 {a0 N k0 n v3 v13}:IsLp 1 2 (zhK a0 N k0 n v3 v13) (zuH a0 N k0) (n,v3,v13):=⟨rfl⟩
def f26 (N:Nat)(a0:List A4u8N):Option (LB) :=
 zau zen λ k0 =>
 zhK a0 N k0 N [(strC [115,116,111,110,101,32,97,32,51]),(strC [115,116,111,110,101,32,98,32,50]),(strC [101,100,105,116,105,111,110,32,109,97,112]),(strC [112,97,112,101,114,32,109,97,112,32,50,48]),(strC [100,114,97,119,32,97,32,109,97,112])] (0:Int)
def G26 (ds:List D)(d:D):Prop:=∃ (N:Nat) (a0:List A4u8N) (r:LB),ds=[zdM a0]/\f26 N a0=some r/\d=zat r
theorem G26.step {a0}{A:_->Option ρ}{K:D->Prop}(hd:ds=[zdM a0])(h:∀ r,A r=some q->K (zat r))(hF:(f26 N a0).bind A=some q):∃ d,G26 ds d/\K d:=by
 obtain⟨r,hr,hA⟩:=bind_some hF;exact⟨_,⟨N,a0,r,hd,hr,rfl⟩,h r hA⟩

end Go.Vc
namespace Go.Vc
open Go.Proofs
variable {N id:Nat} {ρ:Type} {q:ρ} {xs:List SV} {m:Nat->Blk} {l:List Loc} {ds:List D} {K:Dl->List Loc->Prop} {k0 k1 k2 k3 k4 k5 k6 k7 k8 k9 k10 k11 k12 k13 k14 k15 m0 m1 m2 m3 m4 m5:Nat}
def f107 (N:Nat)(a0:ByteArray):Option (Bool) :=
 (f61 N a0).bind λ x1 =>
 some (!x1)
def G107 (ds:List D)(d:D):Prop:=∃ (N:Nat) (a0:ByteArray) (r:Bool),ds=[strN a0]/\f107 N a0=some r/\d=bN r
theorem G107.lend {a0}{A:_->Option ρ}{K:D->Prop}(hd:ds=[strN a0])(h:∀ r,A r=some q->K (bN r))(hF:(f107 N a0).bind A=some q):∃ d,(G107 ds d/\d.flatB=true)/\K d:=by
 obtain⟨r,hr,hA⟩:=bind_some hF;exact⟨_,⟨⟨N,a0,r,hd,hr,rfl⟩,rfl⟩,h r hA⟩
def zay (a0:List (List Int)):Option (Int) :=
 some ((0:Int))
def zbt (a0:List (List Int)):Lp (Unit) Unit (Int):=lp0 ⟨[],[0],[],[]⟩ (λ _=>[]) (λ _=>[.box [.dat (zao a0)]]) (λ _=>zay a0)
instance ziS {a0}:IsLp 0 0 (zay a0) (zbt a0) ():=⟨rfl⟩
instance ziT {a0}:IsCut 0 (zay a0) (zbt a0) 603000103000000007:=⟨⟩
def za4 (r2:Int->Option (Int))(a0:List (List Int))(a1:List Int)(N:Nat)(k0:Option (Int))(v8:Int):Option (Int) :=
 bif decide (v8<(List.length a1:Int)) then ((ix a1 v8).bind λ x2 =>
 (f117 N (0:Int) x2 (W ((List.length a0:Int)-(1:Int)))).bind λ x3 =>
 bif !x3 then (bif decide ((0:Int)<=v8) then (some ((4:Int)))
 else (some ((0:Int))))
 else (r2 (W (v8+(1:Int)))))
 else k0
def zaB (a0:List (List Int))(a1:List Int)(N:Nat)(k0:Option (Int)):Nat->Int->Option (Int)
 | 0,_=>none
 | n+1,v8=>za4 (zaB a0 a1 N k0 n) a0 a1 N k0 v8
def zcf (a0:List (List Int))(a1:List Int)(N:Nat)(k0:Option (Int)):Lp (Nat×Int) Unit (Int):=lp0 ⟨[0,1,7,8],[0],[],[]⟩ (λ (_,v8)=>[.dat (zbc a1), .fn 174 [] [.ptr 0 0], .dat (iN (List.length a1:Int)), .dat (iN v8)]) (λ (_,_)=>[.box [.dat (zao a0)]]) (λ (n,v8)=>zaB a0 a1 N k0 n v8)
instance zjU {a0 a1 N k0 n v8}:IsLp 0 1 (zaB a0 a1 N k0 n v8) (zcf a0 a1 N k0) (n,v8):=⟨rfl⟩
def f158 (N:Nat)(a0:List (List Int))(a1:List Int):Option (Int) :=
 (f116 N a0).bind λ x1 =>
 bif decide (¬ x1=(0:Int)) then (some (x1))
 else (bif decide ((12:Int)<(List.length a1:Int)) then (some ((2:Int)))
 else (zau (zay a0) λ k0 =>
 zaB a0 a1 N k0 N (0:Int)))
def G158 (ds:List D)(d:D):Prop:=∃ (N:Nat) (a0:List (List Int)) (a1:List Int) (r:Int),ds=[zao a0,zbc a1]/\f158 N a0 a1=some r/\d=iN r
theorem G158.lend {a0 a1}{A:_->Option ρ}{K:D->Prop}(hd:ds=[zao a0,zbc a1])(h:∀ r,A r=some q->K (iN r))(hF:(f158 N a0 a1).bind A=some q):∃ d,(G158 ds d/\d.flatB=true)/\K d:=by
 obtain⟨r,hr,hA⟩:=bind_some hF;exact⟨_,⟨⟨N,a0,a1,r,hd,hr,rfl⟩,rfl⟩,h r hA⟩
def f84 (N:Nat):Option ((List (List Int))) :=
 (f119 N (10:Int) (3:Int)).bind λ x1 =>
 some (x1.1)
def G84 (ds:List D)(d:D):Prop:=∃ (N:Nat) (r:(List (List Int))),ds=[]/\f84 N  = some r/\d=zao r
theorem G84.step {A:_->Option ρ}{K:D->Prop}(hd:ds=[])(h:∀ r,A r=some q->K (zao r))(hF:(f84 N ).bind A=some q):∃ d,G84 ds d/\K d:=by
 obtain⟨r,hr,hA⟩:=bind_some hF;exact⟨_,⟨N,r,hd,hr,rfl⟩,h r hA⟩
def f32b (self:ByteArray->LB->LS->LE->LC->Option (Int×ByteArray×Int))(N:Nat)(s0:ByteArray)(s1:LB)(s2:LS)(s3:LE)(s4:LC):Option (Int×ByteArray×Int) :=
 (f61 N s0).bind λ x1 =>
 bif !x1 then (some ((0:Int),zbO,(8:Int)))
 else (onO (zaA s0 s2) (some ((0:Int),zbO,(5:Int))) λ x2 =>
 (getF s2 x2).bind λ x3 =>
 onO x3.of (some (x3.thick,zbO,(0:Int))) λ x4 =>
 (getF s3 x4).bind λ x5 =>
 some (x3.thick,x5.name,(0:Int)))
def f32:Nat->ByteArray->LB->LS->LE->LC->Option (Int×ByteArray×Int)
 | 0,_,_,_,_,_=>none
 | N+1,s0,s1,s2,s3,s4=>f32b (f32 N) N s0 s1 s2 s3 s4
def Af32 (s0:ByteArray)(s1:LB)(s2:LS)(s3:LE)(s4:LC):List SV:=[.ptr 0 0, .dat (strN s0)]
def Bf32 (s0:ByteArray)(s1:LB)(s2:LS)(s3:LE)(s4:LC):List Blk:=[.box [.ptr 1 0, .rs 2 (List.length s1)], .box [.mp 3, .mp 4, .mp 5],(rW s1),(sW [4] s2),(eW s3),(mW s4)]
def Rf32 (y:Int×ByteArray×Int):List SV:=[.dat (iN y.1), .dat (strN y.2.1), .dat (iN y.2.2)]
def B1f32 (s0:ByteArray)(s1:LB)(s2:LS)(s3:LE)(s4:LC)(y:Int×ByteArray×Int):List Blk:=[.box [.ptr 1 0, .rs 2 (List.length s1)], .box [.mp 3, .mp 4, .mp 5],(rW s1),(sW [4] s2),(eW s3),(mW s4)]
def BZf32 (y:Int×ByteArray×Int):List Blk:=[]
def zpC:Spec (ByteArray×LB×LS×LE×LC) (Int×ByteArray×Int):=⟨6,[],λ x=>Af32 x.1 x.2.1 x.2.2.1 x.2.2.2.1 x.2.2.2.2,λ x=>Bf32 x.1 x.2.1 x.2.2.1 x.2.2.2.1 x.2.2.2.2,λ _ y=>Rf32 y,λ x y=>B1f32 x.1 x.2.1 x.2.2.1 x.2.2.2.1 x.2.2.2.2 y,λ _ y=>BZf32 y⟩
def H32 (N:Nat)(x:ByteArray×LB×LS×LE×LC)(y:Int×ByteArray×Int):Prop:=f32 N x.1 x.2.1 x.2.2.1 x.2.2.2.1 x.2.2.2.2=some y
def G32 (x:ByteArray×LB×LS×LE×LC)(y:Int×ByteArray×Int):Prop:=∃ N,H32 N x y
theorem G32.step {s0 s1 s2 s3 s4}{A:_->Option ρ}(ha:xs=[.ptr k0 0, .dat (strN s0)])(b0:m k0 = .box [.ptr k1 0, .rs k2 m0])(b1:m k1 = .box [.mp k3, .mp k4, .mp k5])(b2:m k2=(rW s1))(b3:m k3=(sW [k4] s2))(b4:m k4=(eW s3))(b5:m k5=(mW s4))(em0:m0=List.length s1)(hu:True)(hn:zaU [k0,k1,k2,k3,k4,k5]=true)(h:∀ y,A y=some q->K ⟨.tup [.dat (iN y.1), .dat (strN y.2.1), .dat (iN y.2.2)],[(k0, .box [.ptr k1 0, .rs k2 (List.length s1)]),(k1, .box [.mp k3, .mp k4, .mp k5]),(k2,(rW s1)),(k3,(sW [k4] s2)),(k4,(eW s3)),(k5,(mW s4))]⟩ ([Loc.b k0,Loc.b k1,Loc.b k2,Loc.b k3,Loc.b k4,Loc.b k5]++l))(hF:(f32 N s0 s1 s2 s3 s4).bind A=some q):effPg zpC (G32) xs id (λ _=>SV.no) m l K:=by
 subst em0;obtain⟨y,hy,hA⟩:=bind_some hF;exact zaH [k0,k1,k2,k3,k4,k5] (s0,s1,s2,s3,s4) y _ ⟨N,hy⟩ rfl hn ha (by simp only[List.map_cons,List.map_nil,b0,b1,b2,b3,b4,b5];rfl) rfl rfl rfl (h y hA)
def Srf32:Ann:=⟨[0,1,2],[0,1,2,3,4,5],[],[]⟩
def zxY:Ann:=⟨[0,1,2],[0,1,2,3,4,5],[],[]⟩
def f33b (self:ByteArray->LB->LS->LE->LC->Option ((List Int)×Int))(N:Nat)(s0:ByteArray)(s1:LB)(s2:LS)(s3:LE)(s4:LC):Option ((List Int)×Int) :=
 (f61 N s0).bind λ x1 =>
 bif !x1 then (some ([],(8:Int)))
 else (onO (zaA s0 s3) (some ([],(5:Int))) λ x2 =>
 (getF s3 x2).bind λ x3 =>
 demB x3.places ((some ()).bind λ _ =>
 some ([],(0:Int)))
 ((app 8 [] x3.places).bind λ x4 =>
 (some ()).bind λ _ =>
 some (x4,(0:Int))))
def f33:Nat->ByteArray->LB->LS->LE->LC->Option ((List Int)×Int)
 | 0,_,_,_,_,_=>none
 | N+1,s0,s1,s2,s3,s4=>f33b (f33 N) N s0 s1 s2 s3 s4
def Af33 (s0:ByteArray)(s1:LB)(s2:LS)(s3:LE)(s4:LC):List SV:=[.ptr 0 0, .dat (strN s0)]
def Bf33 (s0:ByteArray)(s1:LB)(s2:LS)(s3:LE)(s4:LC):List Blk:=[.box [.ptr 1 0, .rs 2 (List.length s1)], .box [.mp 3, .mp 4, .mp 5],(rW s1),(sW [4] s2),(eW s3),(mW s4)]
def Rf33 (y:(List Int)×Int):List SV:=[.rs 500 (List.length y.1), .dat (iN y.2)]
def B1f33 (s0:ByteArray)(s1:LB)(s2:LS)(s3:LE)(s4:LC)(y:(List Int)×Int):List Blk:=[.box [.ptr 1 0, .rs 2 (List.length s1)], .box [.mp 3, .mp 4, .mp 5],(rW s1),(sW [4] s2),(eW s3),(mW s4)]
def BZf33 (y:(List Int)×Int):List Blk:=[.row 3 1 (List.map iN y.1)]
def zpD:Spec (ByteArray×LB×LS×LE×LC) ((List Int)×Int):=⟨6,[500],λ x=>Af33 x.1 x.2.1 x.2.2.1 x.2.2.2.1 x.2.2.2.2,λ x=>Bf33 x.1 x.2.1 x.2.2.1 x.2.2.2.1 x.2.2.2.2,λ _ y=>Rf33 y,λ x y=>B1f33 x.1 x.2.1 x.2.2.1 x.2.2.2.1 x.2.2.2.2 y,λ _ y=>BZf33 y⟩
def H33 (N:Nat)(x:ByteArray×LB×LS×LE×LC)(y:(List Int)×Int):Prop:=f33 N x.1 x.2.1 x.2.2.1 x.2.2.2.1 x.2.2.2.2=some y
def G33 (x:ByteArray×LB×LS×LE×LC)(y:(List Int)×Int):Prop:=∃ N,H33 N x y
theorem G33.step {s0 s1 s2 s3 s4}{A:_->Option ρ}(ha:xs=[.ptr k0 0, .dat (strN s0)])(b0:m k0 = .box [.ptr k1 0, .rs k2 m0])(b1:m k1 = .box [.mp k3, .mp k4, .mp k5])(b2:m k2=(rW s1))(b3:m k3=(sW [k4] s2))(b4:m k4=(eW s3))(b5:m k5=(mW s4))(em0:m0=List.length s1)(hu:(zcg id 1).map m=List.replicate 1 .unborn)(hn:zaU [k0,k1,k2,k3,k4,k5]=true)(h:∀ y,A y=some q->K ⟨.tup [.rs (id+BIG*0) (List.length y.1), .dat (iN y.2)],[(k0, .box [.ptr k1 0, .rs k2 (List.length s1)]),(k1, .box [.mp k3, .mp k4, .mp k5]),(k2,(rW s1)),(k3,(sW [k4] s2)),(k4,(eW s3)),(k5,(mW s4)),(id, .row 3 1 (List.map iN y.1))]⟩ ([Loc.b k0,Loc.b k1,Loc.b k2,Loc.b k3,Loc.b k4,Loc.b k5,Loc.b id]++l))(hF:(f33 N s0 s1 s2 s3 s4).bind A=some q):effPg zpD (G33) xs id (λ _=>SV.no) m l K:=by
 subst em0;obtain⟨y,hy,hA⟩:=bind_some hF;exact zaH [k0,k1,k2,k3,k4,k5] (s0,s1,s2,s3,s4) y _ ⟨N,hy⟩ rfl hn ha (by simp only[List.map_cons,List.map_nil,b0,b1,b2,b3,b4,b5];rfl) hu rfl rfl (h y hA)
def Srf33:Ann:=⟨[0,1],[0,1,2,3,4,5,500],[(.slot 0,500,3,1)],[]⟩
def zxZ:Ann:=⟨[0,1],[0,1,2,3,4,5],[],[]⟩
def f34b (self:ByteArray->LB->LS->LE->LC->Option (Tally×Int))(N:Nat)(s0:ByteArray)(s1:LB)(s2:LS)(s3:LE)(s4:LC):Option (Tally×Int) :=
 (f61 N s0).bind λ x1 =>
 bif !x1 then (some ((Tally.mk (0:Int) (0:Int) (0:Int) (0:Int) (0:Int)),(8:Int)))
 else (onO (zaA s0 s3) (some ((Tally.mk (0:Int) (0:Int) (0:Int) (0:Int) (0:Int)),(5:Int))) λ x2 =>
 (getF s3 x2).bind λ x3 =>
 (f64 N x3 x3.from_).bind λ x4 =>
 (f64 N x3 (0:Int)).bind λ x5 =>
 some ((Tally.mk x3.paper x3.delivered x3.spoilt (W (x5-x4)) x4),(0:Int)))
def f34:Nat->ByteArray->LB->LS->LE->LC->Option (Tally×Int)
 | 0,_,_,_,_,_=>none
 | N+1,s0,s1,s2,s3,s4=>f34b (f34 N) N s0 s1 s2 s3 s4
def Af34 (s0:ByteArray)(s1:LB)(s2:LS)(s3:LE)(s4:LC):List SV:=[.ptr 0 0, .dat (strN s0)]
def Bf34 (s0:ByteArray)(s1:LB)(s2:LS)(s3:LE)(s4:LC):List Blk:=[.box [.ptr 1 0, .rs 2 (List.length s1)], .box [.mp 3, .mp 4, .mp 5],(rW s1),(sW [4] s2),(eW s3),(mW s4)]
def Rf34 (y:Tally×Int):List SV:=[.dat (Tally.d y.1), .dat (iN y.2)]
def B1f34 (s0:ByteArray)(s1:LB)(s2:LS)(s3:LE)(s4:LC)(y:Tally×Int):List Blk:=[.box [.ptr 1 0, .rs 2 (List.length s1)], .box [.mp 3, .mp 4, .mp 5],(rW s1),(sW [4] s2),(eW s3),(mW s4)]
def BZf34 (y:Tally×Int):List Blk:=[]
def zpE:Spec (ByteArray×LB×LS×LE×LC) (Tally×Int):=⟨6,[],λ x=>Af34 x.1 x.2.1 x.2.2.1 x.2.2.2.1 x.2.2.2.2,λ x=>Bf34 x.1 x.2.1 x.2.2.1 x.2.2.2.1 x.2.2.2.2,λ _ y=>Rf34 y,λ x y=>B1f34 x.1 x.2.1 x.2.2.1 x.2.2.2.1 x.2.2.2.2 y,λ _ y=>BZf34 y⟩
def H34 (N:Nat)(x:ByteArray×LB×LS×LE×LC)(y:Tally×Int):Prop:=f34 N x.1 x.2.1 x.2.2.1 x.2.2.2.1 x.2.2.2.2=some y
def G34 (x:ByteArray×LB×LS×LE×LC)(y:Tally×Int):Prop:=∃ N,H34 N x y
theorem G34.step {s0 s1 s2 s3 s4}{A:_->Option ρ}(ha:xs=[.ptr k0 0, .dat (strN s0)])(b0:m k0 = .box [.ptr k1 0, .rs k2 m0])(b1:m k1 = .box [.mp k3, .mp k4, .mp k5])(b2:m k2=(rW s1))(b3:m k3=(sW [k4] s2))(b4:m k4=(eW s3))(b5:m k5=(mW s4))(em0:m0=List.length s1)(hu:True)(hn:zaU [k0,k1,k2,k3,k4,k5]=true)(h:∀ y,A y=some q->K ⟨.tup [.dat (Tally.d y.1), .dat (iN y.2)],[(k0, .box [.ptr k1 0, .rs k2 (List.length s1)]),(k1, .box [.mp k3, .mp k4, .mp k5]),(k2,(rW s1)),(k3,(sW [k4] s2)),(k4,(eW s3)),(k5,(mW s4))]⟩ ([Loc.b k0,Loc.b k1,Loc.b k2,Loc.b k3,Loc.b k4,Loc.b k5]++l))(hF:(f34 N s0 s1 s2 s3 s4).bind A=some q):effPg zpE (G34) xs id (λ _=>SV.no) m l K:=by
 subst em0;obtain⟨y,hy,hA⟩:=bind_some hF;exact zaH [k0,k1,k2,k3,k4,k5] (s0,s1,s2,s3,s4) y _ ⟨N,hy⟩ rfl hn ha (by simp only[List.map_cons,List.map_nil,b0,b1,b2,b3,b4,b5];rfl) rfl rfl rfl (h y hA)
def Srf34:Ann:=⟨[0,1],[0,1,2,3,4,5],[],[]⟩
def zx0:Ann:=⟨[0,1],[0,1,2,3,4,5],[],[]⟩
def f36b (self:ByteArray->ByteArray->LB->LS->LE->LC->Option (Int×Int))(N:Nat)(s0:ByteArray)(s1:ByteArray)(s2:LB)(s3:LS)(s4:LE)(s5:LC):Option (Int×Int) :=
 (f61 N s0).bind λ x1 =>
 bif !x1 then (some ((0:Int),(8:Int)))
 else ((f61 N s1).bind λ x2 =>
 bif !x2 then (some ((0:Int),(8:Int)))
 else (onO (zaA s1 s4) (some ((0:Int),(5:Int))) λ x3 =>
 (getF s4 x3).bind λ x4 =>
 (some (zbB (0:Int) s0 x4.owed)).bind λ x5 =>
 (some ()).bind λ _ =>
 bif !x5.2 then (some ((0:Int),(5:Int)))
 else (some (x5.1,(0:Int)))))
def f36:Nat->ByteArray->ByteArray->LB->LS->LE->LC->Option (Int×Int)
 | 0,_,_,_,_,_,_=>none
 | N+1,s0,s1,s2,s3,s4,s5=>f36b (f36 N) N s0 s1 s2 s3 s4 s5
def Af36 (s0:ByteArray)(s1:ByteArray)(s2:LB)(s3:LS)(s4:LE)(s5:LC):List SV:=[.ptr 0 0, .dat (strN s0), .dat (strN s1)]
def Bf36 (s0:ByteArray)(s1:ByteArray)(s2:LB)(s3:LS)(s4:LE)(s5:LC):List Blk:=[.box [.ptr 1 0, .rs 2 (List.length s2)], .box [.mp 3, .mp 4, .mp 5],(rW s2),(sW [4] s3),(eW s4),(mW s5)]
def Rf36 (y:Int×Int):List SV:=[.dat (iN y.1), .dat (iN y.2)]
def B1f36 (s0:ByteArray)(s1:ByteArray)(s2:LB)(s3:LS)(s4:LE)(s5:LC)(y:Int×Int):List Blk:=[.box [.ptr 1 0, .rs 2 (List.length s2)], .box [.mp 3, .mp 4, .mp 5],(rW s2),(sW [4] s3),(eW s4),(mW s5)]
def BZf36 (y:Int×Int):List Blk:=[]
def zpF:Spec (ByteArray×ByteArray×LB×LS×LE×LC) (Int×Int):=⟨6,[],λ x=>Af36 x.1 x.2.1 x.2.2.1 x.2.2.2.1 x.2.2.2.2.1 x.2.2.2.2.2,λ x=>Bf36 x.1 x.2.1 x.2.2.1 x.2.2.2.1 x.2.2.2.2.1 x.2.2.2.2.2,λ _ y=>Rf36 y,λ x y=>B1f36 x.1 x.2.1 x.2.2.1 x.2.2.2.1 x.2.2.2.2.1 x.2.2.2.2.2 y,λ _ y=>BZf36 y⟩
def H36 (N:Nat)(x:ByteArray×ByteArray×LB×LS×LE×LC)(y:Int×Int):Prop:=f36 N x.1 x.2.1 x.2.2.1 x.2.2.2.1 x.2.2.2.2.1 x.2.2.2.2.2=some y
def G36 (x:ByteArray×ByteArray×LB×LS×LE×LC)(y:Int×Int):Prop:=∃ N,H36 N x y
theorem G36.step {s0 s1 s2 s3 s4 s5}{A:_->Option ρ}(ha:xs=[.ptr k0 0, .dat (strN s0), .dat (strN s1)])(b0:m k0 = .box [.ptr k1 0, .rs k2 m0])(b1:m k1 = .box [.mp k3, .mp k4, .mp k5])(b2:m k2=(rW s2))(b3:m k3=(sW [k4] s3))(b4:m k4=(eW s4))(b5:m k5=(mW s5))(em0:m0=List.length s2)(hu:True)(hn:zaU [k0,k1,k2,k3,k4,k5]=true)(h:∀ y,A y=some q->K ⟨.tup [.dat (iN y.1), .dat (iN y.2)],[(k0, .box [.ptr k1 0, .rs k2 (List.length s2)]),(k1, .box [.mp k3, .mp k4, .mp k5]),(k2,(rW s2)),(k3,(sW [k4] s3)),(k4,(eW s4)),(k5,(mW s5))]⟩ ([Loc.b k0,Loc.b k1,Loc.b k2,Loc.b k3,Loc.b k4,Loc.b k5]++l))(hF:(f36 N s0 s1 s2 s3 s4 s5).bind A=some q):effPg zpF (G36) xs id (λ _=>SV.no) m l K:=by
 subst em0;obtain⟨y,hy,hA⟩:=bind_some hF;exact zaH [k0,k1,k2,k3,k4,k5] (s0,s1,s2,s3,s4,s5) y _ ⟨N,hy⟩ rfl hn ha (by simp only[List.map_cons,List.map_nil,b0,b1,b2,b3,b4,b5];rfl) rfl rfl rfl (h y hA)
def Srf36:Ann:=⟨[0,1],[0,1,2,3,4,5],[],[]⟩
def zx1:Ann:=⟨[0,1],[0,1,2,3,4,5],[],[]⟩
def f40b (self:ByteArray->LB->LS->LE->LC->Option (Int×Int))(N:Nat)(s0:ByteArray)(s1:LB)(s2:LS)(s3:LE)(s4:LC):Option (Int×Int) :=
 (f61 N s0).bind λ x1 =>
 bif !x1 then (some ((0:Int),(8:Int)))
 else (onO (zaA s0 s3) (some ((0:Int),(5:Int))) λ x2 =>
 (getF s3 x2).bind λ x3 =>
 (f64 N x3 x3.from_).bind λ x4 =>
 some (max (0:Int) (W (x3.open_-x4)),(0:Int)))
def f40:Nat->ByteArray->LB->LS->LE->LC->Option (Int×Int)
 | 0,_,_,_,_,_=>none
 | N+1,s0,s1,s2,s3,s4=>f40b (f40 N) N s0 s1 s2 s3 s4
def Af40 (s0:ByteArray)(s1:LB)(s2:LS)(s3:LE)(s4:LC):List SV:=[.ptr 0 0, .dat (strN s0)]
def Bf40 (s0:ByteArray)(s1:LB)(s2:LS)(s3:LE)(s4:LC):List Blk:=[.box [.ptr 1 0, .rs 2 (List.length s1)], .box [.mp 3, .mp 4, .mp 5],(rW s1),(sW [4] s2),(eW s3),(mW s4)]
def Rf40 (y:Int×Int):List SV:=[.dat (iN y.1), .dat (iN y.2)]
def B1f40 (s0:ByteArray)(s1:LB)(s2:LS)(s3:LE)(s4:LC)(y:Int×Int):List Blk:=[.box [.ptr 1 0, .rs 2 (List.length s1)], .box [.mp 3, .mp 4, .mp 5],(rW s1),(sW [4] s2),(eW s3),(mW s4)]
def BZf40 (y:Int×Int):List Blk:=[]
def zpG:Spec (ByteArray×LB×LS×LE×LC) (Int×Int):=⟨6,[],λ x=>Af40 x.1 x.2.1 x.2.2.1 x.2.2.2.1 x.2.2.2.2,λ x=>Bf40 x.1 x.2.1 x.2.2.1 x.2.2.2.1 x.2.2.2.2,λ _ y=>Rf40 y,λ x y=>B1f40 x.1 x.2.1 x.2.2.1 x.2.2.2.1 x.2.2.2.2 y,λ _ y=>BZf40 y⟩
def H40 (N:Nat)(x:ByteArray×LB×LS×LE×LC)(y:Int×Int):Prop:=f40 N x.1 x.2.1 x.2.2.1 x.2.2.2.1 x.2.2.2.2=some y
def G40 (x:ByteArray×LB×LS×LE×LC)(y:Int×Int):Prop:=∃ N,H40 N x y
theorem G40.step {s0 s1 s2 s3 s4}{A:_->Option ρ}(ha:xs=[.ptr k0 0, .dat (strN s0)])(b0:m k0 = .box [.ptr k1 0, .rs k2 m0])(b1:m k1 = .box [.mp k3, .mp k4, .mp k5])(b2:m k2=(rW s1))(b3:m k3=(sW [k4] s2))(b4:m k4=(eW s3))(b5:m k5=(mW s4))(em0:m0=List.length s1)(hu:True)(hn:zaU [k0,k1,k2,k3,k4,k5]=true)(h:∀ y,A y=some q->K ⟨.tup [.dat (iN y.1), .dat (iN y.2)],[(k0, .box [.ptr k1 0, .rs k2 (List.length s1)]),(k1, .box [.mp k3, .mp k4, .mp k5]),(k2,(rW s1)),(k3,(sW [k4] s2)),(k4,(eW s3)),(k5,(mW s4))]⟩ ([Loc.b k0,Loc.b k1,Loc.b k2,Loc.b k3,Loc.b k4,Loc.b k5]++l))(hF:(f40 N s0 s1 s2 s3 s4).bind A=some q):effPg zpG (G40) xs id (λ _=>SV.no) m l K:=by
 subst em0;obtain⟨y,hy,hA⟩:=bind_some hF;exact zaH [k0,k1,k2,k3,k4,k5] (s0,s1,s2,s3,s4) y _ ⟨N,hy⟩ rfl hn ha (by simp only[List.map_cons,List.map_nil,b0,b1,b2,b3,b4,b5];rfl) rfl rfl rfl (h y hA)
def Srf40:Ann:=⟨[0,1],[0,1,2,3,4,5],[],[]⟩
def zx2:Ann:=⟨[0,1],[0,1,2,3,4,5],[],[]⟩

end Go.Vc
namespace Go.Vc
open Go.Proofs
variable {N id:Nat} {ρ:Type} {q:ρ} {xs:List SV} {m:Nat->Blk} {l:List Loc} {ds:List D} {K:Dl->List Loc->Prop} {k0 k1 k2 k3 k4 k5 k6 k7 k8 k9 k10 k11 k12 k13 k14 k15 m0 m1 m2 m3 m4 m5:Nat}
def zf (N:Nat)(x1:LB×Bool)(b2500:List Int):Option (I97×Int) :=
 (A2iN.of b2500).bind λ x2 =>
 (f108 N x1.1 x2).bind λ x3 =>
 some (x3,(0:Int))
def zjV (N:Nat)(x1:LB×Bool)(b2500:List Int):Lp (Unit) Unit (I97×Int):=lp0 ⟨[4,8],[2500],[],[]⟩ (λ _=>[.dat (zat x1.1), .ptr 2500 0]) (λ _=>[.arr (List.map iN b2500)]) (λ _=>zf N x1 b2500)
instance Ef79_c47 {N x1 b2500}:IsLp 0 0 (zf N x1 b2500) (zjV N x1 b2500) ():=⟨rfl⟩
instance Cf79_c47 {N x1 b2500}:IsCut 0 (zf N x1 b2500) (zjV N x1 b2500) 47:=⟨⟩
def zjW (r42:Int->Option (I97×Int))(x1:LB×Bool)(v7:Int)(b2500:List Int)(v11:Int)(v12:Int)(k0:Option (I97×Int))(v94:Int):Option (I97×Int) :=
 bif decide (v94<(Int.toNat v7:Int)) then ((chkI (Int.toNat v7) v94).bind λ _ =>
 (ixN b2500 (Int.toNat v94)).bind λ x4 =>
 bif decide (x4<v11) then (some (I97.nil,(4:Int)))
 else (bif decide (v12<x4) then (some (I97.nil,(4:Int)))
 else (r42 (W (v94+(1:Int))))))
 else k0
def zgt (x1:LB×Bool)(v7:Int)(b2500:List Int)(v11:Int)(v12:Int)(k0:Option (I97×Int)):Nat->Int->Option (I97×Int)
 | 0,_=>none
 | n+1,v94=>zjW (zgt x1 v7 b2500 v11 v12 k0 n) x1 v7 b2500 v11 v12 k0 v94
def zrA (x1:LB×Bool)(v7:Int)(b2500:List Int)(v11:Int)(v12:Int)(k0:Option (I97×Int)):Lp (Nat×Int) Unit (I97×Int):=lp0 ⟨[4,8,11,12,92,93,94],[2500],[],[]⟩ (λ (_,v94)=>[.dat (zat x1.1), .ptr 2500 0, .dat (iN v11), .dat (iN v12), .as 2500 (Int.toNat v7), .dat (iN (Int.toNat v7:Int)), .dat (iN v94)]) (λ (_,_)=>[.arr (List.map iN b2500)]) (λ (n,v94)=>zgt x1 v7 b2500 v11 v12 k0 n v94)
instance Ef79_42 {x1 v7 b2500 v11 v12 k0 n v94}:IsLp 0 1 (zgt x1 v7 b2500 v11 v12 k0 n v94) (zrA x1 v7 b2500 v11 v12 k0) (n,v94):=⟨rfl⟩
def zfa (N:Nat)(x1:LB×Bool)(v7:Int)(b2500:List Int)(v11:Int)(v12:Int):Option (I97×Int) :=
 zau (zf N x1 b2500) λ k0 =>
 (arS 2 v7).bind λ _ =>
 zgt x1 v7 b2500 v11 v12 k0 N (0:Int)
def zjX (N:Nat)(x1:LB×Bool)(v7:Int)(b2500:List Int):Lp (Int×Int) Unit (I97×Int):=lp0 ⟨[4,7,8,11,12],[2500],[],[]⟩ (λ (v11,v12)=>[.dat (zat x1.1), .dat (iN v7), .ptr 2500 0, .dat (iN v11), .dat (iN v12)]) (λ (_,_)=>[.arr (List.map iN b2500)]) (λ (v11,v12)=>zfa N x1 v7 b2500 v11 v12)
instance Ef79_c41 {N x1 v7 b2500 v11 v12}:IsLp 0 2 (zfa N x1 v7 b2500 v11 v12) (zjX N x1 v7 b2500) (v11,v12):=⟨rfl⟩
instance Cf79_c41 {N x1 v7 b2500}:IsCut 2 (zfa N x1 v7 b2500) (zjX N x1 v7 b2500) 41:=⟨⟩
def zfb (N:Nat)(x1:LB×Bool)(v7:Int)(b2500:List Int):Option (I97×Int) :=
 zau (zfa N x1 v7 b2500) λ k1 =>
 (ix x1.1 (0:Int)).bind λ x5 =>
 bif decide (x5=(strC [112,114,105,110,116])) then (k1 (0:Int) (5000:Int))
 else (bif decide (x5=(strC [115,116,111,110,101])) then (k1 (1:Int) (99:Int))
 else (k1 (1:Int) (5000:Int)))
def zjY (N:Nat)(x1:LB×Bool)(v7:Int)(b2500:List Int):Lp (Unit) Unit (I97×Int):=lp0 ⟨[4,7,8],[2500],[],[]⟩ (λ _=>[.dat (zat x1.1), .dat (iN v7), .ptr 2500 0]) (λ _=>[.arr (List.map iN b2500)]) (λ _=>zfb N x1 v7 b2500)
instance Ef79_c35 {N x1 v7 b2500}:IsLp 0 0 (zfb N x1 v7 b2500) (zjY N x1 v7 b2500) ():=⟨rfl⟩
instance Cf79_c35 {N x1 v7 b2500}:IsCut 0 (zfb N x1 v7 b2500) (zjY N x1 v7 b2500) 35:=⟨⟩
def zaC (b2500:List Int)(k2:Option (I97×Int)):Option (I97×Int) :=
 k2
def zbj (b2500:List Int)(k2:Option (I97×Int)):Lp (Unit) Unit (I97×Int):=lp0 ⟨[],[2500],[],[]⟩ (λ _=>[]) (λ _=>[.arr (List.map iN b2500)]) (λ _=>zaC b2500 k2)
instance zis {b2500 k2}:IsLp 0 0 (zaC b2500 k2) (zbj b2500 k2) ():=⟨rfl⟩
instance zit {b2500 k2}:IsCut 0 (zaC b2500 k2) (zbj b2500 k2) 3305000103000000007:=⟨⟩
def za1 (r2:Int->Option (I97×Int))(N:Nat)(b2500:List Int)(k2:Option (I97×Int))(x6:LB)(k3:Option (I97×Int))(v8:Int):Option (I97×Int) :=
 bif decide (v8<(List.length x6:Int)) then ((ix x6 v8).bind λ x7 =>
 (f107 N x7).bind λ x8 =>
 bif x8 then (bif decide ((0:Int)<=v8) then (some (I97.nil,(8:Int)))
 else k2)
 else (r2 (W (v8+(1:Int)))))
 else k3
def zaz (N:Nat)(b2500:List Int)(k2:Option (I97×Int))(x6:LB)(k3:Option (I97×Int)):Nat->Int->Option (I97×Int)
 | 0,_=>none
 | n+1,v8=>za1 (zaz N b2500 k2 x6 k3 n) N b2500 k2 x6 k3 v8
def zb3 (N:Nat)(b2500:List Int)(k2:Option (I97×Int))(x6:LB)(k3:Option (I97×Int)):Lp (Nat×Int) Unit (I97×Int):=lp0 ⟨[0,1,7,8],[2500],[],[]⟩ (λ (_,v8)=>[.dat (zat x6), .dat (.v (.func (.func 107) #[] #[])), .dat (iN (List.length x6:Int)), .dat (iN v8)]) (λ (_,_)=>[.arr (List.map iN b2500)]) (λ (n,v8)=>zaz N b2500 k2 x6 k3 n v8)
instance ziU {N b2500 k2 x6 k3 n v8}:IsLp 0 1 (zaz N b2500 k2 x6 k3 n v8) (zb3 N b2500 k2 x6 k3) (n,v8):=⟨rfl⟩
def zg (N:Nat)(x1:LB×Bool)(v6:Int)(v7:Int)(b2500:List Int):Option (I97×Int) :=
 zau (zfb N x1 v7 b2500) λ k2 =>
 (sub x1.1 (1:Int) (W ((1:Int)+v6))).bind λ x6 =>
 zau (zaC b2500 k2) λ k3 =>
 zaz N b2500 k2 x6 k3 N (0:Int)
def zjZ (N:Nat)(x1:LB×Bool)(v6:Int)(v7:Int):Lp ((List Int)) Unit (I97×Int):=lp0 ⟨[4,6,7,8],[2500],[],[]⟩ (λ _=>[.dat (zat x1.1), .dat (iN v6), .dat (iN v7), .ptr 2500 0]) (λ b2500=>[.arr (List.map iN b2500)]) (λ b2500=>zg N x1 v6 v7 b2500)
instance Ef79_c33 {N x1 v6 v7 b2500}:IsLp 0 1 (zg N x1 v6 v7 b2500) (zjZ N x1 v6 v7) b2500:=⟨rfl⟩
instance Cf79_c33 {N x1 v6 v7}:IsCut 1 (zg N x1 v6 v7) (zjZ N x1 v6 v7) 33:=⟨⟩
def zj0 (r27:Int->(List Int)->Option (I97×Int))(N:Nat)(x1:LB×Bool)(v6:Int)(v7:Int)(k4:(List Int)->Option (I97×Int))(x9:LB)(v64:Int)(b2500:List Int):Option (I97×Int) :=
 bif decide (v64<(List.length x9:Int)) then ((ix x9 v64).bind λ x10 =>
 (f105 N x10).bind λ x11 =>
 (chkI 2 v64).bind λ _ =>
 (setN b2500 (Int.toNat v64) x11.1).bind λ x12 =>
 bif !x11.2 then (some (I97.nil,(9:Int)))
 else (r27 (W (v64+(1:Int))) x12))
 else (k4 b2500)
def zgu (N:Nat)(x1:LB×Bool)(v6:Int)(v7:Int)(k4:(List Int)->Option (I97×Int))(x9:LB):Nat->Int->(List Int)->Option (I97×Int)
 | 0,_,_=>none
 | n+1,v64,b2500=>zj0 (zgu N x1 v6 v7 k4 x9 n) N x1 v6 v7 k4 x9 v64 b2500
def zrB (N:Nat)(x1:LB×Bool)(v6:Int)(v7:Int)(k4:(List Int)->Option (I97×Int))(x9:LB):Lp (Nat×Int×(List Int)) Unit (I97×Int):=lp0 ⟨[4,6,7,8,62,63,64],[2500],[],[]⟩ (λ (_,v64,_)=>[.dat (zat x1.1), .dat (iN v6), .dat (iN v7), .ptr 2500 0, .dat (zat x9), .dat (iN (List.length x9:Int)), .dat (iN v64)]) (λ (_,_,b2500)=>[.arr (List.map iN b2500)]) (λ (n,v64,b2500)=>zgu N x1 v6 v7 k4 x9 n v64 b2500)
instance Ef79_27 {N x1 v6 v7 k4 x9 n v64 b2500}:IsLp 0 2 (zgu N x1 v6 v7 k4 x9 n v64 b2500) (zrB N x1 v6 v7 k4 x9) (n,v64,b2500):=⟨rfl⟩
def zeo (N:Nat)(x1:LB×Bool)(v6:Int)(v7:Int):Option (I97×Int) :=
 bif decide (¬ (List.length x1.1:Int)=(W ((W ((1:Int)+v6))+v7))) then (some (I97.nil,(9:Int)))
 else (zau (zg N x1 v6 v7) λ k4 =>
 (sub x1.1 (W ((1:Int)+v6)) (List.length x1.1:Int)).bind λ x9 =>
 zgu N x1 v6 v7 k4 x9 N (0:Int) (List.replicate 2 (0:Int)))
def zj1 (N:Nat)(x1:LB×Bool):Lp (Int×Int) Unit (I97×Int):=lp0 ⟨[4,6,7],[],[],[]⟩ (λ (v6,v7)=>[.dat (zat x1.1), .dat (iN v6), .dat (iN v7)]) (λ (_,_)=>[]) (λ (v6,v7)=>zeo N x1 v6 v7)
instance Ef79_c23 {N x1 v6 v7}:IsLp 0 2 (zeo N x1 v6 v7) (zj1 N x1) (v6,v7):=⟨rfl⟩
instance Cf79_c23 {N x1}:IsCut 2 (zeo N x1) (zj1 N x1) 23:=⟨⟩
def f79 (N:Nat)(a0:ByteArray):Option (I97×Int) :=
 bif decide ((40:Int)<(ByteArray.size a0:Int)) then (some (I97.nil,(19:Int)))
 else ((f104 N a0).bind λ x1 =>
 bif !x1.2 then (some (I97.nil,(9:Int)))
 else (zau (zeo N x1) λ k5 =>
 (ix x1.1 (0:Int)).bind λ x13 =>
 bif decide (x13=(strC [112,114,105,110,116])) then (k5 (W ((0:Int)+(1:Int))) (W ((W ((0:Int)+(1:Int)))+(1:Int))))
 else (bif decide (x13=(strC [115,116,111,110,101])) then (k5 (W ((0:Int)+(1:Int))) (W ((0:Int)+(1:Int))))
 else (bif decide (x13=(strC [112,97,112,101,114])) then (k5 (W ((0:Int)+(1:Int))) (W ((0:Int)+(1:Int))))
 else (bif decide (x13=(strC [101,100,105,116,105,111,110])) then (k5 (W ((0:Int)+(1:Int))) (0:Int))
 else (bif decide (x13=(strC [99,108,111,115,101])) then (k5 (W ((0:Int)+(1:Int))) (0:Int))
 else (bif decide (x13=(strC [103,114,105,110,100])) then (k5 (W ((0:Int)+(1:Int))) (0:Int))
 else (bif decide (x13=(strC [99,108,97,105,109])) then (k5 (W ((0:Int)+(2:Int))) (W ((0:Int)+(1:Int))))
 else (bif decide (x13=(strC [100,101,108,105,118,101,114])) then (k5 (W ((0:Int)+(2:Int))) (W ((0:Int)+(1:Int))))
 else (bif decide (x13=(strC [100,114,97,119])) then (k5 (W ((0:Int)+(2:Int))) (0:Int))
 else (some (I97.nil,(10:Int)))))))))))))
def G79 (ds:List D)(d:D):Prop:=∃ (N:Nat) (a0:ByteArray) (r:I97×Int),ds=[strN a0]/\f79 N a0=some r/\d = .tup [I97.d r.1,iN r.2]
theorem G79.step {a0}{A:_->Option ρ}{K:D->Prop}(hd:ds=[strN a0])(h:∀ r,A r=some q->K (.tup [I97.d r.1,iN r.2]))(hF:(f79 N a0).bind A=some q):∃ d,G79 ds d/\K d:=by
 obtain⟨r,hr,hA⟩:=bind_some hF;exact⟨_,⟨N,a0,r,hd,hr,rfl⟩,h r hA⟩
def f146 (N:Nat)(a0:List (List Int))(a1:List Int):Option (Int×Int) :=
 (f158 N a0 a1).bind λ x1 =>
 bif decide (¬ x1=(0:Int)) then (some ((0:Int),x1))
 else ((f132 N a0 (0:Int) a1).bind λ x2 =>
 some (x2,(0:Int)))
def G146 (ds:List D)(d:D):Prop:=∃ (N:Nat) (a0:List (List Int)) (a1:List Int) (r:Int×Int),ds=[zao a0,zbc a1]/\f146 N a0 a1=some r/\d = .tup [iN r.1,iN r.2]
theorem G146.lend {a0 a1}{A:_->Option ρ}{K:D->Prop}(hd:ds=[zao a0,zbc a1])(h:∀ r,A r=some q->K (.tup [iN r.1,iN r.2]))(hF:(f146 N a0 a1).bind A=some q):∃ d,(G146 ds d/\d.flatB=true)/\K d:=by
 obtain⟨r,hr,hA⟩:=bind_some hF;exact⟨_,⟨⟨N,a0,a1,r,hd,hr,rfl⟩,rfl⟩,h r hA⟩
def f131 (N:Nat)(a0:List (List Int))(a1:List Int):Option (Int) :=
 (f116 N a0).bind λ x1 =>
 bif decide (¬ x1=(0:Int)) then (some (x1))
 else (bif decide ((List.length a1:Int)<(2:Int)) then (some ((1:Int)))
 else ((f158 N a0 a1).bind λ x2 =>
 some (x2)))
def G131 (ds:List D)(d:D):Prop:=∃ (N:Nat) (a0:List (List Int)) (a1:List Int) (r:Int),ds=[zao a0,zbc a1]/\f131 N a0 a1=some r/\d=iN r
theorem G131.lend {a0 a1}{A:_->Option ρ}{K:D->Prop}(hd:ds=[zao a0,zbc a1])(h:∀ r,A r=some q->K (iN r))(hF:(f131 N a0 a1).bind A=some q):∃ d,(G131 ds d/\d.flatB=true)/\K d:=by
 obtain⟨r,hr,hA⟩:=bind_some hF;exact⟨_,⟨⟨N,a0,a1,r,hd,hr,rfl⟩,rfl⟩,h r hA⟩

end Go.Vc
namespace Go.Vc
open Go.Proofs
variable {N id:Nat} {ρ:Type} {q:ρ} {xs:List SV} {m:Nat->Blk} {l:List Loc} {ds:List D} {K:Dl->List Loc->Prop} {k0 k1 k2 k3 k4 k5 k6 k7 k8 k9 k10 k11 k12 k13 k14 k15 m0 m1 m2 m3 m4 m5:Nat}
def zhL (s1:LB)(s2:LS)(s3:LE)(s4:LC)(o6:I97)(e7:Int):Option (I97×Int) :=
 bif decide (e7=(0:Int)) then (bif decide ((List.length s1:Int)=(120:Int)) then (some (o6,(15:Int)))
 else (some (o6,e7)))
 else (some (o6,e7))
def zm7 (s1:LB)(s2:LS)(s3:LE)(s4:LC):Lp (I97×Int) (Nat×Unit) (I97×Int):=lpm ⟨[0,6,7],[0,1,2,3,4,5],[],[]⟩ (λ (o6,e7)=>zhL s1 s2 s3 s4 o6 e7) (λ (o6,e7) (_,_)=>[.ptr 0 0, .dat (I97.d o6), .dat (iN e7)]) (λ (_,_) (m0,_)=>[.box [.ptr 1 0, .rs 2 m0], .box [.mp 3, .mp 4, .mp 5],(rW s1),(sW [4] s2),(eW s3),(mW s4)]) λ (_,_)=>(List.length s1,())
instance Ef51_c6 {s1 s2 s3 s4 o6 e7}:IsLp 1 2 (zhL s1 s2 s3 s4 o6 e7) (zm7 s1 s2 s3 s4) (o6,e7):=⟨rfl⟩
instance Cf51_c6 {s1 s2 s3 s4}:IsCut 2 (zhL s1 s2 s3 s4) (zm7 s1 s2 s3 s4) 1000006:=⟨⟩
def f51b (self:ByteArray->LB->LS->LE->LC->Option (I97×Int))(N:Nat)(s0:ByteArray)(s1:LB)(s2:LS)(s3:LE)(s4:LC):Option (I97×Int) :=
 (f79 N s0).bind λ x1 =>
 zau (zhL s1 s2 s3 s4) λ k0 =>
 bif decide (x1.2=(0:Int)) then (I97.on x1.1 none
 (λ x2=>(f198 N x2 s2 s3 s4).bind λ x3 =>
 k0 (I97.c199 x2) x3)
 (λ x4=>(f200 N x4 s2 s3 s4).bind λ x5 =>
 k0 (I97.c201 x4) x5)
 (λ x6=>(f202 N x6 s2 s3 s4).bind λ x7 =>
 k0 (I97.c203 x6) x7)
 (λ x8=>(f204 N x8 s2 s3 s4).bind λ x9 =>
 k0 (I97.c205 x8) x9)
 (λ x10=>(f206 N x10 s2 s3 s4).bind λ x11 =>
 k0 (I97.c207 x10) x11)
 (λ x12=>(f208 N x12 s2 s3 s4).bind λ x13 =>
 k0 (I97.c209 x12) x13)
 (λ x14=>(f210 N x14 s2 s3 s4).bind λ x15 =>
 k0 (I97.c211 x14) x15)
 (λ x16=>(f212 N x16 s2 s3 s4).bind λ x17 =>
 k0 (I97.c213 x16) x17)
 (λ x18=>(f215 N x18 s2 s3 s4).bind λ x19 =>
 k0 (I97.c215 x18) x19))
 else (k0 x1.1 x1.2)
def f51:Nat->ByteArray->LB->LS->LE->LC->Option (I97×Int)
 | 0,_,_,_,_,_=>none
 | N+1,s0,s1,s2,s3,s4=>f51b (f51 N) N s0 s1 s2 s3 s4
def Af51 (s0:ByteArray)(s1:LB)(s2:LS)(s3:LE)(s4:LC):List SV:=[.ptr 0 0, .dat (strN s0)]
def Bf51 (s0:ByteArray)(s1:LB)(s2:LS)(s3:LE)(s4:LC):List Blk:=[.box [.ptr 1 0, .rs 2 (List.length s1)], .box [.mp 3, .mp 4, .mp 5],(rW s1),(sW [4] s2),(eW s3),(mW s4)]
def Rf51 (y:I97×Int):List SV:=[.dat (I97.d y.1), .dat (iN y.2)]
def B1f51 (s0:ByteArray)(s1:LB)(s2:LS)(s3:LE)(s4:LC)(y:I97×Int):List Blk:=[.box [.ptr 1 0, .rs 2 (List.length s1)], .box [.mp 3, .mp 4, .mp 5],(rW s1),(sW [4] s2),(eW s3),(mW s4)]
def BZf51 (y:I97×Int):List Blk:=[]
def zpH:Spec (ByteArray×LB×LS×LE×LC) (I97×Int):=⟨6,[],λ x=>Af51 x.1 x.2.1 x.2.2.1 x.2.2.2.1 x.2.2.2.2,λ x=>Bf51 x.1 x.2.1 x.2.2.1 x.2.2.2.1 x.2.2.2.2,λ _ y=>Rf51 y,λ x y=>B1f51 x.1 x.2.1 x.2.2.1 x.2.2.2.1 x.2.2.2.2 y,λ _ y=>BZf51 y⟩
def H51 (N:Nat)(x:ByteArray×LB×LS×LE×LC)(y:I97×Int):Prop:=f51 N x.1 x.2.1 x.2.2.1 x.2.2.2.1 x.2.2.2.2=some y
def G51 (x:ByteArray×LB×LS×LE×LC)(y:I97×Int):Prop:=∃ N,H51 N x y
theorem G51.step {s0 s1 s2 s3 s4}{A:_->Option ρ}(ha:xs=[.ptr k0 0, .dat (strN s0)])(b0:m k0 = .box [.ptr k1 0, .rs k2 m0])(b1:m k1 = .box [.mp k3, .mp k4, .mp k5])(b2:m k2=(rW s1))(b3:m k3=(sW [k4] s2))(b4:m k4=(eW s3))(b5:m k5=(mW s4))(em0:m0=List.length s1)(hu:True)(hn:zaU [k0,k1,k2,k3,k4,k5]=true)(h:∀ y,A y=some q->K ⟨.tup [.dat (I97.d y.1), .dat (iN y.2)],[(k0, .box [.ptr k1 0, .rs k2 (List.length s1)]),(k1, .box [.mp k3, .mp k4, .mp k5]),(k2,(rW s1)),(k3,(sW [k4] s2)),(k4,(eW s3)),(k5,(mW s4))]⟩ ([Loc.b k0,Loc.b k1,Loc.b k2,Loc.b k3,Loc.b k4,Loc.b k5]++l))(hF:(f51 N s0 s1 s2 s3 s4).bind A=some q):effPg zpH (G51) xs id (λ _=>SV.no) m l K:=by
 subst em0;obtain⟨y,hy,hA⟩:=bind_some hF;exact zaH [k0,k1,k2,k3,k4,k5] (s0,s1,s2,s3,s4) y _ ⟨N,hy⟩ rfl hn ha (by simp only[List.map_cons,List.map_nil,b0,b1,b2,b3,b4,b5];rfl) rfl rfl rfl (h y hA)
def Srf51:Ann:=⟨[0,1],[0,1,2,3,4,5],[],[]⟩
def zx3:Ann:=⟨[0,1],[0,1,2,3,4,5],[],[]⟩
def f118 (N:Nat)(a0:List (List Int))(a1:List Int):Option (Int×Int) :=
 (f146 N a0 a1).bind λ x1 =>
 bif decide (¬ x1.2=(0:Int)) then (some ((0:Int),x1.2))
 else ((ix a0 x1.1).bind λ x2 =>
 (f147 N x2 (0:Int)).bind λ x3 =>
 some (x3,(0:Int)))
def G118 (ds:List D)(d:D):Prop:=∃ (N:Nat) (a0:List (List Int)) (a1:List Int) (r:Int×Int),ds=[zao a0,zbc a1]/\f118 N a0 a1=some r/\d = .tup [iN r.1,iN r.2]
theorem G118.lend {a0 a1}{A:_->Option ρ}{K:D->Prop}(hd:ds=[zao a0,zbc a1])(h:∀ r,A r=some q->K (.tup [iN r.1,iN r.2]))(hF:(f118 N a0 a1).bind A=some q):∃ d,(G118 ds d/\d.flatB=true)/\K d:=by
 obtain⟨r,hr,hA⟩:=bind_some hF;exact⟨_,⟨⟨N,a0,a1,r,hd,hr,rfl⟩,rfl⟩,h r hA⟩
def f101 (N:Nat)(a0:List (List Int))(a1:List Int):Option (Int) :=
 (f131 N a0 a1).bind λ x1 =>
 bif decide (x1=(0:Int)) then ((f132 N a0 (0:Int) a1).bind λ x2 =>
 bif decide (¬ x2=(0:Int)) then (some ((13:Int)))
 else (some (x1)))
 else (some (x1))
def G101 (ds:List D)(d:D):Prop:=∃ (N:Nat) (a0:List (List Int)) (a1:List Int) (r:Int),ds=[zao a0,zbc a1]/\f101 N a0 a1=some r/\d=iN r
theorem G101.lend {a0 a1}{A:_->Option ρ}{K:D->Prop}(hd:ds=[zao a0,zbc a1])(h:∀ r,A r=some q->K (iN r))(hF:(f101 N a0 a1).bind A=some q):∃ d,(G101 ds d/\d.flatB=true)/\K d:=by
 obtain⟨r,hr,hA⟩:=bind_some hF;exact⟨_,⟨⟨N,a0,a1,r,hd,hr,rfl⟩,rfl⟩,h r hA⟩

end Go.Vc
namespace Go.Vc
open Go.Proofs
variable {N id:Nat} {ρ:Type} {q:ρ} {xs:List SV} {m:Nat->Blk} {l:List Loc} {ds:List D} {K:Dl->List Loc->Prop} {k0 k1 k2 k3 k4 k5 k6 k7 k8 k9 k10 k11 k12 k13 k14 k15 m0 m1 m2 m3 m4 m5:Nat}
def f17b (self:ByteArray->LB->LS->LE->LC->Option (Int))(N:Nat)(s0:ByteArray)(s1:LB)(s2:LS)(s3:LE)(s4:LC):Option (Int) :=
 (f51 N s0 s1 s2 s3 s4).bind λ x1 =>
 some (x1.2)
def f17:Nat->ByteArray->LB->LS->LE->LC->Option (Int)
 | 0,_,_,_,_,_=>none
 | N+1,s0,s1,s2,s3,s4=>f17b (f17 N) N s0 s1 s2 s3 s4
def Af17 (s0:ByteArray)(s1:LB)(s2:LS)(s3:LE)(s4:LC):List SV:=[.ptr 0 0, .dat (strN s0)]
def Bf17 (s0:ByteArray)(s1:LB)(s2:LS)(s3:LE)(s4:LC):List Blk:=[.box [.ptr 1 0, .rs 2 (List.length s1)], .box [.mp 3, .mp 4, .mp 5],(rW s1),(sW [4] s2),(eW s3),(mW s4)]
def Rf17 (y:Int):List SV:=[.dat (iN y)]
def B1f17 (s0:ByteArray)(s1:LB)(s2:LS)(s3:LE)(s4:LC)(y:Int):List Blk:=[.box [.ptr 1 0, .rs 2 (List.length s1)], .box [.mp 3, .mp 4, .mp 5],(rW s1),(sW [4] s2),(eW s3),(mW s4)]
def BZf17 (y:Int):List Blk:=[]
def zrC:Spec (ByteArray×LB×LS×LE×LC) (Int):=⟨6,[],λ x=>Af17 x.1 x.2.1 x.2.2.1 x.2.2.2.1 x.2.2.2.2,λ x=>Bf17 x.1 x.2.1 x.2.2.1 x.2.2.2.1 x.2.2.2.2,λ _ y=>Rf17 y,λ x y=>B1f17 x.1 x.2.1 x.2.2.1 x.2.2.2.1 x.2.2.2.2 y,λ _ y=>BZf17 y⟩
def H17 (N:Nat)(x:ByteArray×LB×LS×LE×LC)(y:Int):Prop:=f17 N x.1 x.2.1 x.2.2.1 x.2.2.2.1 x.2.2.2.2=some y
def G17 (x:ByteArray×LB×LS×LE×LC)(y:Int):Prop:=∃ N,H17 N x y
theorem G17.step {s0 s1 s2 s3 s4}{A:_->Option ρ}(ha:xs=[.ptr k0 0, .dat (strN s0)])(b0:m k0 = .box [.ptr k1 0, .rs k2 m0])(b1:m k1 = .box [.mp k3, .mp k4, .mp k5])(b2:m k2=(rW s1))(b3:m k3=(sW [k4] s2))(b4:m k4=(eW s3))(b5:m k5=(mW s4))(em0:m0=List.length s1)(hu:True)(hn:zaU [k0,k1,k2,k3,k4,k5]=true)(h:∀ y,A y=some q->K ⟨.dat (iN y),[(k0, .box [.ptr k1 0, .rs k2 (List.length s1)]),(k1, .box [.mp k3, .mp k4, .mp k5]),(k2,(rW s1)),(k3,(sW [k4] s2)),(k4,(eW s3)),(k5,(mW s4))]⟩ ([Loc.b k0,Loc.b k1,Loc.b k2,Loc.b k3,Loc.b k4,Loc.b k5]++l))(hF:(f17 N s0 s1 s2 s3 s4).bind A=some q):effPg zrC (G17) xs id (λ _=>SV.no) m l K:=by
 subst em0;obtain⟨y,hy,hA⟩:=bind_some hF;exact zaH [k0,k1,k2,k3,k4,k5] (s0,s1,s2,s3,s4) y _ ⟨N,hy⟩ rfl hn ha (by simp only[List.map_cons,List.map_nil,b0,b1,b2,b3,b4,b5];rfl) rfl rfl rfl (h y hA)
def Srf17:Ann:=⟨[0],[0,1,2,3,4,5],[],[]⟩
def zx4:Ann:=⟨[0],[0,1,2,3,4,5],[],[]⟩
def f18b (self:ByteArray->LB->LS->LE->LC->Option (Int×LS×LE×LC×LB))(N:Nat)(s0:ByteArray)(s1:LB)(s2:LS)(s3:LE)(s4:LC):Option (Int×LS×LE×LC×LB) :=
 (f51 N s0 s1 s2 s3 s4).bind λ x1 =>
 bif decide (¬ x1.2=(0:Int)) then (some (x1.2,s2,s3,s4,s1))
 else (I97.on x1.1 none
 (λ x2=>(f197 N x2 s2 s3 s4).bind λ x3 =>
 (app 16 s1 [s0]).bind λ x4 =>
 some ((0:Int),x3,s3,s4,x4))
 (λ x5=>(f199 N x5 s2 s3 s4).bind λ x6 =>
 (app 16 s1 [s0]).bind λ x7 =>
 some ((0:Int),s2,x6,s4,x7))
 (λ x8=>(f201 N x8 s2 s3 s4).bind λ x9 =>
 (app 16 s1 [s0]).bind λ x10 =>
 some ((0:Int),x9.1,x9.2,s4,x10))
 (λ x11=>(f203 N x11 s2 s3 s4).bind λ x12 =>
 (app 16 s1 [s0]).bind λ x13 =>
 some ((0:Int),s2,x12,s4,x13))
 (λ x14=>(f205 N x14 s2 s3 s4).bind λ x15 =>
 (app 16 s1 [s0]).bind λ x16 =>
 some ((0:Int),s2,x15,s4,x16))
 (λ x17=>(f207 N x17 s2 s3 s4).bind λ x18 =>
 (app 16 s1 [s0]).bind λ x19 =>
 some ((0:Int),s2,x18,s4,x19))
 (λ x20=>(f209 N x20 s2 s3 s4).bind λ x21 =>
 (app 16 s1 [s0]).bind λ x22 =>
 some ((0:Int),s2,x21.1,x21.2,x22))
 (λ x23=>(f211 N x23 s2 s3 s4).bind λ x24 =>
 (app 16 s1 [s0]).bind λ x25 =>
 some ((0:Int),s2,x24,s4,x25))
 (λ x26=>(f214 N x26 s2 s3 s4).bind λ x27 =>
 (app 16 s1 [s0]).bind λ x28 =>
 some ((0:Int),x27.1,x27.2,s4,x28)))
def f18:Nat->ByteArray->LB->LS->LE->LC->Option (Int×LS×LE×LC×LB)
 | 0,_,_,_,_,_=>none
 | N+1,s0,s1,s2,s3,s4=>f18b (f18 N) N s0 s1 s2 s3 s4
def Af18 (s0:ByteArray)(s1:LB)(s2:LS)(s3:LE)(s4:LC):List SV:=[.ptr 0 0, .dat (strN s0)]
def Bf18 (s0:ByteArray)(s1:LB)(s2:LS)(s3:LE)(s4:LC):List Blk:=[.box [.ptr 1 0, .rs 2 (List.length s1)], .box [.mp 3, .mp 4, .mp 5],(rW s1),(sW [4] s2),(eW s3),(mW s4)]
def Rf18 (y:Int×LS×LE×LC×LB):List SV:=[.dat (iN y.1)]
def B1f18 (s0:ByteArray)(s1:LB)(s2:LS)(s3:LE)(s4:LC)(y:Int×LS×LE×LC×LB):List Blk:=[.box [.ptr 1 0, .rs 500 (List.length y.2.2.2.2)], .box [.mp 3, .mp 4, .mp 5], .dead,(sW [4] y.2.1),(eW y.2.2.1),(mW y.2.2.2.1)]
def BZf18 (y:Int×LS×LE×LC×LB):List Blk:=[(rW y.2.2.2.2)]
def zm8:Spec (ByteArray×LB×LS×LE×LC) (Int×LS×LE×LC×LB):=⟨6,[500],λ x=>Af18 x.1 x.2.1 x.2.2.1 x.2.2.2.1 x.2.2.2.2,λ x=>Bf18 x.1 x.2.1 x.2.2.1 x.2.2.2.1 x.2.2.2.2,λ _ y=>Rf18 y,λ x y=>B1f18 x.1 x.2.1 x.2.2.1 x.2.2.2.1 x.2.2.2.2 y,λ _ y=>BZf18 y⟩
def H18 (N:Nat)(x:ByteArray×LB×LS×LE×LC)(y:Int×LS×LE×LC×LB):Prop:=f18 N x.1 x.2.1 x.2.2.1 x.2.2.2.1 x.2.2.2.2=some y
def G18 (x:ByteArray×LB×LS×LE×LC)(y:Int×LS×LE×LC×LB):Prop:=∃ N,H18 N x y
theorem G18.step {s0 s1 s2 s3 s4}{A:_->Option ρ}(ha:xs=[.ptr k0 0, .dat (strN s0)])(b0:m k0 = .box [.ptr k1 0, .rs k2 m0])(b1:m k1 = .box [.mp k3, .mp k4, .mp k5])(b2:m k2=(rW s1))(b3:m k3=(sW [k4] s2))(b4:m k4=(eW s3))(b5:m k5=(mW s4))(em0:m0=List.length s1)(hu:(zcg id 1).map m=List.replicate 1 .unborn)(hn:zaU [k0,k1,k2,k3,k4,k5]=true)(h:∀ y,A y=some q->K ⟨.dat (iN y.1),[(k0, .box [.ptr k1 0, .rs id (List.length y.2.2.2.2)]),(k1, .box [.mp k3, .mp k4, .mp k5]),(k2, .dead),(k3,(sW [k4] y.2.1)),(k4,(eW y.2.2.1)),(k5,(mW y.2.2.2.1)),(id,(rW y.2.2.2.2))]⟩ ([Loc.b k0,Loc.b k1,Loc.b k2,Loc.b k3,Loc.b k4,Loc.b k5,Loc.b id]++l))(hF:(f18 N s0 s1 s2 s3 s4).bind A=some q):effPg zm8 (G18) xs id (λ _=>SV.no) m l K:=by
 subst em0;obtain⟨y,hy,hA⟩:=bind_some hF;exact zaH [k0,k1,k2,k3,k4,k5] (s0,s1,s2,s3,s4) y _ ⟨N,hy⟩ rfl hn ha (by simp only[List.map_cons,List.map_nil,b0,b1,b2,b3,b4,b5];rfl) hu rfl rfl (h y hA)
def Srf18:Ann:=⟨[0],[0,1,2,3,4,5,500],[(.cell 0 1,500,9,1)],[]⟩
def zx5:Ann:=⟨[0],[0,1,2,3,4,5],[],[]⟩
def zga (a0:List (List Int))(N:Nat)(number2:Int)(out9:List Int):Option ((List Int)×Int) :=
 bif decide ((0:Int)<number2) then (some ([],(4:Int)))
 else ((f118 N a0 out9).bind λ x4 =>
 (app 8 out9 [x4.1]).bind λ x5 =>
 some (x5,x4.2))
def zj2 (a0:List (List Int))(N:Nat):Lp (Int×(List Int)) (Nat×Unit) ((List Int)×Int):=lpm ⟨[0,2,9],[90009],[(.slot 9,90009,3,1)],[]⟩ (λ (number2,out9)=>zga a0 N number2 out9) (λ (number2,_) (m0,_)=>[.dat (zao a0), .dat (iN number2), .rs 90009 m0]) (λ (_,out9) (_,_)=>[.row 3 1 (List.map iN out9)]) λ (_,out9)=>(List.length out9,())
instance Ef83_c15 {a0 N number2 out9}:IsLp 1 2 (zga a0 N number2 out9) (zj2 a0 N) (number2,out9):=⟨rfl⟩
instance Cf83_c15 {a0 N}:IsCut 2 (zga a0 N) (zj2 a0 N) 15:=⟨⟩
def zhM (r10:Int->(List Int)->Int->Option ((List Int)×Int))(a0:List (List Int))(x3:List Int)(k0:Int->(List Int)->Option ((List Int)×Int))(number2:Int)(out9:List Int)(v30:Int):Option ((List Int)×Int) :=
 bif decide (v30<(List.length x3:Int)) then ((chk (decide ((List.length a0:Int)≠0))).bind λ _ =>
 (ix out9 (W ((W ((List.length out9:Int)-(1:Int)))-v30))).bind λ x6 =>
 (setx out9 (W ((W ((List.length out9:Int)-(1:Int)))-v30)) (Int.tmod number2 (List.length a0:Int))).bind λ x7 =>
 (chk (decide ((List.length a0:Int)≠0))).bind λ _ =>
 r10 (W (Int.tdiv number2 (List.length a0:Int))) x7 (W (v30+(1:Int))))
 else (k0 number2 out9)
def ziV (a0:List (List Int))(x3:List Int)(k0:Int->(List Int)->Option ((List Int)×Int)):Nat->Int->(List Int)->Int->Option ((List Int)×Int)
 | 0,_,_,_=>none
 | n+1,number2,out9,v30=>zhM (ziV a0 x3 k0 n) a0 x3 k0 number2 out9 v30
def zrD (a0:List (List Int))(x3:List Int)(k0:Int->(List Int)->Option ((List Int)×Int)):Lp (Nat×Int×(List Int)×Int) (Nat×Unit) ((List Int)×Int):=lpm ⟨[0,2,9,29,30],[90009],[(.slot 9,90009,3,1)],[]⟩ (λ (n,number2,out9,v30)=>ziV a0 x3 k0 n number2 out9 v30) (λ (_,number2,_,v30) (m0,_)=>[.dat (zao a0), .dat (iN number2), .rs 90009 m0, .dat (iN (List.length x3:Int)), .dat (iN v30)]) (λ (_,_,out9,_) (_,_)=>[.row 3 1 (List.map iN out9)]) λ (_,_,out9,_)=>(List.length out9,())
instance Ef83_10 {a0 x3 k0 n number2 out9 v30}:IsLp 1 3 (ziV a0 x3 k0 n number2 out9 v30) (zrD a0 x3 k0) (n,number2,out9,v30):=⟨rfl⟩
def f83 (N:Nat)(a0:List (List Int))(a1:Int)(a2:Int):Option ((List Int)×Int) :=
 (f116 N a0).bind λ x1 =>
 bif decide (¬ x1=(0:Int)) then (some ([],x1))
 else ((f117 N (2:Int) a1 (12:Int)).bind λ x2 =>
 bif !x2 then (some ([],(3:Int)))
 else (bif decide (a2<(0:Int)) then (some ([],(4:Int)))
 else ((mkS 8 (0:Int) (W (a1-(1:Int))) (W (a1-(1:Int)))).bind λ x3 =>
 zau (zga a0 N) λ k0 =>
 ziV a0 x3 k0 N a2 x3 (0:Int))))
def G83 (ds:List D)(d:D):Prop:=∃ (N:Nat) (a0:List (List Int)) (a1:Int) (a2:Int) (r:(List Int)×Int),ds=[zao a0,iN a1,iN a2]/\f83 N a0 a1 a2=some r/\d = .tup [zbc r.1,iN r.2]
theorem G83.step {a0 a1 a2}{A:_->Option ρ}{K:D->Prop}(hd:ds=[zao a0,iN a1,iN a2])(h:∀ r,A r=some q->K (.tup [zbc r.1,iN r.2]))(hF:(f83 N a0 a1 a2).bind A=some q):∃ d,G83 ds d/\K d:=by
 obtain⟨r,hr,hA⟩:=bind_some hF;exact⟨_,⟨N,a0,a1,a2,r,hd,hr,rfl⟩,h r hA⟩

end Go.Vc
namespace Go.Vc
open Go.Proofs
variable {N id:Nat} {ρ:Type} {q:ρ} {xs:List SV} {m:Nat->Blk} {l:List Loc} {ds:List D} {K:Dl->List Loc->Prop} {k0 k1 k2 k3 k4 k5 k6 k7 k8 k9 k10 k11 k12 k13 k14 k15 m0 m1 m2 m3 m4 m5:Nat}
def zep (b800_1:List Int):Option (ByteArray) :=
 (neN b800_1).bind λ _ =>
 (neN b800_1).bind λ _ =>
 (some (strB b800_1)).bind λ x3 =>
 some (x3)
def zj3:Lp ((List Int)) (Nat×Unit) (ByteArray):=lpm ⟨[7],[800,90500],[(.cell 800 1,90500,5,1)],[]⟩ (λ b800_1=>zep b800_1) (λ _ (_,_)=>[.ptr 800 0]) (λ b800_1 (m0,_)=>[.box [.slf 800 106, .rs 90500 m0], .row 5 1 (List.map u8N b800_1)]) λ b800_1=>(List.length b800_1,())
instance Ef57_c14 {b800_1}:IsLp 1 1 (zep b800_1) (zj3) b800_1:=⟨rfl⟩
instance Cf57_c14:IsCut 1 (zep) (zj3) 14:=⟨⟩
def zj4 (r10:Int->(List Int)->Option (ByteArray))(x2:(List Int)×Int)(k0:(List Int)->Option (ByteArray))(v34:Int)(b800_1:List Int):Option (ByteArray) :=
 bif decide (v34<(List.length x2.1:Int)) then ((ix x2.1 v34).bind λ x4 =>
 (app 1 b800_1 [Wk .u8 (W ((48:Int)+x4))]).bind λ x5 =>
 r10 (W (v34+(1:Int))) x5)
 else (k0 b800_1)
def zfR (x2:(List Int)×Int)(k0:(List Int)->Option (ByteArray)):Nat->Int->(List Int)->Option (ByteArray)
 | 0,_,_=>none
 | n+1,v34,b800_1=>zj4 (zfR x2 k0 n) x2 k0 v34 b800_1
def zrE (x2:(List Int)×Int)(k0:(List Int)->Option (ByteArray)):Lp (Nat×Int×(List Int)) (Nat×Unit) (ByteArray):=lpm ⟨[7,32,33,34],[800,90500],[(.cell 800 1,90500,5,1)],[]⟩ (λ (n,v34,b800_1)=>zfR x2 k0 n v34 b800_1) (λ (_,v34,_) (_,_)=>[.ptr 800 0, .dat (zbc x2.1), .dat (iN (List.length x2.1:Int)), .dat (iN v34)]) (λ (_,_,b800_1) (m0,_)=>[.box [.slf 800 106, .rs 90500 m0], .row 5 1 (List.map u8N b800_1)]) λ (_,_,b800_1)=>(List.length b800_1,())
instance Ef57_10 {x2 k0 n v34 b800_1}:IsLp 1 2 (zfR x2 k0 n v34 b800_1) (zrE x2 k0) (n,v34,b800_1):=⟨rfl⟩
def zeR (N:Nat)(sum3:Int):Option (ByteArray) :=
 (f84 N ).bind λ x1 =>
 (f83 N x1 (5:Int) (Int.tmod sum3 (10000:Int))).bind λ x2 =>
 zau zep λ k0 =>
 zfR x2 k0 N (0:Int) []
def zm9 (N:Nat):Lp (Int) Unit (ByteArray):=lp0 ⟨[3],[],[],[]⟩ (λ sum3=>[.dat (iN sum3)]) (λ _=>[]) (λ sum3=>zeR N sum3)
instance Ef57_c7 {N sum3}:IsLp 0 1 (zeR N sum3) (zm9 N) sum3:=⟨rfl⟩
instance Cf57_c7 {N}:IsCut 1 (zeR N) (zm9 N) 7:=⟨⟩
def zob (r3:Int->Int->Option (ByteArray))(a0:ByteArray)(k1:Int->Option (ByteArray))(sum3:Int)(v12:Int):Option (ByteArray) :=
 bif decide (v12<(ByteArray.size a0:Int)) then ((idxS a0 v12).bind λ x6 =>
 r3 (W (sum3+(W ((W (v12+(1:Int)))*x6)))) (W (v12+(1:Int))))
 else (k1 sum3)
def zj5 (a0:ByteArray)(k1:Int->Option (ByteArray)):Nat->Int->Int->Option (ByteArray)
 | 0,_,_=>none
 | n+1,sum3,v12=>zob (zj5 a0 k1 n) a0 k1 sum3 v12
def zuI (a0:ByteArray)(k1:Int->Option (ByteArray)):Lp (Nat×Int×Int) Unit (ByteArray):=lp0 ⟨[0,3,11,12],[],[],[]⟩ (λ (_,sum3,v12)=>[.dat (strN a0), .dat (iN sum3), .dat (iN (ByteArray.size a0:Int)), .dat (iN v12)]) (λ (_,_,_)=>[]) (λ (n,sum3,v12)=>zj5 a0 k1 n sum3 v12)
instance Ef57_3 {a0 k1 n sum3 v12}:IsLp 0 2 (zj5 a0 k1 n sum3 v12) (zuI a0 k1) (n,sum3,v12):=⟨rfl⟩
def f57 (N:Nat)(a0:ByteArray):Option (ByteArray) :=
 zau (zeR N) λ k1 =>
 zj5 a0 k1 N (0:Int) (0:Int)
def G57 (ds:List D)(d:D):Prop:=∃ (N:Nat) (a0:ByteArray) (r:ByteArray),ds=[strN a0]/\f57 N a0=some r/\d=strN r
theorem G57.lend {a0}{A:_->Option ρ}{K:D->Prop}(hd:ds=[strN a0])(h:∀ r,A r=some q->K (strN r))(hF:(f57 N a0).bind A=some q):∃ d,(G57 ds d/\d.flatB=true)/\K d:=by
 obtain⟨r,hr,hA⟩:=bind_some hF;exact⟨_,⟨⟨N,a0,r,hd,hr,rfl⟩,rfl⟩,h r hA⟩

end Go.Vc
namespace Go.Vc
open Go.Proofs
variable {N id:Nat} {ρ:Type} {q:ρ} {xs:List SV} {m:Nat->Blk} {l:List Loc} {ds:List D} {K:Dl->List Loc->Prop} {k0 k1 k2 k3 k4 k5 k6 k7 k8 k9 k10 k11 k12 k13 k14 k15 m0 m1 m2 m3 m4 m5:Nat}
def zfc (s0:LB)(s1:LS)(s2:LE)(s3:LC)(b1300_1:List Int):Option (ByteArray) :=
 (neN b1300_1).bind λ _ =>
 (neN b1300_1).bind λ _ =>
 (some (strB b1300_1)).bind λ x6 =>
 some (x6)
def zj6 (s0:LB)(s1:LS)(s2:LE)(s3:LC):Lp ((List Int)) (Nat×Nat) (ByteArray):=lpm ⟨[3],[0,1,2,3,4,5,1300,91500],[(.cell 1300 1,91500,5,1)],[]⟩ (λ b1300_1=>zfc s0 s1 s2 s3 b1300_1) (λ _ (_,_)=>[.ptr 1300 0]) (λ b1300_1 (m0,m1)=>[.box [.ptr 1 0, .rs 2 m0], .box [.mp 3, .mp 4, .mp 5],(rW s0),(sW [4] s1),(eW s2),(mW s3), .box [.slf 1300 106, .rs 91500 m1], .row 5 1 (List.map u8N b1300_1)]) λ b1300_1=>(List.length s0,List.length b1300_1)
instance Ef23_c10 {s0 s1 s2 s3 b1300_1}:IsLp 2 1 (zfc s0 s1 s2 s3 b1300_1) (zj6 s0 s1 s2 s3) b1300_1:=⟨rfl⟩
instance Cf23_c10 {s0 s1 s2 s3}:IsCut 1 (zfc s0 s1 s2 s3) (zj6 s0 s1 s2 s3) 1000010:=⟨⟩
def zoc (r6:Int->(List Int)->Option (ByteArray))(s0:LB)(s1:LS)(s2:LE)(s3:LC)(N:Nat)(k0:(List Int)->Option (ByteArray))(v22:Int)(b1300_1:List Int):Option (ByteArray) :=
 bif decide (v22<(List.length s0:Int)) then ((ix s0 v22).bind λ x7 =>
 (addS x7 (strC [32])).bind λ x8 =>
 (f57 N x7).bind λ x9 =>
 (addS x8 x9).bind λ x10 =>
 (addS x10 (strC [10])).bind λ x11 =>
 (some (zd4 x11)).bind λ x12 =>
 (app 1 b1300_1 x12).bind λ x13 =>
 r6 (W (v22+(1:Int))) x13)
 else (k0 b1300_1)
def zlZ (s0:LB)(s1:LS)(s2:LE)(s3:LC)(N:Nat)(k0:(List Int)->Option (ByteArray)):Nat->Int->(List Int)->Option (ByteArray)
 | 0,_,_=>none
 | n+1,v22,b1300_1=>zoc (zlZ s0 s1 s2 s3 N k0 n) s0 s1 s2 s3 N k0 v22 b1300_1
def zuJ (s0:LB)(s1:LS)(s2:LE)(s3:LC)(N:Nat)(k0:(List Int)->Option (ByteArray)):Lp (Nat×Int×(List Int)) (Nat×Nat×Nat) (ByteArray):=lpm ⟨[3,20,21,22],[0,1,2,3,4,5,1300,91500],[(.cell 1300 1,91500,5,1)],[]⟩ (λ (n,v22,b1300_1)=>zlZ s0 s1 s2 s3 N k0 n v22 b1300_1) (λ (_,v22,_) (m0,_,_)=>[.ptr 1300 0, .rs 2 m0, .dat (iN (List.length s0:Int)), .dat (iN v22)]) (λ (_,_,b1300_1) (_,m1,m2)=>[.box [.ptr 1 0, .rs 2 m1], .box [.mp 3, .mp 4, .mp 5],(rW s0),(sW [4] s1),(eW s2),(mW s3), .box [.slf 1300 106, .rs 91500 m2], .row 5 1 (List.map u8N b1300_1)]) λ (_,_,b1300_1)=>(List.length s0,List.length s0,List.length b1300_1)
instance Ef23_6 {s0 s1 s2 s3 N k0 n v22 b1300_1}:IsLp 3 2 (zlZ s0 s1 s2 s3 N k0 n v22 b1300_1) (zuJ s0 s1 s2 s3 N k0) (n,v22,b1300_1):=⟨rfl⟩
def f23b (self:LB->LS->LE->LC->Option (ByteArray))(N:Nat)(s0:LB)(s1:LS)(s2:LE)(s3:LC):Option (ByteArray) :=
 (f30 N (List.length s0:Int)).bind λ x1 =>
 (addS (strC [116,117,115,99,104,101,32]) x1).bind λ x2 =>
 (addS x2 (strC [10])).bind λ x3 =>
 (some (zd4 x3)).bind λ x4 =>
 (app 1 [] x4).bind λ x5 =>
 zau (zfc s0 s1 s2 s3) λ k0 =>
 zlZ s0 s1 s2 s3 N k0 N (0:Int) x5
def f23:Nat->LB->LS->LE->LC->Option (ByteArray)
 | 0,_,_,_,_=>none
 | N+1,s0,s1,s2,s3=>f23b (f23 N) N s0 s1 s2 s3
def Af23 (s0:LB)(s1:LS)(s2:LE)(s3:LC):List SV:=[.ptr 0 0]
def Bf23 (s0:LB)(s1:LS)(s2:LE)(s3:LC):List Blk:=[.box [.ptr 1 0, .rs 2 (List.length s0)], .box [.mp 3, .mp 4, .mp 5],(rW s0),(sW [4] s1),(eW s2),(mW s3)]
def Rf23 (y:ByteArray):List SV:=[.dat (strN y)]
def B1f23 (s0:LB)(s1:LS)(s2:LE)(s3:LC)(y:ByteArray):List Blk:=[.box [.ptr 1 0, .rs 2 (List.length s0)], .box [.mp 3, .mp 4, .mp 5],(rW s0),(sW [4] s1),(eW s2),(mW s3)]
def BZf23 (y:ByteArray):List Blk:=[]
def zn:Spec (LB×LS×LE×LC) (ByteArray):=⟨6,[],λ x=>Af23 x.1 x.2.1 x.2.2.1 x.2.2.2,λ x=>Bf23 x.1 x.2.1 x.2.2.1 x.2.2.2,λ _ y=>Rf23 y,λ x y=>B1f23 x.1 x.2.1 x.2.2.1 x.2.2.2 y,λ _ y=>BZf23 y⟩
def H23 (N:Nat)(x:LB×LS×LE×LC)(y:ByteArray):Prop:=f23 N x.1 x.2.1 x.2.2.1 x.2.2.2=some y
def G23 (x:LB×LS×LE×LC)(y:ByteArray):Prop:=∃ N,H23 N x y
theorem G23.step {s0 s1 s2 s3}{A:_->Option ρ}(ha:xs=[.ptr k0 0])(b0:m k0 = .box [.ptr k1 0, .rs k2 m0])(b1:m k1 = .box [.mp k3, .mp k4, .mp k5])(b2:m k2=(rW s0))(b3:m k3=(sW [k4] s1))(b4:m k4=(eW s2))(b5:m k5=(mW s3))(em0:m0=List.length s0)(hu:True)(hn:zaU [k0,k1,k2,k3,k4,k5]=true)(h:∀ y,A y=some q->K ⟨.dat (strN y),[(k0, .box [.ptr k1 0, .rs k2 (List.length s0)]),(k1, .box [.mp k3, .mp k4, .mp k5]),(k2,(rW s0)),(k3,(sW [k4] s1)),(k4,(eW s2)),(k5,(mW s3))]⟩ ([Loc.b k0,Loc.b k1,Loc.b k2,Loc.b k3,Loc.b k4,Loc.b k5]++l))(hF:(f23 N s0 s1 s2 s3).bind A=some q):effPg zn (G23) xs id (λ _=>SV.no) m l K:=by
 subst em0;obtain⟨y,hy,hA⟩:=bind_some hF;exact zaH [k0,k1,k2,k3,k4,k5] (s0,s1,s2,s3) y _ ⟨N,hy⟩ rfl hn ha (by simp only[List.map_cons,List.map_nil,b0,b1,b2,b3,b4,b5];rfl) rfl rfl rfl (h y hA)
def Srf23:Ann:=⟨[0],[0,1,2,3,4,5],[],[]⟩
def zx6:Ann:=⟨[0],[0,1,2,3,4,5],[],[]⟩
def zfd (a0:ByteArray)(N:Nat)(x1:Int)(code5:List Int):Option (ByteArray×Int) :=
 (f84 N ).bind λ x2 =>
 (f101 N x2 code5).bind λ x3 =>
 bif decide (¬ x3=(0:Int)) then (some (zbO,(13:Int)))
 else ((subS a0 0 x1).bind λ x4 =>
 (f57 N x4).bind λ x5 =>
 (subS a0 (W (x1+(1:Int))) (ByteArray.size a0:Int)).bind λ x6 =>
 bif decide (¬ x5=x6) then (some (zbO,(17:Int)))
 else ((subS a0 0 x1).bind λ x7 =>
 some (x7,(0:Int))))
def zj7 (a0:ByteArray)(N:Nat)(x1:Int):Lp ((List Int)) (Nat×Unit) (ByteArray×Int):=lpm ⟨[0,4,5],[90005],[(.slot 5,90005,3,1)],[]⟩ (λ code5=>zfd a0 N x1 code5) (λ _ (m0,_)=>[.dat (strN a0), .dat (iN x1), .rs 90005 m0]) (λ code5 (_,_)=>[.row 3 1 (List.map iN code5)]) λ code5=>(List.length code5,())
instance Ef75_c12 {a0 N x1 code5}:IsLp 1 1 (zfd a0 N x1 code5) (zj7 a0 N x1) code5:=⟨rfl⟩
instance Cf75_c12 {a0 N x1}:IsCut 1 (zfd a0 N x1) (zj7 a0 N x1) 12:=⟨⟩
def zod (r6:(List Int)->Int->Option (ByteArray×Int))(a0:ByteArray)(x1:Int)(k0:(List Int)->Option (ByteArray×Int))(x9:List Int)(code5:List Int)(v26:Int):Option (ByteArray×Int) :=
 bif decide (v26<(List.length x9:Int)) then ((ix x9 v26).bind λ x10 =>
 bif decide (x10<(48:Int)) then (some (zbO,(9:Int)))
 else (bif decide ((57:Int)<x10) then (some (zbO,(9:Int)))
 else ((app 8 code5 [Wk .u8 (x10-(48:Int))]).bind λ x11 =>
 r6 x11 (W (v26+(1:Int))))))
 else (k0 code5)
def zl0 (a0:ByteArray)(x1:Int)(k0:(List Int)->Option (ByteArray×Int))(x9:List Int):Nat->(List Int)->Int->Option (ByteArray×Int)
 | 0,_,_=>none
 | n+1,code5,v26=>zod (zl0 a0 x1 k0 x9 n) a0 x1 k0 x9 code5 v26
def zuK (a0:ByteArray)(x1:Int)(k0:(List Int)->Option (ByteArray×Int))(x9:List Int):Lp (Nat×(List Int)×Int) (Nat×Unit) (ByteArray×Int):=lpm ⟨[0,4,5,24,25,26],[90005],[(.slot 5,90005,3,1)],[]⟩ (λ (n,code5,v26)=>zl0 a0 x1 k0 x9 n code5 v26) (λ (_,_,v26) (m0,_)=>[.dat (strN a0), .dat (iN x1), .rs 90005 m0, .dat (zwQ x9), .dat (iN (List.length x9:Int)), .dat (iN v26)]) (λ (_,code5,_) (_,_)=>[.row 3 1 (List.map iN code5)]) λ (_,code5,_)=>(List.length code5,())
instance Ef75_6 {a0 x1 k0 x9 n code5 v26}:IsLp 1 2 (zl0 a0 x1 k0 x9 n code5 v26) (zuK a0 x1 k0 x9) (n,code5,v26):=⟨rfl⟩
def f75 (N:Nat)(a0:ByteArray):Option (ByteArray×Int) :=
 (f100 N a0 (32:Int)).bind λ x1 =>
 bif decide (x1<(0:Int)) then (some (zbO,(9:Int)))
 else (bif decide (¬ (W ((W ((ByteArray.size a0:Int)-x1))-(1:Int)))=(5:Int)) then (some (zbO,(9:Int)))
 else (zau (zfd a0 N x1) λ k0 =>
 (subS a0 (W (x1+(1:Int))) (ByteArray.size a0:Int)).bind λ x8 =>
 (some (zd4 x8)).bind λ x9 =>
 zl0 a0 x1 k0 x9 N [] (0:Int)))
def G75 (ds:List D)(d:D):Prop:=∃ (N:Nat) (a0:ByteArray) (r:ByteArray×Int),ds=[strN a0]/\f75 N a0=some r/\d = .tup [strN r.1,iN r.2]
theorem G75.lend {a0}{A:_->Option ρ}{K:D->Prop}(hd:ds=[strN a0])(h:∀ r,A r=some q->K (.tup [strN r.1,iN r.2]))(hF:(f75 N a0).bind A=some q):∃ d,(G75 ds d/\d.flatB=true)/\K d:=by
 obtain⟨r,hr,hA⟩:=bind_some hF;exact⟨_,⟨⟨N,a0,r,hd,hr,rfl⟩,rfl⟩,h r hA⟩

end Go.Vc
namespace Go.Vc
open Go.Proofs
variable {N id:Nat} {ρ:Type} {q:ρ} {xs:List SV} {m:Nat->Blk} {l:List Loc} {ds:List D} {K:Dl->List Loc->Prop} {k0 k1 k2 k3 k4 k5 k6 k7 k8 k9 k10 k11 k12 k13 k14 k15 m0 m1 m2 m3 m4 m5:Nat}
def zhN (N:Nat)(x18:Int×LS×LE×LC×LB)(x19:Int×ByteArray×Int)(x20:Tally×Int)(b106_1':LB):Option (Bool) :=
 bif decide (x19.2.2=(0:Int)) then (bif decide (x20.2=(0:Int)) then (bif decide (x19.1=(8:Int)) then (bif decide (x19.2.1=zbO) then (bif (decide (x20.1.Paper=(100:Int))&&(decide (x20.1.Delivered=(59:Int))&&(decide (x20.1.Spoilt=(26:Int))&&(decide (x20.1.Lost=(15:Int))&&(decide (x20.1.Rest=(0:Int))&&true))))) then ((f18 N (strC [101,100,105,116,105,111,110,32,77,97,112]) x18.2.2.2.2 x18.2.1 x18.2.2.1 x18.2.2.2.1).bind λ x21 =>
 bif decide (x21.1=(8:Int)) then ((f18 N (strC [115,116,111,110,101,32,99,32,48]) x21.2.2.2.2 x21.2.1 x21.2.2.1 x21.2.2.2.1).bind λ x22 =>
 bif decide (x22.1=(4:Int)) then ((f18 N (strC [112,114,105,110,116,32,98,32,49]) x22.2.2.2.2 x22.2.1 x22.2.2.1 x22.2.2.2.1).bind λ x23 =>
 bif decide (x23.1=(9:Int)) then ((f23 N (b106_1') [] [] []).bind λ x24 =>
 bif decide (x24=(strC [116,117,115,99,104,101,32,48,10])) then ((f18 N (strC [101,100,105,116,105,111,110,32,97]) (b106_1') [] [] []).bind λ x25 =>
 bif decide (x25.1=(0:Int)) then ((f23 N x25.2.2.2.2 x25.2.1 x25.2.2.1 x25.2.2.2.1).bind λ x26 =>
 some (decide (x26=(strC [116,117,115,99,104,101,32,49,10,101,100,105,116,105,111,110,32,97,32,52,49,55,48,54,10]))))
 else (some (false)))
 else (some (false)))
 else (some (false)))
 else (some (false)))
 else (some (false)))
 else (some (false)))
 else (some (false)))
 else (some (false)))
 else (some (false)))
 else (some (false))
def zj8 (N:Nat)(x18:Int×LS×LE×LC×LB)(x19:Int×ByteArray×Int)(x20:Tally×Int):Lp (LB) (Nat×Nat) (Bool):=lpm ⟨[1,5,6,7,9,10,11],[905,1813,90520,zzd,zy5,zze,zzf,zza,2201000100,2201000101,2201000102,2201000104,2201000106],[(.cell 2201000106 1,90520,9,1)],[]⟩ (λ b106_1' => zhN N x18 x19 x20 b106_1') (λ _ (_,_)=>[.ptr zza 0, .dat (iN x19.2.2), .ptr 905 0, .dat (iN x20.2), .dat (iN x19.1), .dat (strN x19.2.1), .ptr 2201000106 0]) (λ b106_1' (m0,m1)=>[.box [.dat (iN x20.1.Paper), .dat (iN x20.1.Delivered), .dat (iN x20.1.Spoilt), .dat (iN x20.1.Lost), .dat (iN x20.1.Rest)],(rW x18.2.2.2.2),(rW b106_1'),(sW [zy5] x18.2.1),(eW x18.2.2.1),(mW x18.2.2.2.1), .box [.mp zzd, .mp zy5, .mp zze], .box [.ptr zzf 0, .rs 1813 m0], .fam [2201000101] (encF strN StoneM.m []) [], .fam [] (encF strN EditionM.m []) [], .mp (encM strN bN []), .box [.mp 2201000100, .mp 2201000101, .mp 2201000102], .box [.ptr 2201000104 0, .rs 90520 m1]]) λ b106_1' => (List.length x18.2.2.2.2,List.length (b106_1'))
instance Ef14_c23 {N x18 x19 x20 b106_1'}:IsLp 2 1 (zhN N x18 x19 x20 b106_1') (zj8 N x18 x19 x20) b106_1':=⟨rfl⟩
instance Cf14_c23 {N x18 x19 x20}:IsCut 1 (zhN N x18 x19 x20) (zj8 N x18 x19 x20) 23:=⟨⟩
def zl1 (N:Nat)(b106_1:LB)(b100:LS)(b101:LE)(b102:LC):Option (Bool) :=
 (f33 N (strC [109,97,112]) b106_1 b100 b101 b102).bind λ x2 =>
 (f34 N (strC [109,97,112]) b106_1 b100 b101 b102).bind λ x3 =>
 bif decide (¬ x2.2=(0:Int)) then (some (false))
 else (bif decide (¬ x3.2=(0:Int)) then (some (false))
 else ((f35 N x2.1 [(15:Int),(28:Int),(50:Int)]).bind λ x4 =>
 bif !x4 then (some (false))
 else (bif !(decide (x3.1.Paper=(100:Int))&&(decide (x3.1.Delivered=(0:Int))&&(decide (x3.1.Spoilt=(7:Int))&&(decide (x3.1.Lost=(0:Int))&&(decide (x3.1.Rest=(93:Int))&&true))))) then (some (false))
 else ((f18 N (strC [100,114,97,119,32,97,32,109,97,112]) b106_1 b100 b101 b102).bind λ x5 =>
 bif decide (¬ x5.1=(20:Int)) then (some (false))
 else ((f18 N (strC [112,114,105,110,116,32,98,32,50,57,32,48]) x5.2.2.2.2 x5.2.1 x5.2.2.1 x5.2.2.2.1).bind λ x6 =>
 bif decide (¬ x6.1=(16:Int)) then (some (false))
 else ((f18 N (strC [100,101,108,105,118,101,114,32,97,110,110,32,109,97,112,32,53,49]) x6.2.2.2.2 x6.2.1 x6.2.2.1 x6.2.2.2.1).bind λ x7 =>
 bif decide (¬ x7.1=(16:Int)) then (some (false))
 else ((f17 N (strC [103,114,105,110,100,32,98]) x7.2.2.2.2 x7.2.1 x7.2.2.1 x7.2.2.2.1).bind λ x8 =>
 bif decide (¬ x8=(12:Int)) then (some (false))
 else ((f18 N (strC [103,114,105,110,100,32,97]) x7.2.2.2.2 x7.2.1 x7.2.2.1 x7.2.2.2.1).bind λ x9 =>
 bif decide (¬ x9.1=(0:Int)) then (some (false))
 else ((f18 N (strC [112,114,105,110,116,32,97,32,49,32,48]) x9.2.2.2.2 x9.2.1 x9.2.2.1 x9.2.2.2.1).bind λ x10 =>
 bif decide (¬ x10.1=(1:Int)) then (some (false))
 else ((f18 N (strC [100,101,108,105,118,101,114,32,97,110,110,32,109,97,112,32,53,48]) x10.2.2.2.2 x10.2.1 x10.2.2.1 x10.2.2.2.1).bind λ x11 =>
 bif decide (¬ x11.1=(0:Int)) then (some (false))
 else ((f36 N (strC [97,110,110]) (strC [109,97,112]) x11.2.2.2.2 x11.2.1 x11.2.2.1 x11.2.2.2.1).bind λ x12 =>
 bif decide (¬ x12.2=(0:Int)) then (some (false))
 else (bif decide (¬ x12.1=(10:Int)) then (some (false))
 else ((f18 N (strC [112,114,105,110,116,32,98,32,57,32,49,56]) x11.2.2.2.2 x11.2.1 x11.2.2.1 x11.2.2.2.1).bind λ x13 =>
 bif decide (¬ x13.1=(0:Int)) then (some (false))
 else ((f18 N (strC [103,114,105,110,100,32,98]) x13.2.2.2.2 x13.2.1 x13.2.2.1 x13.2.2.2.1).bind λ x14 =>
 bif decide (¬ x14.1=(12:Int)) then (some (false))
 else ((f18 N (strC [112,114,105,110,116,32,98,32,48,32,49]) x14.2.2.2.2 x14.2.1 x14.2.2.1 x14.2.2.2.1).bind λ x15 =>
 bif decide (¬ x15.1=(0:Int)) then (some (false))
 else ((f40 N (strC [109,97,112]) x15.2.2.2.2 x15.2.1 x15.2.2.1 x15.2.2.2.1).bind λ x16 =>
 bif decide (¬ x16.2=(0:Int)) then (some (false))
 else (bif decide (¬ x16.1=(1:Int)) then (some (false))
 else ((f18 N (strC [103,114,105,110,100,32,98]) x15.2.2.2.2 x15.2.1 x15.2.2.1 x15.2.2.2.1).bind λ x17 =>
 bif decide (¬ x17.1=(0:Int)) then (some (false))
 else ((f18 N (strC [100,101,108,105,118,101,114,32,97,110,110,32,109,97,112,32,57]) x17.2.2.2.2 x17.2.1 x17.2.2.1 x17.2.2.2.1).bind λ x18 =>
 bif decide (¬ x18.1=(0:Int)) then (some (false))
 else ((f32 N (strC [98]) x18.2.2.2.2 x18.2.1 x18.2.2.1 x18.2.2.2.1).bind λ x19 =>
 (f34 N (strC [109,97,112]) x18.2.2.2.2 x18.2.1 x18.2.2.1 x18.2.2.2.1).bind λ x20 =>
 zau (zhN N x18 x19 x20) λ k0 =>
 k0 []))))))))))))))))))))
def zna (N:Nat):Lp (LB×LS×LE×LC) (Nat×Unit) (Bool):=lpm ⟨[1],[90500,zzd,zy5,zze,zzf,zza],[(.cell zza 1,90500,9,1)],[]⟩ (λ (b106_1,b100,b101,b102)=>zl1 N b106_1 b100 b101 b102) (λ (_,_,_,_) (_,_)=>[.ptr zza 0]) (λ (b106_1,b100,b101,b102) (m0,_)=>[(rW b106_1),(sW [zy5] b100),(eW b101),(mW b102), .box [.mp zzd, .mp zy5, .mp zze], .box [.ptr zzf 0, .rs 90500 m0]]) λ (b106_1,_,_,_)=>(List.length b106_1,())
instance Ef14_c8 {N b106_1 b100 b101 b102}:IsLp 1 4 (zl1 N b106_1 b100 b101 b102) (zna N) (b106_1,b100,b101,b102):=⟨rfl⟩
instance Cf14_c8 {N}:IsCut 4 (zl1 N) (zna N) 8:=⟨⟩
def ziW (N:Nat)(x1:LB)(v3:Int)(b106_1:LB)(b100:LS)(b101:LE)(b102:LC)(r4:Int->LB->LS->LE->LC->Option (Bool)):Option (Bool) :=
 (ix x1 v3).bind λ x27 =>
 (f18 N x27 b106_1 b100 b101 b102).bind λ x28 =>
 bif decide (¬ x28.1=(0:Int)) then (some (false))
 else (r4 (W (v3+(1:Int))) x28.2.2.2.2 x28.2.1 x28.2.2.1 x28.2.2.2.1)
def znb (N:Nat)(x1:LB)(v3:Int)(b106_1:LB)(b100:LS)(b101:LE)(b102:LC)(r4:Int->LB->LS->LE->LC->Option (Bool)):Lp (Unit) (Nat×Unit) (Bool):=lpm ⟨[1,2,3],[90500,zzd,zy5,zze,zzf,zza],[],[]⟩ (λ _=>ziW N x1 v3 b106_1 b100 b101 b102 r4) (λ _ (_,_)=>[.ptr zza 0, .dat (zat x1), .dat (iN v3)]) (λ _ (m0,_)=>[(rW b106_1),(sW [zy5] b100),(eW b101),(mW b102), .box [.mp zzd, .mp zy5, .mp zze], .box [.ptr zzf 0, .rs 90500 m0]]) λ _=>(List.length b106_1,())
instance Ef14_c6 {N x1 v3 b106_1 b100 b101 b102 r4}:IsLp 1 0 (ziW N x1 v3 b106_1 b100 b101 b102 r4) (znb N x1 v3 b106_1 b100 b101 b102 r4) ():=⟨rfl⟩
instance Cf14_c6 {N x1 v3 b106_1 b100 b101 b102 r4}:IsCut 0 (ziW N x1 v3 b106_1 b100 b101 b102 r4) (znb N x1 v3 b106_1 b100 b101 b102 r4) 6:=⟨⟩
def zuL (r4:Int->LB->LS->LE->LC->Option (Bool))(N:Nat)(x1:LB)(k1:LB->LS->LE->LC->Option (Bool))(v3:Int)(b106_1:LB)(b100:LS)(b101:LE)(b102:LC):Option (Bool) :=
 zau (ziW N x1 v3 b106_1 b100 b101 b102 r4) λ k2 =>
 bif decide (v3<(List.length x1:Int)) then k2
 else (k1 b106_1 b100 b101 b102)
def zrF (N:Nat)(x1:LB)(k1:LB->LS->LE->LC->Option (Bool)):Nat->Int->LB->LS->LE->LC->Option (Bool)
 | 0,_,_,_,_,_=>none
 | n+1,v3,b106_1,b100,b101,b102=>zuL (zrF N x1 k1 n) N x1 k1 v3 b106_1 b100 b101 b102
def zuM (N:Nat)(x1:LB)(k1:LB->LS->LE->LC->Option (Bool)):Lp (Nat×Int×LB×LS×LE×LC) (Nat×Unit) (Bool):=lpm ⟨[1,2,3],[90500,zzd,zy5,zze,zzf,zza],[(.cell zza 1,90500,9,1)],[]⟩ (λ (n,v3,b106_1,b100,b101,b102)=>zrF N x1 k1 n v3 b106_1 b100 b101 b102) (λ (_,v3,_,_,_,_) (_,_)=>[.ptr zza 0, .dat (zat x1), .dat (iN v3)]) (λ (_,_,b106_1,b100,b101,b102) (m0,_)=>[(rW b106_1),(sW [zy5] b100),(eW b101),(mW b102), .box [.mp zzd, .mp zy5, .mp zze], .box [.ptr zzf 0, .rs 90500 m0]]) λ (_,_,b106_1,_,_,_)=>(List.length b106_1,())
instance Ef14_4 {N x1 k1 n v3 b106_1 b100 b101 b102}:IsLp 1 5 (zrF N x1 k1 n v3 b106_1 b100 b101 b102) (zuM N x1 k1) (n,v3,b106_1,b100,b101,b102):=⟨rfl⟩
def f14 (N:Nat):Option (Bool) :=
 (f44 N ).bind λ x1 =>
 zau (zl1 N) λ k1 =>
 zrF N x1 k1 N (0:Int) [] [] [] []
def G14 (ds:List D)(d:D):Prop:=∃ (N:Nat) (r:Bool),ds=[]/\f14 N  = some r/\d=bN r
theorem G14.lend {A:_->Option ρ}{K:D->Prop}(hd:ds=[])(h:∀ r,A r=some q->K (bN r))(hF:(f14 N ).bind A=some q):∃ d,(G14 ds d/\d.flatB=true)/\K d:=by
 obtain⟨r,hr,hA⟩:=bind_some hF;exact⟨_,⟨⟨N,r,hd,hr,rfl⟩,rfl⟩,h r hA⟩
def zfe (s0:LB)(s1:LB)(s2:LS)(s3:LE)(s4:LC)(s5:LS)(s6:LE)(s7:LC):Option (Bool) :=
 some (true)
def zj9 (s0:LB)(s1:LB)(s2:LS)(s3:LE)(s4:LC)(s5:LS)(s6:LE)(s7:LC):Lp (Unit) (Nat×Nat) (Bool):=lpm ⟨[],[0,1,2,3,4,5,6,7,8,9,10,11],[],[]⟩ (λ _=>zfe s0 s1 s2 s3 s4 s5 s6 s7) (λ _ (_,_)=>[]) (λ _ (m0,m1)=>[.box [.ptr 2 0, .rs 3 m0], .box [.ptr 4 0, .rs 5 m1], .box [.mp 6, .mp 7, .mp 8],(rW s0), .box [.mp 9, .mp 10, .mp 11],(rW s1),(sW [7] s2),(eW s3),(mW s4),(sW [10] s5),(eW s6),(mW s7)]) λ _=>(List.length s0,List.length s1)
instance Ef41_c31 {s0 s1 s2 s3 s4 s5 s6 s7}:IsLp 2 0 (zfe s0 s1 s2 s3 s4 s5 s6 s7) (zj9 s0 s1 s2 s3 s4 s5 s6 s7) ():=⟨rfl⟩
instance Cf41_c31 {s0 s1 s2 s3 s4 s5 s6 s7}:IsCut 0 (zfe s0 s1 s2 s3 s4 s5 s6 s7) (zj9 s0 s1 s2 s3 s4 s5 s6 s7) 1000031:=⟨⟩
def zff (s0:LB)(s1:LB)(s2:LS)(s3:LE)(s4:LC)(s5:LS)(s6:LE)(s7:LC)(x6:LB)(v90:Int)(r12:Int->Option (Bool)):Option (Bool) :=
 r12 (W (v90+(1:Int)))
def zk (s0:LB)(s1:LB)(s2:LS)(s3:LE)(s4:LC)(s5:LS)(s6:LE)(s7:LC)(x6:LB)(v90:Int)(r12:Int->Option (Bool)):Lp (Unit) (Nat×Nat) (Bool):=lpm ⟨[0,1,88,89,90],[0,1,2,3,4,5,6,7,8,9,10,11],[],[]⟩ (λ _=>zff s0 s1 s2 s3 s4 s5 s6 s7 x6 v90 r12) (λ _ (_,_)=>[.ptr 0 0, .ptr 1 0, .dat (zat x6), .dat (iN (List.length x6:Int)), .dat (iN v90)]) (λ _ (m0,m1)=>[.box [.ptr 2 0, .rs 3 m0], .box [.ptr 4 0, .rs 5 m1], .box [.mp 6, .mp 7, .mp 8],(rW s0), .box [.mp 9, .mp 10, .mp 11],(rW s1),(sW [7] s2),(eW s3),(mW s4),(sW [10] s5),(eW s6),(mW s7)]) λ _=>(List.length s0,List.length s1)
instance Ef41_c30 {s0 s1 s2 s3 s4 s5 s6 s7 x6 v90 r12}:IsLp 2 0 (zff s0 s1 s2 s3 s4 s5 s6 s7 x6 v90 r12) (zk s0 s1 s2 s3 s4 s5 s6 s7 x6 v90 r12) ():=⟨rfl⟩
instance Cf41_c30 {s0 s1 s2 s3 s4 s5 s6 s7 x6 v90 r12}:IsCut 0 (zff s0 s1 s2 s3 s4 s5 s6 s7 x6 v90 r12) (zk s0 s1 s2 s3 s4 s5 s6 s7 x6 v90 r12) 1000030:=⟨⟩
def zka (r23:Int->Option (Bool))(s0:LB)(s1:LB)(s2:LS)(s3:LE)(s4:LC)(s5:LS)(s6:LE)(s7:LC)(N:Nat)(x6:LB)(v90:Int)(k1:Option (Bool))(x7:ByteArray)(x15:LB)(v161:Int):Option (Bool) :=
 bif decide (v161<(List.length x15:Int)) then ((ix x15 v161).bind λ x16 =>
 (f36 N x16 x7 s0 s2 s3 s4).bind λ x17 =>
 (f36 N x16 x7 s1 s5 s6 s7).bind λ x18 =>
 bif decide (¬ x17.1=x18.1) then (some (false))
 else (bif decide (¬ x17.2=x18.2) then (some (false))
 else (r23 (W (v161+(1:Int))))))
 else k1
def zd5 (s0:LB)(s1:LB)(s2:LS)(s3:LE)(s4:LC)(s5:LS)(s6:LE)(s7:LC)(N:Nat)(x6:LB)(v90:Int)(k1:Option (Bool))(x7:ByteArray)(x15:LB):Nat->Int->Option (Bool)
 | 0,_=>none
 | n+1,v161=>zka (zd5 s0 s1 s2 s3 s4 s5 s6 s7 N x6 v90 k1 x7 x15 n) s0 s1 s2 s3 s4 s5 s6 s7 N x6 v90 k1 x7 x15 v161
def zrG (s0:LB)(s1:LB)(s2:LS)(s3:LE)(s4:LC)(s5:LS)(s6:LE)(s7:LC)(N:Nat)(x6:LB)(v90:Int)(k1:Option (Bool))(x7:ByteArray)(x15:LB):Lp (Nat×Int) (Nat×Nat) (Bool):=lpm ⟨[0,1,14,88,89,90,159,160,161],[0,1,2,3,4,5,6,7,8,9,10,11],[],[]⟩ (λ (n,v161)=>zd5 s0 s1 s2 s3 s4 s5 s6 s7 N x6 v90 k1 x7 x15 n v161) (λ (_,v161) (_,_)=>[.ptr 0 0, .ptr 1 0, .dat (strN x7), .dat (zat x6), .dat (iN (List.length x6:Int)), .dat (iN v90), .dat (zat x15), .dat (iN (List.length x15:Int)), .dat (iN v161)]) (λ (_,_) (m0,m1)=>[.box [.ptr 2 0, .rs 3 m0], .box [.ptr 4 0, .rs 5 m1], .box [.mp 6, .mp 7, .mp 8],(rW s0), .box [.mp 9, .mp 10, .mp 11],(rW s1),(sW [7] s2),(eW s3),(mW s4),(sW [10] s5),(eW s6),(mW s7)]) λ (_,_)=>(List.length s0,List.length s1)
instance Ef41_23 {s0 s1 s2 s3 s4 s5 s6 s7 N x6 v90 k1 x7 x15 n v161}:IsLp 2 1 (zd5 s0 s1 s2 s3 s4 s5 s6 s7 N x6 v90 k1 x7 x15 n v161) (zrG s0 s1 s2 s3 s4 s5 s6 s7 N x6 v90 k1 x7 x15) (n,v161):=⟨rfl⟩
def zkb (r12:Int->Option (Bool))(s0:LB)(s1:LB)(s2:LS)(s3:LE)(s4:LC)(s5:LS)(s6:LE)(s7:LC)(N:Nat)(k0:Option (Bool))(x6:LB)(v90:Int):Option (Bool) :=
 bif decide (v90<(List.length x6:Int)) then (zau (zff s0 s1 s2 s3 s4 s5 s6 s7 x6 v90 r12) λ k1 =>
 (ix x6 v90).bind λ x7 =>
 (f33 N x7 s0 s2 s3 s4).bind λ x8 =>
 (f33 N x7 s1 s5 s6 s7).bind λ x9 =>
 (f34 N x7 s0 s2 s3 s4).bind λ x10 =>
 (f34 N x7 s1 s5 s6 s7).bind λ x11 =>
 (f40 N x7 s0 s2 s3 s4).bind λ x12 =>
 (f40 N x7 s1 s5 s6 s7).bind λ x13 =>
 (f35 N x8.1 x9.1).bind λ x14 =>
 bif !x14 then (some (false))
 else (bif decide (¬ x8.2=x9.2) then (some (false))
 else (bif !(decide (x10.1.Paper=x11.1.Paper)&&(decide (x10.1.Delivered=x11.1.Delivered)&&(decide (x10.1.Spoilt=x11.1.Spoilt)&&(decide (x10.1.Lost=x11.1.Lost)&&(decide (x10.1.Rest=x11.1.Rest)&&true))))) then (some (false))
 else (bif decide (¬ x10.2=x11.2) then (some (false))
 else (bif decide (¬ x12.1=x13.1) then (some (false))
 else (bif decide (¬ x12.2=x13.2) then (some (false))
 else ((f29 N ).bind λ x15 =>
 zd5 s0 s1 s2 s3 s4 s5 s6 s7 N x6 v90 k1 x7 x15 N (0:Int))))))))
 else k0
def zeS (s0:LB)(s1:LB)(s2:LS)(s3:LE)(s4:LC)(s5:LS)(s6:LE)(s7:LC)(N:Nat)(k0:Option (Bool))(x6:LB):Nat->Int->Option (Bool)
 | 0,_=>none
 | n+1,v90=>zkb (zeS s0 s1 s2 s3 s4 s5 s6 s7 N k0 x6 n) s0 s1 s2 s3 s4 s5 s6 s7 N k0 x6 v90
def zrH (s0:LB)(s1:LB)(s2:LS)(s3:LE)(s4:LC)(s5:LS)(s6:LE)(s7:LC)(N:Nat)(k0:Option (Bool))(x6:LB):Lp (Nat×Int) (Nat×Nat) (Bool):=lpm ⟨[0,1,88,89,90],[0,1,2,3,4,5,6,7,8,9,10,11],[],[]⟩ (λ (n,v90)=>zeS s0 s1 s2 s3 s4 s5 s6 s7 N k0 x6 n v90) (λ (_,v90) (_,_)=>[.ptr 0 0, .ptr 1 0, .dat (zat x6), .dat (iN (List.length x6:Int)), .dat (iN v90)]) (λ (_,_) (m0,m1)=>[.box [.ptr 2 0, .rs 3 m0], .box [.ptr 4 0, .rs 5 m1], .box [.mp 6, .mp 7, .mp 8],(rW s0), .box [.mp 9, .mp 10, .mp 11],(rW s1),(sW [7] s2),(eW s3),(mW s4),(sW [10] s5),(eW s6),(mW s7)]) λ (_,_)=>(List.length s0,List.length s1)
instance Ef41_12 {s0 s1 s2 s3 s4 s5 s6 s7 N k0 x6 n v90}:IsLp 2 1 (zeS s0 s1 s2 s3 s4 s5 s6 s7 N k0 x6 n v90) (zrH s0 s1 s2 s3 s4 s5 s6 s7 N k0 x6) (n,v90):=⟨rfl⟩
def zfg (s0:LB)(s1:LB)(s2:LS)(s3:LE)(s4:LC)(s5:LS)(s6:LE)(s7:LC)(N:Nat):Option (Bool) :=
 zau (zfe s0 s1 s2 s3 s4 s5 s6 s7) λ k0 =>
 (f28 N ).bind λ x6 =>
 zeS s0 s1 s2 s3 s4 s5 s6 s7 N k0 x6 N (0:Int)
def zkc (s0:LB)(s1:LB)(s2:LS)(s3:LE)(s4:LC)(s5:LS)(s6:LE)(s7:LC)(N:Nat):Lp (Unit) (Nat×Nat) (Bool):=lpm ⟨[0,1],[0,1,2,3,4,5,6,7,8,9,10,11],[],[]⟩ (λ _=>zfg s0 s1 s2 s3 s4 s5 s6 s7 N) (λ _ (_,_)=>[.ptr 0 0, .ptr 1 0]) (λ _ (m0,m1)=>[.box [.ptr 2 0, .rs 3 m0], .box [.ptr 4 0, .rs 5 m1], .box [.mp 6, .mp 7, .mp 8],(rW s0), .box [.mp 9, .mp 10, .mp 11],(rW s1),(sW [7] s2),(eW s3),(mW s4),(sW [10] s5),(eW s6),(mW s7)]) λ _=>(List.length s0,List.length s1)
instance Ef41_c11 {s0 s1 s2 s3 s4 s5 s6 s7 N}:IsLp 2 0 (zfg s0 s1 s2 s3 s4 s5 s6 s7 N) (zkc s0 s1 s2 s3 s4 s5 s6 s7 N) ():=⟨rfl⟩
instance Cf41_c11 {s0 s1 s2 s3 s4 s5 s6 s7 N}:IsCut 0 (zfg s0 s1 s2 s3 s4 s5 s6 s7 N) (zkc s0 s1 s2 s3 s4 s5 s6 s7 N) 1000011:=⟨⟩
def zoe (r4:Int->Option (Bool))(s0:LB)(s1:LB)(s2:LS)(s3:LE)(s4:LC)(s5:LS)(s6:LE)(s7:LC)(N:Nat)(k2:Option (Bool))(x19:LB)(v56:Int):Option (Bool) :=
 bif decide (v56<(List.length x19:Int)) then ((ix x19 v56).bind λ x20 =>
 (f32 N x20 s0 s2 s3 s4).bind λ x21 =>
 (f32 N x20 s1 s5 s6 s7).bind λ x22 =>
 bif decide (¬ x21.1=x22.1) then (some (false))
 else (bif decide (¬ x21.2.1=x22.2.1) then (some (false))
 else (bif decide (¬ x21.2.2=x22.2.2) then (some (false))
 else (r4 (W (v56+(1:Int)))))))
 else k2
def zgF (s0:LB)(s1:LB)(s2:LS)(s3:LE)(s4:LC)(s5:LS)(s6:LE)(s7:LC)(N:Nat)(k2:Option (Bool))(x19:LB):Nat->Int->Option (Bool)
 | 0,_=>none
 | n+1,v56=>zoe (zgF s0 s1 s2 s3 s4 s5 s6 s7 N k2 x19 n) s0 s1 s2 s3 s4 s5 s6 s7 N k2 x19 v56
def zuN (s0:LB)(s1:LB)(s2:LS)(s3:LE)(s4:LC)(s5:LS)(s6:LE)(s7:LC)(N:Nat)(k2:Option (Bool))(x19:LB):Lp (Nat×Int) (Nat×Nat) (Bool):=lpm ⟨[0,1,54,55,56],[0,1,2,3,4,5,6,7,8,9,10,11],[],[]⟩ (λ (n,v56)=>zgF s0 s1 s2 s3 s4 s5 s6 s7 N k2 x19 n v56) (λ (_,v56) (_,_)=>[.ptr 0 0, .ptr 1 0, .dat (zat x19), .dat (iN (List.length x19:Int)), .dat (iN v56)]) (λ (_,_) (m0,m1)=>[.box [.ptr 2 0, .rs 3 m0], .box [.ptr 4 0, .rs 5 m1], .box [.mp 6, .mp 7, .mp 8],(rW s0), .box [.mp 9, .mp 10, .mp 11],(rW s1),(sW [7] s2),(eW s3),(mW s4),(sW [10] s5),(eW s6),(mW s7)]) λ (_,_)=>(List.length s0,List.length s1)
instance Ef41_4 {s0 s1 s2 s3 s4 s5 s6 s7 N k2 x19 n v56}:IsLp 2 1 (zgF s0 s1 s2 s3 s4 s5 s6 s7 N k2 x19 n v56) (zuN s0 s1 s2 s3 s4 s5 s6 s7 N k2 x19) (n,v56):=⟨rfl⟩
def f41b (self:LB->LB->LS->LE->LC->LS->LE->LC->Option (Bool))(N:Nat)(s0:LB)(s1:LB)(s2:LS)(s3:LE)(s4:LC)(s5:LS)(s6:LE)(s7:LC):Option (Bool) :=
 (f23 N s0 s2 s3 s4).bind λ x1 =>
 (f23 N s1 s5 s6 s7).bind λ x2 =>
 bif decide (¬ x1=x2) then (some (false))
 else ((f21 N s0 s2 s3 s4).bind λ x3 =>
 (f21 N s1 s5 s6 s7).bind λ x4 =>
 (f20 N x3 x4).bind λ x5 =>
 bif !x5 then (some (false))
 else (zau (zfg s0 s1 s2 s3 s4 s5 s6 s7 N) λ k2 =>
 (f27 N ).bind λ x19 =>
 zgF s0 s1 s2 s3 s4 s5 s6 s7 N k2 x19 N (0:Int)))
def f41:Nat->LB->LB->LS->LE->LC->LS->LE->LC->Option (Bool)
 | 0,_,_,_,_,_,_,_,_=>none
 | N+1,s0,s1,s2,s3,s4,s5,s6,s7=>f41b (f41 N) N s0 s1 s2 s3 s4 s5 s6 s7
def Af41 (s0:LB)(s1:LB)(s2:LS)(s3:LE)(s4:LC)(s5:LS)(s6:LE)(s7:LC):List SV:=[.ptr 0 0, .ptr 1 0]
def Bf41 (s0:LB)(s1:LB)(s2:LS)(s3:LE)(s4:LC)(s5:LS)(s6:LE)(s7:LC):List Blk:=[.box [.ptr 2 0, .rs 3 (List.length s0)], .box [.ptr 4 0, .rs 5 (List.length s1)], .box [.mp 6, .mp 7, .mp 8],(rW s0), .box [.mp 9, .mp 10, .mp 11],(rW s1),(sW [7] s2),(eW s3),(mW s4),(sW [10] s5),(eW s6),(mW s7)]
def Rf41 (y:Bool):List SV:=[.kb y]
def B1f41 (s0:LB)(s1:LB)(s2:LS)(s3:LE)(s4:LC)(s5:LS)(s6:LE)(s7:LC)(y:Bool):List Blk:=[.box [.ptr 2 0, .rs 3 (List.length s0)], .box [.ptr 4 0, .rs 5 (List.length s1)], .box [.mp 6, .mp 7, .mp 8],(rW s0), .box [.mp 9, .mp 10, .mp 11],(rW s1),(sW [7] s2),(eW s3),(mW s4),(sW [10] s5),(eW s6),(mW s7)]
def BZf41 (y:Bool):List Blk:=[]
def zrI:Spec (LB×LB×LS×LE×LC×LS×LE×LC) (Bool):=⟨12,[],λ x=>Af41 x.1 x.2.1 x.2.2.1 x.2.2.2.1 x.2.2.2.2.1 x.2.2.2.2.2.1 x.2.2.2.2.2.2.1 x.2.2.2.2.2.2.2,λ x=>Bf41 x.1 x.2.1 x.2.2.1 x.2.2.2.1 x.2.2.2.2.1 x.2.2.2.2.2.1 x.2.2.2.2.2.2.1 x.2.2.2.2.2.2.2,λ _ y=>Rf41 y,λ x y=>B1f41 x.1 x.2.1 x.2.2.1 x.2.2.2.1 x.2.2.2.2.1 x.2.2.2.2.2.1 x.2.2.2.2.2.2.1 x.2.2.2.2.2.2.2 y,λ _ y=>BZf41 y⟩
def H41 (N:Nat)(x:LB×LB×LS×LE×LC×LS×LE×LC)(y:Bool):Prop:=f41 N x.1 x.2.1 x.2.2.1 x.2.2.2.1 x.2.2.2.2.1 x.2.2.2.2.2.1 x.2.2.2.2.2.2.1 x.2.2.2.2.2.2.2=some y
def G41 (x:LB×LB×LS×LE×LC×LS×LE×LC)(y:Bool):Prop:=∃ N,H41 N x y
theorem G41.step {s0 s1 s2 s3 s4 s5 s6 s7}{A:_->Option ρ}(ha:xs=[.ptr k0 0, .ptr k1 0])(b0:m k0 = .box [.ptr k2 0, .rs k3 m0])(b1:m k1 = .box [.ptr k4 0, .rs k5 m1])(b2:m k2 = .box [.mp k6, .mp k7, .mp k8])(b3:m k3=(rW s0))(b4:m k4 = .box [.mp k9, .mp k10, .mp k11])(b5:m k5=(rW s1))(b6:m k6=(sW [k7] s2))(b7:m k7=(eW s3))(b8:m k8=(mW s4))(b9:m k9=(sW [k10] s5))(b10:m k10=(eW s6))(b11:m k11=(mW s7))(em0:m0=List.length s0)(em1:m1=List.length s1)(hu:True)(hn:zaU [k0,k1,k2,k3,k4,k5,k6,k7,k8,k9,k10,k11]=true)(h:∀ y,A y=some q->K ⟨.kb y,[(k0, .box [.ptr k2 0, .rs k3 (List.length s0)]),(k1, .box [.ptr k4 0, .rs k5 (List.length s1)]),(k2, .box [.mp k6, .mp k7, .mp k8]),(k3,(rW s0)),(k4, .box [.mp k9, .mp k10, .mp k11]),(k5,(rW s1)),(k6,(sW [k7] s2)),(k7,(eW s3)),(k8,(mW s4)),(k9,(sW [k10] s5)),(k10,(eW s6)),(k11,(mW s7))]⟩ ([Loc.b k0,Loc.b k1,Loc.b k2,Loc.b k3,Loc.b k4,Loc.b k5,Loc.b k6,Loc.b k7,Loc.b k8,Loc.b k9,Loc.b k10,Loc.b k11]++l))(hF:(f41 N s0 s1 s2 s3 s4 s5 s6 s7).bind A=some q):effPg zrI (G41) xs id (λ _=>SV.no) m l K:=by
 subst em0 em1;obtain⟨y,hy,hA⟩:=bind_some hF;exact zaH [k0,k1,k2,k3,k4,k5,k6,k7,k8,k9,k10,k11] (s0,s1,s2,s3,s4,s5,s6,s7) y _ ⟨N,hy⟩ rfl hn ha (by simp only[List.map_cons,List.map_nil,b0,b1,b2,b3,b4,b5,b6,b7,b8,b9,b10,b11];rfl) rfl rfl rfl (h y hA)
def Srf41:Ann:=⟨[0],[0,1,2,3,4,5,6,7,8,9,10,11],[],[]⟩
def zx7:Ann:=⟨[0],[0,1,2,3,4,5,6,7,8,9,10,11],[],[]⟩

end Go.Vc
