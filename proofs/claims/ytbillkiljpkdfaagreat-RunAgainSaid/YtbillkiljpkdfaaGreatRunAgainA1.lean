/- Part of a proof about the given program: the abstract machine, the printed functions, the plain laws. -/
import Derived.Calls
import Derived.Orders
import Derived.Laws.Append
import Derived.Laws.World
import Derived.Laws.Cells
import Derived.Laws.Entries
import Derived.Laws.StructEq
import Derived.Laws.Build
import Derived.Laws.Strings
import Derived.Laws.Tables
import Derived.Laws.Slices
import Derived.Laws.MakeOwn
import Derived.Laws.IdiomStrings
import Derived.Laws.BytesString
import Derived.MapKept
import Derived.WideMake
import Derived.Laws.IdiomCopy
set_option linter.all false
set_option maxRecDepth 100000
set_option maxHeartbeats 4000000
namespace Go.AM
open Go
theorem oM {p:Prop} (h:p:=by omega):p:=h
theorem sM {p:Prop} (h:p:=by simp):p:=h
theorem dM {p:Prop} (h:p:=by decide):p:=h
theorem sJ {α:Type} (a b:α):(some a=some b)=(a=b):=Option.some.injEq a b
theorem pJ {α β:Type} (a:α) (b:β) (c:α) (d:β):((a,b)=(c,d))=(a=c/\b=d):=Prod.mk.injEq a b c d
theorem oJ {α β:Type} {f:Option α} {g:α->Option β}:(f>>=g)=f.bind g:=rfl
theorem bJ {α β:Type} {x:α} {g:α->Option β}:(some x).bind g=g x:=rfl
theorem fJ:(false=true)=False:=Bool.false_eq_true
inductive D where
 |bool (b:Bool)
 |int (k:IntKind) (n:Int)
 |str (s:List UInt8)
 |list (sz:Nat) (xs:List D)
 |agg (cs:List D)
 |iface (t:Nat) (d:D)
 |nilIface
 deriving Inhabited
inductive Loc where
 |tmp (t:Nat)
 |cell (b off:Nat)
 deriving DecidableEq
inductive MV where
 |d (x:D)
 |fn (f:Nat) (caps:List Nat)
 deriving Inhabited
inductive C where
 |d (x:D)
 |own (sz:Nat) (xs:List D)
 |ptr (b off:Nat)
 |nilptr
 |fn (f:Nat) (caps:List Nat)
 |nilfn
 |bfn (f:Nat) (x:D)
 |nilmap
 |nilchan
 |nilsl (sz:Nat)
 |full (sz:Nat) (xs:List D)
 |arr (b n sz:Nat)
 |mp (b:Nat)
 |ment (kvs:List (D×MV))
 |mdat (l:List (D×D))
 |seq (sz:Nat) (ds:List D)
 |hid
 |undef
 deriving Inhabited
def MV.toC:MV->C
 |.d x=>.d x
 |.fn f caps=>.fn f caps
def MV.ids:MV->List Nat
 |.d _=>[]
 |.fn _ caps=>caps
def dmv (x:D×D):D×MV:=(x.1,.d x.2)
def mapOf:List C->Option (List (D×MV))
 | [.ment kvs]=>some kvs
 | [.mdat l]=>some (l.map dmv)
 |_=>none
inductive V where
 |c (x:C)
 |view (l:Loc) (sz:Nat) (xs:List D)
 |rptr (cells:List D)
 |vagg (cs:List C)
 |vtup (n:Nat) (cs:List C)
 |tuple (cs:List C)
 deriving Inhabited
abbrev V.d (x:D):V:=.c (.d x)
def D.cells:D->List D
 |.agg cs=>cs
 |x=>[x]
def C.toD:C->Option D
 |.d x=>some x
 |.own sz xs=>some (.list sz xs)
 |.nilsl sz=>some (.list sz [])
 |.full sz xs=>some (.list sz xs)
 |_=>none
def C.plain:C->C
 |.own sz xs=>.d (.list sz xs)
 |x=>x
def AjI:List C->Option (List D)
 | []=>some []
 |c::r=>match c.toD,AjI r with
  |some x,some xs=>some (x::xs)
  |_,_=>none
def V.toD:V->Option D
 |.c x=>x.toD
 |.view _ sz xs=>some (.list sz xs)
 |.vagg cs=>(AjI cs).map .agg
 |_=>none
def V.cells:V->Option (List C)
 |.c (.d (.agg cs))=>some (cs.map .d)
 |.c .undef=>none
 |.c .hid=>none
 |.c x=>some [x]
 |.view _ sz xs=>some [.d (.list sz xs)]
 |.vagg cs=>some cs
 |_=>none
mutual
def D.ofValue:Value->Option D
 |.bool b=>some (.bool b)
 |.int k n=>some (.int k n)
 |.string s=>some (.str s.data.toList)
 |.nilIface=>some .nilIface
 |_=>none
end
def C.ofValue:Value->Option C
 |.pointer none=>some .nilptr
 |.nilFunc=>some .nilfn
 |.chan none=>some .nilchan
 |.map none=>some .nilmap
 |.slice none 0 0=>some (.nilsl 0)
 |v=>(D.ofValue v).map .d
def uO:List Value->Option (List C)
 | []=>some []
 |v::r=>match C.ofValue v,uO r with
  |some c,some cs=>some (c::cs)
  |_,_=>none
def C.isNilsl:C->Bool
 |.nilsl _=>true
 |.full _ _=>true
 |_=>false
def Ar9 (cs:List C):V:=if cs.any C.isNilsl then .vagg cs else match AjI cs with
 |some ds=>.d (.agg ds)
 |none=>.vagg cs
def V.ofValue:Value->Option V
 |.agg vs=>(uO vs.toList).map Ar9
 |v=>(C.ofValue v).map .c
structure St where
 tmps:List (Nat×V)
 heap:List (Nat×List C)
 nid:Nat
 defers:List (Nat×List Nat)
 pan:Option D
def look {α:Type} (k:Nat):List (Nat×α)->Option α
 | []=>none
 |(j,v)::r=>if j=k then some v else look k r
def upd {α:Type} (k:Nat) (v:α):List (Nat×α)->List (Nat×α)
 | []=>[(k,v)]
 |(j,u)::r=>if j=k then (k,v)::r else (j,u)::upd k v r
def ev (tm:List (Nat×V)):Operand->Option V
 |.tmp t=>look t tm
 |.const v=>V.ofValue v
 |.global _=>none
 |.func f=>some (.c (.fn f []))
def tsz (P:Program) (t:TypeId):Option Nat:=(P.info? t).map (·.size)
def Ag2 (P:Program) (t:TypeId):Option Bool:=
 match P.underlying t with
 |some (.struct _)|some (.array _ _)=>some true
 |some _=>some false
 |none=>none
def nK (P:Program) (t:TypeId):Option TypeId:=
 match P.underlying t with
 |some (.slice e)=>some e
 |_=>none
def evT (P:Program) (t:TypeId) (tm:List (Nat×V)) (x:Operand):Option V:=
 match ev tm x with
 |some (.c (.nilsl n))=>match nK P t with
  |some e=>match tsz P e with
   |some m=>some (.c (.nilsl m))
   |none=>none
  |none=>some (.c (.nilsl n))
 |r=>r
def zE (P:Program):Nat->TypeId->Nat->List C->List C
 |0,_,_,cs=>cs
 |k+1,t,off,cs=>match P.underlying t with
  |some (.slice e)=>match cs[off]?,tsz P e with
   |some (.nilsl _),some n=>cs.set off (.nilsl n)
   |_,_=>cs
  |some (.struct fs)=>fs.toList.foldl (λcs f=>zE P k f.type (off+f.offset) cs) cs
  |_=>cs
def C.placed:C->C
 |.own sz xs=>.d (.list sz xs)
 |.nilsl n=>.own n []
 |.full n xs=>.own n xs
 |x=>x
def AdB (P:Program) (t:TypeId):Option V:=
 match P.info? t with
 |some i=>match i.zero with
  |some v=>V.ofValue v
  |none=>none
 |none=>none
def AqY (P:Program) (t:TypeId) (i:Nat):Option (Nat×TypeId):=
 match P.underlying t with
 |some (.struct fs)=>match fs[i]? with
  |some f=>some (f.offset,f.type)
  |none=>none
 |_=>none
def room:Nat:=1099511627776
def bytesLess:List UInt8->List UInt8->Bool:=Go.Op.bytesLess
def BbX (op:BinOp) (a b:List UInt8):Option D:=
 match op with
 |.add=>if a.length+b.length<=room then some (.str (a++b)) else none
 |.eql=>some (.bool (a==b))
 |.neq=>some (.bool !(a==b))
 |.lss=>some (.bool (bytesLess a b))
 |.leq=>some (.bool (bytesLess a b||a==b))
 |.gtr=>some (.bool !(bytesLess a b||a==b))
 |.geq=>some (.bool !(bytesLess a b))
 |_=>none
def AxL (op:BinOp) (k:IntKind) (a b:Int):Option D:=
 match op with
 |.add=>some (.int k (k.wrap (a+b)))
 |.sub=>some (.int k (k.wrap (a-b)))
 |.mul=>some (.int k (k.wrap (a*b)))
 |.quo=>if b=0 then none else some (.int k (k.wrap (a.tdiv b)))
 |.rem=>if b=0 then none else some (.int k (a.tmod b))
 |.and=>some (.int k (k.wrap (BitVec.ofInt k.bits a &&& BitVec.ofInt k.bits b).toNat))
 |.or=>some (.int k (k.wrap (BitVec.ofInt k.bits a |||BitVec.ofInt k.bits b).toNat))
 |.xor=>some (.int k (k.wrap (BitVec.ofInt k.bits a ^^^ BitVec.ofInt k.bits b).toNat))
 |.andNot=>some (.int k (k.wrap (BitVec.ofInt k.bits a &&& ~~~(BitVec.ofInt k.bits b)).toNat))
 |.eql=>some (.bool (a==b))
 |.neq=>some (.bool (a != b))
 |.lss=>some (.bool (decide (a<b)))
 |.leq=>some (.bool (decide (a<=b)))
 |.gtr=>some (.bool (decide (a>b)))
 |.geq=>some (.bool (decide (a>=b)))
 |_=>none
def AoL (op:BinOp) (k:IntKind) (a b:Int):Option D:=
 if b<0 then none else
 match op with
 |.shl=>some (.int k (k.wrap (a*2 ^ (min b.toNat k.bits))))
 |.shr=>some (.int k (a.fdiv (2 ^ (min b.toNat k.bits))))
 |_=>none
def eqT (P:Program) (t:TypeId) (x y:D):Option Bool:=
 match P.underlying t,x,y with
 |some .bool,.bool a,.bool b=>some (a==b)
 |some (.int _),.int j a,.int k b=>if j=k then some (a==b) else none
 |some .string,.str a,.str b=>some (a==b)
 |_,_,_=>none
def AzQ (P:Program):List Field->List D->List D->Option Bool
 | [],_,_=>some true
 |f::fs,xs,ys=>match xs[f.offset]?,ys[f.offset]? with
  |some x,some y=>match eqT P f.type x y,AzQ P fs xs ys with
   |some a,some b=>if f.name = "_" then none else some (a&&b)
   |_,_=>none
  |_,_=>none
def BcK (P:Program) (t:TypeId):V->V->Option Bool
 |.c (.d (.bool a)),.c (.d (.bool b))=>match P.underlying t with
  |some .bool=>some (a==b)
  |_=>none
 |.c (.d (.agg xs)),.c (.d (.agg ys))=>match P.underlying t with
  |some (.struct fs)=>if P.stoodInHeld t||P.eqGuardType P.depth t then none else AzQ P fs.toList xs ys
  |_=>none
 |.c (.ptr _ _),.c .nilptr=>match P.underlying t with
  |some (.pointer _)=>some false
  |_=>none
 |.c .nilptr,.c .nilptr=>match P.underlying t with
  |some (.pointer _)=>some true
  |_=>none
 |.c (.mp _),.c .nilmap=>match P.underlying t with
  |some (.map _ _)=>some false
  |_=>none
 |.c .nilmap,.c .nilmap=>match P.underlying t with
  |some (.map _ _)=>some true
  |_=>none
 |x,.c (.nilsl _)=>match P.underlying t,x with
  |some (.slice _),.c (.nilsl _)=>some true
  |some (.slice _),x=>match x.toD with
   |some (.list _ (_::_))=>some false
   |_=>none
  |_,_=>none
 |.c (.d (.iface _ _)),.c (.d .nilIface)=>match P.underlying t with
  |some (.interface _)=>some false
  |_=>none
 |.c (.d .nilIface),.c (.d .nilIface)=>match P.underlying t with
  |some (.interface ms)=>if ms.isEmpty then some true else none
  |_=>none
 |_,_=>none
def AwG (P:Program) (op:BinOp) (t:TypeId) (x y:V):Option D:=
 match op,x,y with
 |.shl,.c (.d (.int k a)),.c (.d (.int _ b))=>AoL .shl k a b
 |.shr,.c (.d (.int k a)),.c (.d (.int _ b))=>AoL .shr k a b
 |op,.c (.d (.int k a)),.c (.d (.int k' b))=>if k=k' then AxL op k a b else none
 |op,.c (.d (.str a)),.c (.d (.str b))=>BbX op a b
 |.eql,x,y=>(BcK P t x y).map .bool
 |.neq,x,y=>(BcK P t x y).map λb=>.bool !b
 |_,_,_=>none
def unV (op:UnOp):V->Option D
 |.c (.d (.int k n))=>match op with
  |.neg=>some (.int k (k.wrap (0-n)))
  |.xor=>some (.int k (k.wrap (BitVec.ofInt k.bits (if k.signed then -1 else k.max) ^^^ BitVec.ofInt k.bits n).toNat))
  |_=>none
 |.c (.d (.bool b))=>match op with
  |.not=>some (.bool !b)
  |_=>none
 |_=>none
def AcB (b:UInt8):D:=.int .u8 b.toNat
def yA:List D->Option (List UInt8)
 | []=>some []
 |.int .u8 n::r=>(yA r).map (UInt8.ofNat n.toNat::·)
 |_::_=>none
def AwN (P:Program) (src dst:TypeId) (x:V):Option C:=
 match P.underlying src,P.underlying dst,x with
 |some _,some (.int k),.c (.d (.int _ n))=>some (.d (.int k (k.wrap n)))
 |some _,some .string,.c (.d (.str s))=>some (.d (.str s))
 |some _,some .string,.c (.d (.int _ n))=>some (.d (.str (Utf8.encode n).data.toList))
 |some .string,some (.slice e),.c (.d (.str s))=>match P.underlying e with
  |some (.int .u8)=>if s.length<=room/\tsz P e=some 1 then some (.own 1 (s.map AcB)) else none
  |_=>none
 |some (.slice e),some .string,x=>match P.underlying e,x.toD with
  |some (.int .u8),some (.list 1 xs)=>(yA xs).map λl=>.d (.str l)
  |_,_=>none
 |_,_,_=>none
def gN (tm:List (Nat×V)):Option Operand->Nat->Option Nat
 |none,dflt=>some dflt
 |some o,_=>match ev tm o with
  |some (.c (.d (.int _ n)))=>if 0<=n then some n.toNat else none
  |_=>none
def AhS (P:Program) (t:TypeId) (x:V) (lo hi:Nat) (full:Bool):Option C:=
 match P.underlying t,x.toD with
 |some .string,some (.str s)=>if lo<=hi/\hi<=s.length/\full=false then some (.d (.str ((s.take hi).drop lo))) else none
 |some (.slice e),some (.list sz xs)=>if lo<=hi/\hi<=xs.length/\tsz P e=some sz then
  some (if full then .full sz ((xs.take hi).drop lo) else .d (.list sz ((xs.take hi).drop lo))) else none
 |_,_=>none
def AuZ (P:Program) (t:TypeId) (x:V):Option Nat:=
 match x with
 |.c (.arr _ n _)=>match P.underlying t with
  |some (.slice _)=>some n
  |_=>none
 |x=>match P.underlying t,x.toD with
 |some .string,some (.str s)=>some s.length
 |some (.slice _),some (.list _ xs)=>some xs.length
 |_,_=>none
def Bb4 (cells:List C) (off:Nat):List C->List C
 | []=>cells
 |c::r=>Bb4 (cells.set off c) (off+1) r
def Aa0 (P:Program) (t:TypeId) (tm:List (Nat×V)):List (Nat×Operand)->List C->Option (List C)
 | [],cells=>some cells
 |(i,o)::r,cells=>match AqY P t i with
  |some (off,ft)=>match (evT P ft tm o).bind V.cells,tsz P ft with
   |some cs,some n=>if cs.length=n/\off+cs.length<=cells.length then
    Aa0 P t tm r (Bb4 cells off (cs.map C.plain)) else none
   |_,_=>none
  |none=>none
def AoW (cs:List C):V:=match AjI cs with
 |some ds=>.d (.agg ds)
 |none=>.vagg cs
def vS (P:Program) (e:TypeId) (sz:Nat) (tm:List (Nat×V)):Nat->List (Nat×Operand)->Option (List D)
 |_,[]=>some []
 |n,(i,o)::r=>if i=n then match (evT P e tm o).bind V.toD,vS P e sz tm (n+1) r with
   |some d,some ds=>if d.cells.length=sz then some (d::ds) else none
   |_,_=>none
  else none
def C.ids:C->List Nat
 |.ptr b _=>[b]
 |.arr b _ _=>[b]
 |.mp b=>[b]
 |.ment kvs=>kvs.flatMap λx=>x.2.ids
 |.fn _ caps=>caps
 |_=>[]
def rW (heap:List (Nat×List C)):Nat->List Nat->List Nat->Option (List Nat)
 |0,_,_=>none
 |_+1,[],seen=>some seen
 |n+1,b::r,seen=>if b∈seen then rW heap n r seen else
  match look b heap with
  |some cells=>rW heap n (r++cells.flatMap C.ids) (seen++[b])
  |none=>none
def AuV:D->Bool
 |.agg _=>false
 |_=>true
def fL (ds:List D):List C:=ds.flatMap λd=>d.cells.map C.d
def fK:List C->List C
 | [.seq _ ds]=>fL ds
 |cs=>cs
def yG (b:Nat) (h:List (Nat×List C)):Option (List C):=
 match look b h with
 |some cs=>match mapOf cs with
  |none=>match cs with
   | [.seq _ ds]=>some (fL ds)
   |cs=>some cs
  |some _=>none
 |none=>none
def AwP:List C->Option (List D)
 | []=>some []
 |.d x::r=>(AwP r).map (x::·)
 |_::_=>none
def mkE:List D->D
 | [d]=>d
 |ds=>.agg ds
def AhQ (sz off:Nat) (ds:List D) (cs:List C):Option (List D):=
 match AwP cs,ds[off / sz]? with
 |some xs,some d=>if 0<xs.length/\off % sz+xs.length<=sz/\xs.all AuV=true then
  some (ds.set (off / sz) (if xs.length=sz then mkE xs else mkE (d.cells.take (off % sz)++xs++d.cells.drop (off % sz+xs.length)))) else none
 |_,_=>none
def idx (b:Nat):List Nat->Nat->Option Nat
 | [],_=>none
 |x::r,n=>if x=b then some n else idx b r (n+1)
def aY {α β:Type} (f:α->Option β):List α->Option (List β)
 | []=>some []
 |x::r=>match f x,aY f r with
  |some y,some ys=>some (y::ys)
  |_,_=>none
def MV.thru (f:Nat->Option Nat):MV->Option MV
 |.d x=>some (.d x)
 |.fn g caps=>(aY f caps).map (.fn g)
def AnY (f:Nat->Option Nat) (x:D×MV):Option (D×MV):=(x.2.thru f).map λm=>(x.1,m)
def C.into (ids:List Nat):C->Option C
 |.ptr b off=>(idx b ids 0).map λi=>.ptr i off
 |.arr b n sz=>(idx b ids 0).map λi=>.arr i n sz
 |.mp b=>(idx b ids 0).map λi=>.mp i
 |.ment kvs=>(aY (AnY λb=>idx b ids 0) kvs).map .ment
 |.fn f caps=>(aY (λb=>idx b ids 0) caps).map (.fn f)
 |x=>some x
def C.back (ids:List Nat):C->Option C
 |.ptr i off=>match ids[i]? with
  |some b=>some (.ptr b off)
  |none=>none
 |.arr i n sz=>match ids[i]? with
  |some b=>some (.arr b n sz)
  |none=>none
 |.mp i=>match ids[i]? with
  |some b=>some (.mp b)
  |none=>none
 |.ment kvs=>(aY (AnY λ(i:Nat)=>ids[i]?) kvs).map .ment
 |.fn f caps=>(aY (λ(i:Nat)=>ids[i]?) caps).map (.fn f)
 |x=>some x
inductive aF where
 |ret (v:V) (heap:List (List C))
 |pan (d:D) (heap:List (List C))
abbrev Call:=Nat->List C->List (List C)->Option aF
def AfY:V->Option C
 |.c x=>some x.plain
 |.view _ sz xs=>some (.d (.list sz xs))
 |.vagg cs=>(AjI cs).map λds=>.d (.agg ds)
 |_=>none
def pF (P:Program) (tm:List (Nat×V)):List Operand->List TypeId->Option (List C)
 | [],_=>some []
 |x::r,ts=>match (evT P (ts.headD 0) tm x).bind AfY,pF P tm r ts.tail with
  |some c,some cs=>some (c::cs)
  |_,_=>none
def C.still:C->C
 |.own sz xs=>.d (.list sz xs)
 |.nilsl n=>.d (.list n [])
 |.full n xs=>.d (.list n xs)
 |x=>x
def Ao5 (P:Program) (t:TypeId):V->V
 |.vagg cs=>.vagg ((zE P 4 t 0 cs).map C.still)
 |x=>x
inductive gR where
 |val (v:V) (s:St)
 |pan (d:D) (s:St)
def V.back (ids:List Nat):V->Option V
 |.c x=>(C.back ids x).map .c
 |.vagg cs=>(aY (C.back ids) cs).map .vagg
 |.vtup n cs=>(aY (C.back ids) cs).map (.vtup n)
 |.tuple cs=>(aY (C.back ids) cs).map .tuple
 |x=>some x
def V.into (ids:List Nat):V->Option V
 |.c x=>(C.into ids x).map .c
 |.vagg cs=>(aY (C.into ids) cs).map .vagg
 |.vtup n cs=>(aY (C.into ids) cs).map (.vtup n)
 |.tuple cs=>(aY (C.into ids) cs).map .tuple
 |x=>some x
def bD:Nat->Nat->List Nat
 |_,0=>[]
 |n,k+1=>n::bD (n+1) k
def dT:List Nat->List (List C)->List (Nat×List C)->List (Nat×List C)
 |b::bs,c::cs,h=>dT bs cs (upd b c h)
 |_,_,h=>h
def unviewIn (ids:List Nat):List (Nat×V)->List (Nat×V)
 | []=>[]
 |(t,.view (.cell b off) sz xs)::r=>(t,if b∈ids then .d (.list sz xs) else .view (.cell b off) sz xs)::unviewIn ids r
 |x::r=>x::unviewIn ids r
def pG (heap:List (Nat×List C)) (ids:List Nat):Option (List (List C)):=
 aY (λb=>(look b heap).bind (aY (C.into ids))) ids
def rI:Operand->Operand->Bool
 |.tmp a,.tmp b=>a==b
 |_,_=>false
def mU (call:Call) (f:Nat) (args:List C) (s:St):Option (gR×List Nat):=
 match rW s.heap 64 (args.flatMap C.ids) [] with
 |none=>none
 |some ids=>
  match aY (C.into ids) args,pG s.heap ids with
  |some args',some lh=>
   match call f args' lh with
   |some (.ret v lh')=>
    match aY (aY (C.back (ids++bD s.nid (lh'.length-ids.length)))) lh',V.back (ids++bD s.nid (lh'.length-ids.length)) v with
    |some lh'',some v'=>some (.val v' { s with tmps:=unviewIn (ids++bD s.nid (lh'.length-ids.length)) s.tmps,heap:=dT (ids++bD s.nid (lh'.length-ids.length)) lh'' s.heap,nid:=s.nid+(lh'.length-ids.length) },ids)
    |_,_=>none
   |some (.pan d lh')=>
    match aY (aY (C.back ids)) lh' with
    |some lh''=>some (.pan d { s with tmps:=unviewIn ids s.tmps,heap:=dT ids lh'' s.heap },ids)
    |none=>none
   |none=>none
  |_,_=>none
def isIface (P:Program) (t:TypeId):Bool:=
 match P.underlying t with
 |some (.interface _)|none=>false
 |_=>true
def Ba2 (P:Program) (t:TypeId):Option (TypeId×TypeId):=
 match P.underlying t with
 |some (.map k e)=>match P.underlying k with
  |some (.int _)=>some (k,e)
  |some .string=>some (k,e)
  |_=>none
 |_=>none
def AxP (P:Program) (k:TypeId) (x:D):Bool:=
 match P.underlying k,x with
 |some (.int j),.int k _=>decide (k=j)
 |some .string,.str _=>true
 |_,_=>false
def Al2:D->D->Option Bool
 |.int j a,.int k b=>if j=k then some (a==b) else none
 |.str a,.str b=>some (a==b)
 |_,_=>none
def AdV (k:D):List (D×MV)->Option (Option MV)
 | []=>some none
 |(k',m)::r=>match Al2 k k' with
  |some true=>some (some m)
  |some false=>AdV k r
  |none=>none
def AlR (k:D) (m:MV):List (D×MV)->Option (List (D×MV))
 | []=>some [(k,m)]
 |(k',m')::r=>match Al2 k k' with
  |some true=>some ((k,m)::r)
  |some false=>(AlR k m r).map ((k',m')::·)
  |none=>none
def AjD (ok:Bool) (c:C) (b:Bool):V:=if ok then .tuple [c,.d (.bool b)] else .c c
def Ar5 (P:Program) (e:TypeId):Option C:=match AdB P e with
 |some (.c (.own _ _))=>none
 |some (.c (.nilsl _))=>none
 |some (.c (.full _ _))=>none
 |some (.c c)=>some c
 |_=>none
def AnQ (P:Program) (e:TypeId) (ok:Bool) (k:D) (kvs:List (D×MV)):Option V:=
 match AdV k kvs with
 |some (some m)=>some (AjD ok m.toC true)
 |some none=>(Ar5 P e).map λc=>AjD ok c false
 |none=>none
def MV.of:V->Option MV
 |.c (.fn f caps)=>some (.fn f caps)
 |v=>v.toD.map .d
def AsT:Nat->List (Nat×Operand)->Option (List Nat)
 |_,[]=>some []
 |n,(i,.func g)::r=>if i=n then (AsT (n+1) r).map (g::·) else none
 |_,_=>none
def AmD:List (Nat×Operand)->Option (List Nat)
 | []=>none
 |(i,x)::r=>match x with
  |.func _=>AsT 0 ((i,x)::r)
  |_=>none
def Bj9 (P:Program) (id:Nat) (t:TypeId) (len:Nat) (gs:List Nat):Option (V×Option (List C)):=
 match nK P t with
 |some e=>match tsz P e with
  |some 1=>if gs.length=len/\len<=16777216/\(AdB P e).isSome=true then some (.c (.arr id len 1),some (gs.map λg=>.fn g [])) else none
  |_=>none
 |none=>none
def AbA:Nat->List C->Bool
 |0,_=>false
 |_,[]=>false
 |n+1,c::r=>match c with
  |.hid=>true
  |_=>AbA n r
def evR (P:Program) (id:Nat) (o:Oper) (tm:List (Nat×V)) (hp:List (Nat×List C)):Option (V×Option (List C)):=
 match o.op with
 |.move x=>match evT P o.type tm x with
  |some (.c (.own sz xs))=>match x with
    |.tmp t=>some (.view (.tmp t) sz xs,none)
    |_=>none
  |some v=>some (v,none)
  |none=>none
 |.pick c a b=>match ev tm c,evT P o.type tm a,evT P o.type tm b with
  |some (.c (.d (.bool t))),some x,some y=>match AfY x,AfY y with
    |some x,some y=>some (.c (if t then x else y),none)
    |_,_=>none
  |_,_,_=>none
 |.alloc t=>match AdB P t with
  |some v=>match v.cells with
    |some cs=>some (.c (.ptr id 0),some ((zE P 4 t 0 cs).map C.placed))
    |none=>none
  |none=>none
 |.box t x=>match evT P t tm x with
  |some v=>match v.cells with
    |some cs=>some (.c (.ptr id 0),some (cs.map C.placed))
    |none=>none
  |none=>none
 |.build t parts=>match P.underlying t with
  |some (.struct fs)=>if fs.toList.all λf=>(P.info? f.type).isSome then match AdB P t with
     |some z=>match z.cells with
      |some cs=>match Aa0 P t tm parts.toList (zE P 4 t 0 cs) with
       |some cs=>some (Ar9 cs,none)
       |none=>none
      |none=>none
     |none=>none
    else none
  |_=>none
 |.buildSlice t len parts=>match AmD parts.toList with
  |some gs=>Bj9 P id t len gs
  |none=>match nK P t with
    |some e=>match tsz P e with
     |some n=>match vS P e n tm 0 parts.toList with
      |some ds=>if ds.length=len/\len*n<=16777216/\0<n/\(AdB P e).isSome then some (.c (.full n ds),none) else none
      |none=>none
     |none=>none
    |none=>none
 |.load t a=>match ev tm a with
  |some (.c (.ptr b off))=>match yG b hp,Ag2 P t,tsz P t with
    |some cs,some true,some n=>if off+n<=cs.length then match AbA n (cs.drop off) with
     |false=>some (AoW (((cs.drop off).take n).map C.plain),none)
     |true=>none
     else none
    |some cs,some false,_=>match cs[off]? with
     |some (.own sz xs)=>some (.view (.cell b off) sz xs,none)
     |some .hid=>none
     |some x=>some (.c x,none)
     |none=>none
    |_,_,_=>none
  |some (.rptr cs)=>match Ag2 P t,tsz P t with
    |some true,some n=>if n<=cs.length then some (.d (.agg (cs.take n)),none) else none
    |some false,_=>match cs with
     |x::_=>some (.d x,none)
     | []=>none
    |_,_=>none
  |_=>none
 |.nilCheck x=>match ev tm x with
  |some (.c (.ptr b off))=>some (.c (.ptr b off),none)
  |some (.rptr cs)=>some (.rptr cs,none)
  |some (.c (.fn f caps))=>some (.c (.fn f caps),none)
  |_=>none
 |.binOp op t x y _=>match evT P t tm x,evT P t tm y with
  |some a,some b=>match AwG P op t a b with
    |some d=>some (.d d,none)
    |none=>none
  |_,_=>none
 |.unOp op _ x=>match ev tm x with
  |some a=>match unV op a with
    |some d=>some (.d d,none)
    |none=>none
  |none=>none
 |.convert src dst x=>match evT P src tm x with
  |some a=>match AwN P src dst a with
    |some c=>some (.c c,none)
    |none=>none
  |none=>none
 |.makeInterface t x=>match evT P t tm x with
  |some a=>match isIface P t,a.toD with
    |true,some d=>some (.d (.iface t d),none)
    |_,_=>none
  |none=>none
 |.makeFunc fn first captured=>match fn with
  |.func f=>match first.toList with
   | [y]=>match captured.toList,(ev tm y).bind V.toD with
    | [],some x=>some (.c (.bfn f x),none)
    |_,_=>none
   |_=>if first.toList.isEmpty then
     match aY (λx=>match ev tm x with|some (.c (.ptr b 0))=>some b|_=>none) captured.toList with
     |some ids=>some (.c (.fn f ids),none)
     |none=>none
    else none
  |_=>none
 |.makeSlice t l c=>match nK P t,ev tm l,ev tm c with
  |some e,some (.c (.d (.int _ n))),some (.c (.d (.int _ m)))=>match ((AdB P e).map (Ao5 P e)).bind V.toD,tsz P e with
    |some z,some k=>if 0<=n/\n<=m/\m<=4294967296/\P.bytesOf e<=1024/\z.cells.length=k/\0<k then
      if rI l c then some (.c (.arr id n.toNat k),some [.seq k (List.replicate n.toNat z)]) else some (.c (.own k (List.replicate n.toNat z)),none) else none
    |_,_=>none
  |_,_,_=>none
 |.slice t x lo hi mx=>match evT P t tm x with
  |some a=>match AuZ P t a with
    |some n=>match gN tm lo 0,gN tm hi n,mx with
     |some l,some h,none=>(AhS P t a l h false).map λc=>(.c c,none)
     |some l,some h,some m=>match gN tm (some m) 0 with
      |some m=>if m=h/\hi.isSome then (AhS P t a l h true).map λc=>(.c c,none) else none
      |none=>none
     |_,_,_=>none
    |none=>none
  |none=>none
 |.fieldAddr t x i=>match AqY P t i,ev tm x with
  |some (off,ft),some (.c (.ptr b o))=>match tsz P ft with
    |some (_+1)=>some (.c (.ptr b (o+off)),none)
    |_=>none
  |some (off,ft),some (.rptr cs)=>match tsz P ft with
    |some (_+1)=>some (.rptr (cs.drop off),none)
    |_=>none
  |_,_=>none
 |.field t x i=>match AqY P t i,(ev tm x).bind V.toD with
  |some (off,ft),some (.agg cs)=>match Ag2 P ft,tsz P ft with
    |some true,some n=>if off+n<=cs.length then some (.d (.agg ((cs.drop off).take n)),none) else none
    |some false,_=>match cs[off]? with
     |some d=>some (.d d,none)
     |none=>none
    |_,_=>none
  |_,_=>none
 |.indexAddr t x i=>match nK P t,ev tm x,ev tm i with
  |some e,some (.c (.arr b len sz)),some (.c (.d (.int _ n)))=>if 0<=n/\n.toNat<len/\some sz=tsz P e then some (.c (.ptr b (n.toNat*sz)),none) else none
  |some e,some v,some (.c (.d (.int _ n)))=>match v.toD with
    |some (.list sz xs)=>if 0<=n/\some sz=tsz P e then match xs[n.toNat]? with
     |some d=>some (.rptr d.cells,none)
     |none=>none
     else none
    |_=>none
  |_,_,_=>none
 |.index t x i=>match P.underlying t,ev tm x,ev tm i with
  |some .string,some (.c (.d (.str s))),some (.c (.d (.int _ n)))=>if 0<=n then match s[n.toNat]? with
     |some b=>some (.d (AcB b),none)
     |none=>none
    else none
  |_,_,_=>none
 |.lookup t x k ok=>match Ba2 P t,ev tm x,(ev tm k).bind V.toD with
  |some (kt,e),some (.c (.mp b)),some kd=>if AxP P kt kd then match look b hp with
     |some cs=>match mapOf cs with
      |some kvs=>(AnQ P e ok kd kvs).map λv=>(v,none)
      |none=>none
     |none=>none
    else none
  |some (kt,e),some (.c .nilmap),some kd=>if AxP P kt kd then (AnQ P e ok kd []).map λv=>(v,none) else none
  |_,_,_=>none
 |.typeAssert x _ t ok=>match ev tm x with
  |some (.c (.d (.iface u d)))=>if u=t/\isIface P t=true then
     some (if ok then .tuple [.d d,.d (.bool true)] else .d d,none) else none
  |_=>none
 |.extract x i=>match ev tm x with
  |some (.tuple cs)=>match cs[i]? with
    |some c=>some (.c c.plain,none)
    |none=>none
  |some (.vtup n cs)=>match i with
    |0=>some (.vagg (cs.take n),none)
    |i+1=>match cs[n+i]? with
     |some c=>some (.c c.plain,none)
     |none=>none
  |_=>none
 |.call c=>match c.callee with
  |.builtin .len=>match c.args.toList,c.argTypes.toList with
    | [x],[t]=>match (ev tm x).bind (AuZ P t) with
     |some n=>some (.d (.int .i64 n),none)
     |none=>none
    |_,_=>none
  |.builtin .min=>match c.args.toList with
    | [x,y]=>match ev tm x,ev tm y with
     |some (.c (.d (.int k a))),some (.c (.d (.int _ b)))=>some (.d (.int k (if b<a then b else a)),none)
     |_,_=>none
    |_=>none
  |.builtin .max=>match c.args.toList with
    | [x,y]=>match ev tm x,ev tm y with
     |some (.c (.d (.int k a))),some (.c (.d (.int _ b)))=>some (.d (.int k (if a<b then b else a)),none)
     |_,_=>none
    |_=>none
  |_=>none
 |_=>none
def unview (l:Loc):List (Nat×V)->List (Nat×V)
 | []=>[]
 |(t,.view l' sz xs)::r=>(t,if l'=l then .d (.list sz xs) else .view l' sz xs)::unview l r
 |x::r=>x::unview l r
def pC (t:Nat) (v:V) (tm:List (Nat×V)):List (Nat×V):=
 match v with
 |.c (.own _ _)=>(t,v)::unview (.tmp t) tm
 |_=>(t,v)::tm
def plainAt (t:Nat):List (Nat×V)->List (Nat×V)
 | []=>[]
 |(j,v)::r=>if j=t then (match v with|.c (.own sz xs)=>(j,.d (.list sz xs))|_=>(j,v))::r else (j,v)::plainAt t r
def storeCells (hp:List (Nat×List C)) (b off:Nat) (cs:List C):Option (List (Nat×List C)):=
 match look b hp with
 |some [.seq sz ds]=>(AhQ sz off ds cs).map λds=>upd b [.seq sz ds] hp
 |_=>match yG b hp with
  |some cells=>if off+cs.length<=cells.length then match AbA cs.length (cells.drop off) with
   |false=>some (upd b (Bb4 cells off cs) hp)
   |true=>none
   else none
  |none=>none
def appended (x:V):Option (Nat×List D):=
 match x.toD with
 |some (.list sz xs)=>some (sz,xs)
 |some (.str s)=>some (1,s.map AcB)
 |_=>none
def iB (P:Program) (t:TypeId):Bool:=
 match P.underlying t with
 |some (.slice _)|some .string=>true
 |_=>false
def lV (P:Program) (e:TypeId) (n:Nat):Bool:=
 match AdB P e with
 |some z=>match z.cells with
  |some cs=>decide (cs.length=n)
  |none=>false
 |none=>false
def jP (P:Program) (t u:TypeId) (x y:Operand) (s:St):Option (V×St):=
 match nK P t,evT P t s.tmps x,(evT P u s.tmps y).bind appended with
 |some e,some v,some (sz',ys)=>match tsz P e,iB P u with
  |some n,true=>
   if sz'=n/\P.bytesOf e<=1024/\lV P e n=true then match v with
    |.c (.nilsl _)=>if ys.length<=4294967296 then some (.c (.own n ys),s) else none
    |.c (.full sz xs)=>if sz=n/\xs.length+ys.length<=4294967296 then some (.c (.own n (xs++ys)),s) else none
    |.c (.own sz xs)=>match x with
     |.tmp u=>if sz=n/\xs.length+ys.length<=4294967296 then
       some (.c (.own n (xs++ys)),{ s with tmps:=plainAt u s.tmps }) else none
     |_=>none
    |.view (.tmp u) sz xs=>match look u s.tmps with
     |some (.c (.own sz'' _))=>if sz''=n/\sz=n/\xs.length+ys.length<=4294967296 then
       some (.c (.own n (xs++ys)),{ s with tmps:=plainAt u s.tmps }) else none
     |_=>none
    |.view (.cell b off) sz xs=>match yG b s.heap with
     |some cells=>match cells[off]? with
      |some (.own sz'' _)=>if sz''=n/\sz=n/\xs.length+ys.length<=4294967296 then
       some (.c (.own n (xs++ys)),{ s with heap:=upd b (cells.set off (.d (.list sz xs))) s.heap }) else none
      |_=>none
     |none=>none
    |_=>none
   else none
  |_,_=>none
 |_,_,_=>none
def Am4 (P:Program) (t u:TypeId) (x y:Operand) (s:St):Option (V×St):=
 match nK P t,ev s.tmps x,(evT P u s.tmps y).bind appended with
 |some e,some (.c (.arr b n sz)),some (sz',ys)=>
  if tsz P e=some sz/\sz'=sz then match ys.length with
   |0=>some (.d (.int .i64 0),s)
   |m+1=>match look b s.heap with
    |some [.seq sz2 ds]=>if sz2=sz/\ds.length=n/\m+1<=n then some (.d (.int .i64 (m+1:Nat)),{ s with heap:=upd b [.seq sz (ys++ds.drop (m+1))] s.heap }) else none
    |_=>none
  else none
 |_,_,_=>none
structure eX where
 reads:List Nat
 writes:List Nat
 tmps:List Nat
def eX.none:eX:=⟨[],[],[]⟩
def cQ (o:Oper) (tm:List (Nat×V)):List Nat:=
 match o.op with
 |.load _ a=>match ev tm a with
  |some (.c (.ptr b _))=>[b]
  |_=>[]
 |.lookup _ a _ _=>match ev tm a with
  |some (.c (.mp b))=>[b]
  |_=>[]
 |_=>[]
def bS (x:Operand) (tm:List (Nat×V)):eX:=
 match x,ev tm x with
 |.tmp u,some (.c (.own _ _))=>⟨[],[],[u]⟩
 |_,some (.view (.tmp u) _ _)=>⟨[],[],[u]⟩
 |_,some (.view (.cell b _) _ _)=>⟨[],[b],[]⟩
 |_,_=>eX.none
def noView (id:Nat) (tm:List (Nat×V)):Bool:=tm.all λx=>match look x.1 tm with
 |some (.view (.cell b _) _ _)=>!(b==id)
 |_=>true
def AmR (k v:D):List (D×D)->Option (List (D×D))
 | []=>some [(k,v)]
 |(k',v')::r=>match Al2 k k' with
  |some true=>some ((k,v)::r)
  |some false=>(AmR k v r).map ((k',v')::·)
  |none=>none
def BbJ (cs:List C) (k:D) (m:MV) (kvs':List (D×MV)):C:=
 match cs,m with
 | [.mdat l],.d v=>match AmR k v l with
  |some l'=>.mdat l'
  |none=>.ment kvs'
 |_,_=>.ment kvs'
def Bb1 (P:Program) (t:TypeId) (m k v:Operand) (s:St):Option (St×Nat):=
 match Ba2 P t,ev s.tmps m,(ev s.tmps k).bind V.toD with
  |some (kt,e),some (.c (.mp b)),some kd=>match AxP P kt kd,(evT P e s.tmps v).bind MV.of,look b s.heap with
   |true,some mv,some cs=>match mapOf cs with
    |some kvs=>match AlR kd mv kvs with
     |some kvs'=>some ({ s with heap:=upd b [BbJ cs kd mv kvs'] s.heap },b)
     |none=>none
    |none=>none
   |_,_,_=>none
  |_,_,_=>none
def cV (P:Program) (call:Call) (id:Nat) (o:Oper) (s:St):Option (gR×eX):=
 match o.op with
 |.assign x=>match evT P o.type s.tmps x with
  |some (.c (.own sz xs))=>match x with
   |.tmp u=>some (.val (.c (.own sz xs)) { s with tmps:=plainAt u s.tmps },⟨[],[],[u]⟩)
   |_=>none
  |some (.c (.nilsl n))=>some (.val (.c (.own n [])) s,eX.none)
  |some (.c (.full n xs))=>some (.val (.c (.own n xs)) s,eX.none)
  |some (.view _ sz xs)=>some (.val (.d (.list sz xs)) s,eX.none)
  |some v=>some (.val v s,eX.none)
  |none=>none
 |.store t a x=>match ev s.tmps a,evT P t s.tmps x with
  |some (.c (.ptr b off)),some (.c (.own sz xs))=>if tsz P t=some 1 then match x,storeCells s.heap b off [.own sz xs] with
   |.tmp u,some h=>some (.val (.c .undef) { s with heap:=h,tmps:=unview (.cell b off) (plainAt u s.tmps) },⟨[],[b],[u]⟩)
   |_,_=>none
   else none
  |some (.c (.ptr b off)),some v=>match v.cells with
   |some cs=>if tsz P t=some cs.length then
    if cs.any C.isNilsl then match storeCells s.heap b off (cs.map C.placed),noView b s.tmps with
    |some h,true=>some (.val (.c .undef) { s with heap:=h },⟨[],[b],[]⟩)
    |_,_=>none
    else match storeCells s.heap b off (cs.map C.plain) with
    |some h=>some (.val (.c .undef) { s with heap:=h },⟨[],[b],[]⟩)
    |none=>none
    else none
   |none=>none
  |_,_=>none
 |.makeMap _ none=>if noView id s.tmps then some (.val (.c (.mp id)) { s with heap:=(id,[.mdat []])::s.heap,nid:=id+1 },eX.none) else none
 |.insert t m k v|.mapUpdate t m k v=>match Bb1 P t m k v s with
  |some (s',b)=>some (.val (.c .undef) s',⟨[],[b],[]⟩)
  |none=>none
 |.defer c=>match c.callee,c.args.toList with
  |.value f,[]=>match ev s.tmps f with
   |some (.c (.fn g caps))=>some (.val (.c .undef) { s with defers:=(g,caps)::s.defers },eX.none)
   |_=>none
  |_,_=>none
 |.panic x=>match (ev s.tmps x).bind V.toD with
  |some (.iface t d)=>some (.pan (.iface t d) s,eX.none)
  |_=>none
 |.call c=>match c.callee with
  |.builtin .append=>match c.args.toList,c.argTypes.toList with
   | [x,y],[t,u]=>match jP P t u x y s with
    |some (v,s')=>some (.val v s',bS x s.tmps)
    |none=>none
   |_,_=>none
  |.builtin .copy=>match c.args.toList,c.argTypes.toList with
   | [x,y],[t,u]=>match Am4 P t u x y s with
    |some (v,s')=>some (.val v s',eX.none)
    |none=>none
   |_,_=>none
  |.builtin _=>match evR P id o s.tmps s.heap with
   |some (v,none)=>some (.val v s,eX.none)
   |_=>none
  |.value f=>match ev s.tmps f,pF P s.tmps c.args.toList c.argTypes.toList with
   |some (.c (.fn g caps)),some args=>match mU call g (args++caps.map λb=>.ptr b 0) s with
    |some (r,ids)=>some (r,⟨ids,ids,[]⟩)
    |none=>none
   |some (.c (.bfn g x)),some args=>match mU call g (.d x::args) s with
    |some (r,ids)=>some (r,⟨ids,ids,[]⟩)
    |none=>none
   |_,_=>none
  |_=>none
 |_=>match evR P id o s.tmps s.heap with
  |some (v,none)=>some (.val v s,⟨cQ o s.tmps,[],[]⟩)
  |some (v,some cs)=>if noView id s.tmps then some (.val v { s with heap:=(id,cs)::s.heap,nid:=id+1 },eX.none) else none
  |none=>none
inductive AX where
 |normal
 |exit (id:Nat)
 |ret
 |pan (d:D)
def wantedAt (ops:Array Oper) (tm:List (Nat×V)) (o:Oper):Option Bool:=
 match o.guard with
 |none=>some true
 |some (j,want)=>match ops[j]? with
  |some q=>match q.dst with
   |some d=>match look d tm with
    |some (.c (.d (.bool b)))=>some (b==want)
    |some (.c .undef)=>some false
    |_=>none
   |none=>none
  |none=>none
def mR (dst:Option Nat) (v:V) (s:St):St:=
 match dst with
 |some d=>{ s with tmps:=pC d v s.tmps }
 |none=>s
def putDst (o:Oper) (v:V) (s:St):St:=mR o.dst v s
def AiZ (P:Program) (call:Call) (ops:Array Oper):List Oper->St->List eX->Option (AX×St×List eX)
 | [],s,fs=>some (.normal,s,fs)
 |o::r,s,fs=>
  match wantedAt ops s.tmps o with
  |none=>none
  |some false=>AiZ P call ops r (putDst o (.c .undef) s) (eX.none::fs)
  |some true=>match cV P call s.nid o s with
   |none=>none
   |some (.pan d s,f)=>some (.pan d,s,f::fs)
   |some (.val v s,f)=>AiZ P call ops r (putDst o v s) (f::fs)
def jI (ops:List Oper):List (List Nat)->List (List Nat)
 |acc=>match ops with
  | []=>acc
  |o::r=>jI r (acc++[o.after.toList.foldl (λl e=>if Region.binds .any e then e.on::(acc.getD e.on []++l) else l) []])
def fA (ops:Array Oper) (o:Oper):List Nat:=
 (o.op.operands.toList.filterMap fun|.tmp t=>some t|_=>none) ++
 (match o.guard with|some (j,_)=>((ops[j]?).bind (·.dst)).toList|none=>[])
inductive Lc where
 |tmp (x:Nat)
 |blk (b:Nat)
 |nid
 |defs
 |vb (b:Nat)
 |vt (u:Nat)
 deriving DecidableEq
structure Fp where
 reads:List Lc
 writes:List Lc
 refs:List Nat
 all:Bool
 deriving Inhabited
def V.calm:V->V
 |.view _ sz xs=>.d (.list sz xs)
 |v=>v
def V.isOwn:V->Bool
 |.c (.own _ _)=>true
 |_=>false
def Aq5 (d:Nat) (v:V) (tm:List (Nat×V)):Bool:=
 (match look d tm with
  |some (.view _ _ _)=>false
  |_=>true) &&
 (!v.isOwn||tm.all λx=>match look x.1 tm with
   |some (.view (.tmp u) _ _)=>!(u==d)
   |_=>true)
def vZ (dst:Option Nat) (v:V) (s:St):Option St:=
 match dst with
 |none=>some s
 |some d=>if Aq5 d v s.tmps then some { s with tmps:=(d,v)::s.tmps } else none
def kX (dst:Option Nat) (v:V):List Lc:=
 match dst with
 |none=>[]
 |some d=>.tmp d::match v with
  |.view (.cell b _) _ _=>[.vb b]
  |.view (.tmp u) _ _=>[.vt u]
  |.c (.own _ _)=>[.vt d]
  |_=>[]
def V.ids:V->List Nat
 |.c x=>x.ids
 |.vagg cs=>cs.flatMap C.ids
 |.vtup _ cs=>cs.flatMap C.ids
 |.tuple cs=>cs.flatMap C.ids
 |_=>[]
def BaE (s:St):List Nat:=
 s.tmps.flatMap (·.2.ids)++s.heap.flatMap (·.2.flatMap C.ids)++s.defers.flatMap (·.2)
def AqF (s:St):Lc->List Nat
 |.tmp x=>match look x s.tmps with
  |some v=>v.ids
  |none=>[]
 |.blk b=>match look b s.heap with
  |some cs=>cs.flatMap C.ids
  |none=>[]
 |.defs=>s.defers.flatMap (·.2)
 |_=>[]
def Fp.fill (f:Fp) (s:St):Fp:={ f with refs:=if f.all then BaE s else f.writes.flatMap (AqF s) }
def AlW (ids:List Nat) (tm:List (Nat×V)):List Nat:=
 (tm.filter λx=>match look x.1 tm with
  |some (.view (.cell b _) _ _)=>ids.contains b
  |_=>false).map (·.1)
def rX (ops:Array Oper):List Nat:=
 ops.toList.filterMap λo=>match o.op with
  |.call c=>match c.callee,c.args.toList with
   |.builtin .append,.tmp t::_=>some t
   |_,_=>none
  |_=>none
def hZ (vs:List Nat) (dst:Option Nat) (v:V):V:=
 match dst with
 |some d=>if vs.contains d then v else v.calm
 |none=>v.calm
inductive Kind where
 |light|still|call|app|appc|all
def kindOf (o:Oper) (f:eX):Kind:=
 match o.op with
 |.assign _=>if f.tmps.isEmpty then .still else .app
 |.store _ _ _=>if f.tmps.isEmpty then .still else .all
 |.defer _|.panic _|.makeMap _ _|.insert _ _ _ _|.mapUpdate _ _ _ _=>.all
 |.call c=>match c.callee with
  |.builtin .append=>if f.writes.isEmpty then .app else .appc
  |.builtin .copy=>.all
  |.builtin _=>.light
  |.value _=>.call
  |.invoke _ _=>.all
 |_=>.light
def AdN (s s':St):List Nat:=bD s.nid (s'.nid-s.nid)
def uM (o:Oper):List Nat:=
 match o.op with
 |.call c=>match c.callee,c.args.toList with
  |.builtin .append,.tmp x::_=>[x]
  |_,_=>[]
 |_=>[]
def BeB (x:Nat) (tm:List (Nat×V)):List (Nat×V):=
 match look x tm with
 |some (.view _ sz xs)=>(x,.d (.list sz xs))::tm
 |_=>tm
def oX (l:List Nat) (tm:List (Nat×V)):List (Nat×V):=
 match l with
 | []=>tm
 |x::_=>BeB x tm
def afterApp (o:Oper) (s:St):St:={ s with tmps:=oX (uM o) s.tmps }
def rR (ops:Array Oper) (o:Oper) (s:St) (v:V) (s':St) (f:eX):Fp:=
 let rd:=(fA ops o).map Lc.tmp
 match kindOf o f with
 |.light=>⟨rd++f.reads.map .blk,kX o.dst v,[],false⟩
 |.still=>⟨rd++f.writes.map .vb,kX o.dst v++f.writes.map .blk,[],false⟩
 |.call=>⟨rd,kX o.dst v++(f.reads++AdN s s').map .blk++(f.reads++AdN s s').map .vb++(AlW (f.reads++AdN s s') s.tmps).map .tmp ++
  (if s'.nid=s.nid then [] else [.nid]),[],false⟩
 |.appc=>⟨rd++f.writes.map .blk,kX o.dst v++(f.writes.map .blk++f.writes.map .vb++(uM o).map .tmp),[],false⟩
 |.app=>⟨rd++f.tmps.map .tmp,kX o.dst v++(f.tmps.map .tmp++f.tmps.map .vt++(uM o).map .tmp),[],false⟩
 |.all=>⟨[],[],[],true⟩
def aR (o:Oper):Bool:=
 match o.op with
 |.alloc _|.box _ _=>true
 |.makeSlice _ l c=>rI l c
 |.buildSlice _ _ ps=>(AmD ps.toList).isSome
 |_=>false
def AaK (P:Program) (ops:Array Oper) (id:Nat) (o:Oper) (s:St):Option (gR×Fp):=
 match evR P id o s.tmps s.heap with
 |some (v,some cs)=>match look id s.heap with
  |none=>if ((cs.map C.plain).flatMap C.ids).contains id then none else
   some (.val v { s with heap:=(id,cs.map C.plain)::s.heap },⟨(fA ops o).map .tmp,kX o.dst v++[.blk id],[],false⟩)
  |some _=>none
 |_=>none
def eM (P:Program) (call:Call) (ops:Array Oper) (vs:List Nat) (o:Oper) (s:St):Option (gR×Fp):=
 match cV P call s.nid o s with
 |some (.val v s',f)=>some (.val (hZ vs o.dst v) (afterApp o s'),rR ops o s (hZ vs o.dst v) s' f)
 |some (.pan d s',_)=>some (.pan d s',⟨[],[],[],true⟩)
 |none=>none
def eP (P:Program) (call:Call) (ops:Array Oper) (vs:List Nat) (id:Nat) (o:Oper) (s:St):Option (gR×Fp):=
 if aR o then AaK P ops id o s else eM P call ops vs o s
def pW (xs:List Nat) (s:St):St:={ s with tmps:=s.tmps.filter λp=>!xs.contains p.1 }
def jB (ops:Array Oper) (k:Nat):List Nat:=
 (List.range k).filterMap λi=>if ((jI ops.toList []).getD k []).contains i then none else (ops.getD i default).dst
def AX.isPan:AX->Bool
 |.pan _=>true
 |_=>false
def zQ:Nat:=1000000
def AcC (call:Call):Call:=λf args lh=>match Nat.blt f zQ with
 |true=>call f args lh
 |false=>none
def As6 (call:Call):Call:=λf args lh=>call (f+zQ) args lh
def C.placedM:C->C
 |.own sz xs=>.d (.list sz xs)
 |.full sz xs=>.d (.list sz xs)
 |x=>x
def yC (hp:List (Nat×List C)):V->Option (List Nat×Nat×List D)
 |.c (.arr b n sz)=>match look b hp with
  |some [.seq sz' ds]=>if sz'=sz/\ds.length=n then some ([b],sz,ds) else none
  |_=>none
 |.c (.nilsl n)=>some ([],n,[])
 |.c (.full sz [])=>some ([],sz,[])
 |_=>none
def without (bs:List Nat) (hp:List (Nat×List C)):List (Nat×List C):=hp.filter λx=>!bs.contains x.1
def AaI (P:Program) (o:Oper) (s:St):Option (V×St):=
 match o.op with
 |.assign x=>match evT P o.type s.tmps x with
  |some (.c (.nilsl n))=>some (.c (.nilsl n),s)
  |_=>none
 |.store t a x=>match ev s.tmps a,(evT P t s.tmps x).bind V.cells with
  |some (.c (.ptr b off)),some cs=>if tsz P t=some cs.length/\cs.any C.isNilsl=true then match storeCells s.heap b off (cs.map C.placedM) with
   |some h=>some (.c .undef,{ s with heap:=h })
   |none=>none
   else none
  |_,_=>none
 |.call c=>match c.callee with
  |.builtin .append=>match c.args.toList,c.argTypes.toList with
   | [x,y],[t,u]=>match nK P t,(evT P t s.tmps x).bind (yC s.heap),(evT P u s.tmps y).bind appended with
    |some e,some (bs,sz,ds),some (sz',ys)=>match tsz P e,iB P u with
     |some n,true=>if sz=n/\sz'=n/\0<n/\P.bytesOf e<=1024/\lV P e n=true/\ds.length+ys.length<=4294967296/\noView s.nid s.tmps=true then
      some (.c (.arr s.nid (ds.length+ys.length) n),{ s with heap:=(s.nid,[.seq n (ds++ys)])::without bs s.heap,nid:=s.nid+1 }) else none
     |_,_=>none
    |_,_,_=>none
   |_,_=>none
  |_=>none
 |_=>none
def AdA (P:Program) (o:Oper) (s:St):Option (V×St):=
 match o.op with
 |.call c=>match c.callee with
  |.builtin .append=>match c.args.toList,c.argTypes.toList with
   | [x,_],[t,_]=>match evT P t s.tmps x with
    |some (.c (.arr _ _ _))=>AaI P o s
    |_=>none
   |_,_=>none
  |_=>none
 |_=>none
def AyT (P:Program) (m:Bool) (o:Oper) (s:St):Option (V×St):=match m with
 |true=>AaI P o s
 |false=>AdA P o s
def Bc5:V->Option (List Nat)
 |.c (.arr b _ _)=>some [b]
 |.c (.nilsl _)=>some []
 |.c (.full _ _)=>some []
 |_=>none
def yZ (P:Program) (ops:Array Oper) (o:Oper) (s:St) (v:V):Fp:=
 match o.op with
 |.call c=>match c.callee with
  |.builtin .append=>match c.args.toList,c.argTypes.toList with
   | [x,_],[t,_]=>match (evT P t s.tmps x).bind Bc5 with
    |some bs=>⟨(fA ops o).map .tmp,kX o.dst v++(bs.map .blk++[.blk s.nid,.vb s.nid,.nid]),[],false⟩
    |none=>⟨[],[],[],true⟩
   |_,_=>⟨[],[],[],true⟩
  |_=>⟨[],[],[],true⟩
 |_=>⟨[],[],[],true⟩
def spec (P:Program) (call:Call) (o:Oper) (s:St):Option (V×St):=match AaI P o s with
 |some r=>some r
 |none=>match o.op with
  |.call c=>match c.callee with
   |.value f=>match ev s.tmps f,pF P s.tmps c.args.toList c.argTypes.toList with
    |some (.c (.fn g [])),some args=>match mU (As6 call) g args s with
     |some (.val v s',_)=>some (v,s')
     |_=>none
    |_,_=>none
   |_=>none
  |_=>none
def tS (P:Program) (call:Call) (ops:Array Oper) (m:Bool) (vs:List Nat) (base:Nat):List Oper->Nat->St->Option (AX×St×List Fp)
 | [],_,s=>some (.normal,s,[])
 |o::r,i,s=>
  match wantedAt ops s.tmps o with
  |none=>none
  |some false=>match vZ o.dst (.c .undef) s with
   |none=>none
   |some s1=>match tS P call ops m vs base r (i+1) s1 with
    |none=>none
    |some (x,s2,fs)=>some (x,s2,Fp.fill ⟨(fA ops o).map .tmp,kX o.dst (.c .undef),[],false⟩ s1::fs)
  |some true=>match AyT P m o s with
   |some (v,s1)=>match vZ o.dst v s1 with
    |none=>none
    |some s2=>match tS P call ops m vs base r (i+1) s2 with
     |none=>none
     |some (x,s3,fs)=>some (x,s3,Fp.fill (yZ P ops o s v) s2::fs)
   |none=>match eP P call ops vs (base+i) o s with
   |none=>none
   |some (.pan _ _,_)=>match wantedAt ops (pW (jB ops i) s).tmps o,eP P call ops vs (base+i) o (pW (jB ops i) s) with
    |some true,some (.pan d s1,f)=>some (.pan d,s1,[f])
    |_,_=>none
   |some (.val v s1,f)=>match vZ o.dst v s1 with
    |none=>none
    |some s2=>match tS P call ops m vs base r (i+1) s2 with
     |none=>none
     |some (x,s3,fs)=>some (x,s3,f.fill s2::fs)
def apart (l m:List Lc):Bool:=l.all λx=>!m.contains x
def Fp.apart (f g:Fp):Bool:=
 !f.all&&!g.all&&AM.apart f.writes (g.reads++g.writes)&&AM.apart g.writes f.reads
def loose (o:Oper) (f:Fp):Bool:=
 !f.all&&f.writes.all λl=>match o.dst with
  |some x=>l==.tmp x
  |none=>false
def AgC (pn:Bool) (ops:Array Oper) (base:Nat) (fs:List Fp):Bool:=
 let bs:=jI ops.toList []
 let k:=fs.length
 ((List.range ops.size).all λj=>
  ((ops.getD j default).after.toList.all λe=>!Region.binds .any e||decide (e.on<j)) &&
  (List.range j).all λi=>
   (bs.getD j []).contains i ||
   (if j<k then (fs.getD i default).apart (fs.getD j default)||pn&&decide (j+1=k)&&loose (ops.getD i default) (fs.getD i default) else decide (i+1≠k))) &&
 (List.range k).all λi=>!aR (ops.getD i default) ||
  (List.range k).all λj=>i==j||(bs.getD j []).contains i||!(fs.getD j default).refs.contains (base+i)
def AbF (P:Program) (call:Call) (ops:Array Oper) (m:Bool) (s:St):Option (AX×St):=
 match tS P call ops m (rX ops) s.nid ops.toList 0 { s with nid:=s.nid+ops.size } with
 |some (x,s',fs)=>if AgC x.isPan ops s.nid fs&&decide (s.nid<=s'.nid) then some (x,s') else none
 |none=>none
def vJ (hp:List (Nat×List C)) (b off:Nat):Option (Nat×List D):=
 match look b hp with
 |some cells=>match cells[off]? with
  |some (.own sz xs)=>some (sz,xs)
  |_=>none
 |none=>none
def AkM (call:Call) (f:Nat) (args:List C) (b off:Nat) (s:St):Option (V×St):=
 match look b s.heap with
 |some cells=>match cells[off]? with
  |some (.own sz xs)=>match mU call f args { s with heap:=upd b (cells.set off .hid) s.heap } with
   |some (.val v s',_)=>match look b s'.heap with
    |some cells'=>match cells'[off]? with
     |some .hid=>some (v,{ s' with tmps:=unview (.cell b off) s'.tmps,heap:=upd b (cells'.set off (.own sz xs)) s'.heap })
     |_=>none
    |none=>none
   |_=>none
  |_=>none
 |none=>none
def ApQ (P:Program) (call:Call):List Oper->St->Option St
 | [],s=>some s
 |o::r,s=>match cV P call s.nid o s with
  |some (.val v s',_)=>ApQ P call r (putDst o v s')
  |_=>none
def AeR (P:Program) (call:Call) (b off:Nat) (o:Oper) (s:St):Option (V×St):=
 match o.op with
 |.call c=>match c.callee with
  |.value f=>match ev s.tmps f,pF P s.tmps c.args.toList c.argTypes.toList with
   |some (.c (.fn g [])),some args=>AkM call g args b off s
   |_,_=>none
  |_=>none
 |_=>none
def lst (n:Nat) (l:List Nat):Array Bool:=l.foldl (λr i=>r.setIfInBounds i true) (Array.replicate n false)
def BbP (ops:Array Oper):Bool:=
 match ops.toList with
 | [_,_,_,_,o4,_,o6,o7,_,_,_,_]=>
  ops.toList.all (λo=>o.guard.isNone)&&Region.noSelect ops &&
  (match o4.op,o4.dst,o6.dst,o7.op,o7.dst with
   |.load _ (.tmp x),some d4,some d6,.buildSlice _ _ ps,some d7=>match ps.toList with
    | [(0,.tmp p)]=>p==d6&&d4 != d6&&d4 != d7&&d6 != d7&&x != d4&&x != d6&&x != d7
    |_=>false
   |_,_,_,_,_=>false) &&
  [([],0),([0],1),([0,1],2),([0,1,2],3),([0,1,2,3],5)].all (λq=>Region.free .any ops (lst 12 q.1) q.2&&(Region.ready .any ops (lst 12 q.1)).contains q.2) &&
  (Region.ready .any ops (lst 12 [0,1,2,3,5])==[4,6]&&Region.ready .any ops (lst 12 [0,1,2,3,5,4])==[6]&&Region.ready .any ops (lst 12 [0,1,2,3,5,4,6])==[7] &&
   Region.ready .any ops (lst 12 [0,1,2,3,5,6])==[4,7]&&Region.ready .any ops (lst 12 [0,1,2,3,5,6,4])==[7]&&Region.ready .any ops (lst 12 [0,1,2,3,5,6,7])==[4] &&
   Region.ready .any ops (lst 12 [0,1,2,3,5,4,6,7])==[8]&&Region.ready .any ops (lst 12 [0,1,2,3,5,4,6,7,8])==[9]&&Region.ready .any ops (lst 12 [0,1,2,3,5,4,6,7,8,9])==[10] &&
   Region.ready .any ops (lst 12 [0,1,2,3,5,4,6,7,8,9,10])==[11]&&(Region.ready .any ops (lst 12 [0,1,2,3,5,4,6,7,8,9,10,11])).isEmpty)
 |_=>false
def AgR (P:Program):List Oper->St->Option St
 | [],s=>some s
 |o::r,s=>match (match o.op with|.move _=>true|.nilCheck _=>true|.fieldAddr _ _ _=>true|_=>false),evR P s.nid o s.tmps s.heap with
  |true,some (.c (.ptr b off),none)=>AgR P r (putDst o (.c (.ptr b off)) s)
  |_,_=>none
def AvE (P:Program) (call:Call) (ops:Array Oper) (s:St):Option (AX×St):=
 match BbP ops,ops.toList with
 |true,[o0,o1,o2,o3,o4,o5,o6,o7,o8,o9,o10,o11]=>
  match AgR P [o0,o1,o2,o3,o5] s,o4.op,o4.dst,o6.dst with
  |some s0,.load t (.tmp x),some d4,some d6=>
   match look x s0.tmps,Ag2 P t with
   |some (.c (.ptr b off)),some false=>
    match AeR P call b off o6 (pW [d4,d6] s0) with
    |some (v,s1)=>
     match vJ s1.heap b off with
     |some (sz,xs)=>
      match ApQ P call [o7,o8,o9,o10,o11] { putDst o6 v s1 with tmps:=(d4,.view (.cell b off) sz xs)::(putDst o6 v s1).tmps } with
      |some s2=>some (.normal,s2)
      |none=>none
     |none=>none
    |none=>none
   |_,_=>none
  |_,_,_,_=>none
 |_,_=>none
def uT:List Nat->List (Nat×V)->List (Nat×V)
 | [],_=>[]
 |t::r,tm=>match look t tm with
  |some (.view _ sz xs)=>(t,.d (.list sz xs))::uT r tm
  |some v=>(t,v)::uT r tm
  |none=>uT r tm
def iter (f:St->Option (AX×St)) (clean:St->Option St):Nat->St->Option (AX×St)
 |0,_=>none
 |n+1,s=>match clean s with
  |none=>none
  |some s=>match f s with
   |some (.normal,s)=>iter f clean n s
   |r=>r
def C.below (n:Nat) (c:C):Bool:=c.ids.all (· < n)
def V.below (n:Nat):V->Bool
 |.c x=>x.below n
 |.vagg cs=>cs.all (C.below n)
 |.vtup _ cs=>cs.all (C.below n)
 |.tuple cs=>cs.all (C.below n)
 |_=>true
def lJ:Code->Nat
 |.region id _ _=>id
 |.seq a _=>lJ a
 |.block _ c=>lJ c
 |.loop c=>lJ c
 |.scope c=>lJ c
 |_=>0
def plainCellH (b off:Nat) (hp:List (Nat×List C)):List (Nat×List C):=
 match look b hp with
 |some cells=>match cells[off]? with
  |some (.own sz xs)=>upd b (cells.set off (.d (.list sz xs))) hp
  |_=>hp
 |none=>hp
def demT:List Nat->List (Nat×V)->List (Nat×V)
 | [],tm=>tm
 |k::r,tm=>match Nat.ble 5000000 k with
  |true=>demT r (plainAt (k-5000000) tm)
  |false=>demT r tm
def demH:List Nat->List (Nat×List C)->List (Nat×List C)
 | [],hp=>hp
 |k::r,hp=>match Nat.ble 6000000 k with
  |true=>demH r (plainCellH ((k-6000000) / 1000) ((k-6000000) % 1000) hp)
  |false=>demH r hp
def cellOf (b off:Nat) (s:St):Option C:=match look b s.heap with
 |some cells=>match cells with
  | [.seq _ _]=>none
  |cells=>cells[off]?
 |none=>none
def BeC:List Nat->St->Option (List Nat)
 | [],_=>some []
 |k::r,s=>match Nat.ble 15000000 k with
  |false=>BeC r s
  |true=>match (if Nat.ble 16000000 k then cellOf ((k-16000000) / 1000) ((k-16000000) % 1000) s else match look (k-15000000) s.tmps with
    |some (.c c)=>some c
    |_=>none),BeC r s with
   |some (.arr b _ _),some xs=>some (b::xs)
   |_,_=>none
def C.ren (f:Nat->Option Nat):C->Option C
 |.ptr b off=>(f b).map λi=>.ptr i off
 |.arr b n sz=>(f b).map λi=>.arr i n sz
 |c=>if c.ids.all (λb=>f b==some b) then some c else none
def V.ren (f:Nat->Option Nat):V->Option V
 |.c x=>(C.ren f x).map .c
 |.vagg cs=>(aY (C.ren f) cs).map .vagg
 |.vtup n cs=>(aY (C.ren f) cs).map (.vtup n)
 |.tuple cs=>(aY (C.ren f) cs).map .tuple
 |v=>some v
def BfL (f:Nat->Option Nat):List (Nat×V)->Option (List (Nat×V))
 | []=>some []
 |(t,v)::r=>match V.ren f v,BfL f r with
  |some v',some r'=>some ((t,v')::r')
  |_,_=>none
def BdB (f:Nat->Option Nat) (n:Nat) (xs:List Nat):List (Nat×List C)->Option (List (Nat×List C))
 | []=>some []
 |(b,cs)::r=>match Nat.blt b n&&!xs.contains b with
  |false=>BdB f n xs r
  |true=>match aY (C.ren f) cs,BdB f n xs r with
   |some cs',some r'=>some ((b,cs')::r')
   |_,_=>none
def AyA (xs:List Nat) (n b:Nat):Option Nat:=match idx b xs n with
 |some i=>some i
 |none=>if b<n then some b else none
def BfM (hp:List (Nat×List C)):Nat->List Nat->Option (List (Nat×List C))
 |_,[]=>some []
 |n,b::r=>match look b hp,BfM hp (n+1) r with
  |some [.seq sz ds],some l=>some ((n,[.seq sz ds])::l)
  |_,_=>none
def Av8:List Nat->Bool
 | []=>true
 |x::r=>!r.contains x&&Av8 r
def cleanX (keep xs:List Nat) (n:Nat) (s:St):Option St:=
 match BfL (AyA xs n) (uT keep (demT keep s.tmps)),BdB (AyA xs n) n xs (demH keep s.heap),BfM s.heap n xs with
 |some tm,some hp,some hx=>if Av8 xs&&s.defers.all (λx=>x.2.all λb=>AyA xs n b==some b) then some { s with tmps:=tm,heap:=hx++hp,nid:=n+xs.length } else none
 |_,_,_=>none
def cleanO (keep:List Nat) (n:Nat) (s:St):Option St:=
 let tm:=uT keep (demT keep s.tmps)
 let hp:=(demH keep s.heap).filter (·.1<n)
 if tm.all (λx=>x.2.below n)&&hp.all (λx=>x.2.all (C.below n))&&s.defers.all (λx=>x.2.all (· < n)) then some { s with tmps:=tm,heap:=hp,nid:=n } else none
def aJ (keep:List Nat) (n:Nat) (s:St):Option St:=match BeC keep s with
 |some []=>cleanO keep n s
 |some xs=>cleanX keep xs n s
 |none=>none
def settle (h:List Nat) (n:Nat):Option (AX×St)->Option (AX×St)
 |some (.normal,s)=>match h with
  | []=>some (.normal,s)
  |_::ks=>match aJ ks n s with
   |some s=>some (.normal,s)
   |none=>none
 |r=>r
def vK (a b:Code):Nat:=match a with
 |.skip=>2000000+lJ b
 |_=>2000000+lJ a
def leaves (id:Nat):Option (AX×St)->Option (AX×St)
 |some (.exit id',s)=>if id'=id then some (.normal,s) else some (.exit id',s)
 |r=>r
def Al7 (hp:List (Nat×List C)):C->Option C
 |.arr b n sz=>match look b hp with
  |some [.seq sz' ds]=>if sz'=sz/\ds.length=n then some (.d (.list sz ds)) else none
  |_=>none
 |c=>some c
def AeV (hp:List (Nat×List C)):V->Option V
 |.c c=>(Al7 hp c).map .c
 |.vagg cs=>(aY (Al7 hp) cs).map AoW
 |.vtup _ _=>none
 |.tuple cs=>(aY (Al7 hp) cs).map .tuple
 |v=>some v
def C.arrs:C->List Nat
 |.arr b _ _=>[b]
 |_=>[]
def V.arrs:V->List Nat
 |.c x=>x.arrs
 |.vagg cs=>cs.flatMap C.arrs
 |.tuple cs=>cs.flatMap C.arrs
 |_=>[]
def Bf0 (t:Nat) (s:St):Option St:=
 match look t s.tmps with
 |some v=>match v.arrs with
  | []=>none
  |b::bs=>match AeV s.heap v with
   |some v'=>some { s with tmps:=(t,v')::s.tmps,heap:=without (b::bs) s.heap }
   |none=>none
 |none=>none
def cellTo (b off:Nat) (c:C) (s:St):St:=match look b s.heap with
 |some cells=>{ s with heap:=upd b (cells.set off c) s.heap }
 |none=>s
def Aj2 (k:Nat) (s:St):Option St:=
 match Nat.ble 13000000 k with
 |true=>some s
 |false=>match Nat.ble 12000000 k with
 |true=>match cellOf ((k-12000000) / 1000) ((k-12000000) % 1000) s with
  |some (.nilsl n)=>if noView ((k-12000000) / 1000) s.tmps then some (cellTo ((k-12000000) / 1000) ((k-12000000) % 1000) (.own n []) s) else none
  |_=>none
 |false=>match Nat.ble 11000000 k with
 |true=>match look (k-11000000) s.tmps with
  |some (.c (.nilsl n))=>some { s with tmps:=pC (k-11000000) (.c (.own n [])) s.tmps }
  |_=>none
 |false=>match Nat.ble 10000000 k with
 |true=>match cellOf ((k-10000000) / 1000) ((k-10000000) % 1000) s with
  |some (.nilsl n)=>if 0<n/\noView s.nid s.tmps=true then some (cellTo ((k-10000000) / 1000) ((k-10000000) % 1000) (.arr s.nid 0 n) { s with heap:=(s.nid,[.seq n []])::s.heap,nid:=s.nid+1 }) else none
  |_=>none
 |false=>match Nat.ble 9000000 k with
 |true=>match look (k-9000000) s.tmps with
  |some (.c (.nilsl n))=>if 0<n/\noView s.nid s.tmps=true then some { s with tmps:=(k-9000000,.c (.arr s.nid 0 n))::s.tmps,heap:=(s.nid,[.seq n []])::s.heap,nid:=s.nid+1 } else none
  |_=>none
 |false=>match Nat.ble 8000000 k with
 |true=>match cellOf ((k-8000000) / 1000) ((k-8000000) % 1000) s with
  |some (.arr b n sz)=>match Al7 s.heap (.arr b n sz) with
   |some c=>some (cellTo ((k-8000000) / 1000) ((k-8000000) % 1000) c { s with heap:=without [b] s.heap })
   |none=>none
  |_=>none
 |false=>Bf0 (k-7000000) s
def frz:List Nat->St->Option St
 | [],s=>some s
 |k::r,s=>match Nat.ble 7000000 k with
  |true=>match Aj2 k s with
   |some s'=>frz r s'
   |none=>none
  |false=>frz r s
def isM (hs:List Nat):Bool:=hs.contains 14000000
def AbO (P:Program) (call:Call) (ops:Array Oper):List Oper->St->Option (AX×St)
 | [],s=>some (.normal,s)
 |o::r,s=>match wantedAt ops s.tmps o with
  |none=>none
  |some false=>AbO P call ops r (putDst o (.c .undef) s)
  |some true=>match spec P call o s with
   |some (v,s')=>AbO P call ops r (putDst o v s')
   |none=>match cV P (AcC call) s.nid o s with
    |some (.val v s',_)=>AbO P call ops r (putDst o v s')
    |some (.pan d s',_)=>some (.pan d,s')
    |none=>none
def iW (P:Program) (H:Nat->List Nat) (call:Call) (rounds:Nat):Code->St->Option (AX×St)
 |.skip,s=>some (.normal,s)
 |.label _,s=>some (.normal,s)
 |.ret,s=>some (.ret,s)
 |.exit id,s=>some (.exit id,s)
 |.seq a b,s=>match iW P H call rounds a s with
  |some (.normal,s)=>iW P H call rounds b s
  |r=>r
 |.cond c a b,s=>match ev s.tmps c with
  |some (.c (.d (.bool true)))=>settle (H (vK a b)) s.nid (iW P H call rounds a s)
  |some (.c (.d (.bool false)))=>settle (H (vK a b)) s.nid (iW P H call rounds b s)
  |_=>none
 |.block id c,s=>settle (H (1000000+id)) s.nid (leaves id (iW P H call rounds c s))
 |.scope c,s=>iW P H call rounds c s
 |.loop c,s=>iter (iW P H call rounds c) (aJ (H (lJ c)) s.nid) rounds s
 |.region id ops draw,s=>match frz (H id) s with
  |none=>none
  |some s=>
   match isM (H id) with
   |true=>if draw then AbF P (AcC call) ops true { s with tmps:=uT (H id) s.tmps } else AbO P call ops ops.toList { s with tmps:=uT (H id) s.tmps }
   |false=>if draw then match (H id).contains 4999999 with
    |false=>AbF P (AcC call) ops false { s with tmps:=uT (H id) s.tmps }
    |true=>AvE P (AcC call) ops { s with tmps:=uT (H id) s.tmps }
   else match AiZ P (AcC call) ops ops.toList { s with tmps:=uT (H id) s.tmps } [] with
   |some (x,s,_)=>some (x,s)
   |none=>none
 |_,_=>none
def C.told:C->Option C
 |.hid=>none
 |c=>some c.still
def BdC (P:Program) (s:St):ResultVar->Option C
 |.tmp t=>((look t s.tmps).bind AfY).map C.still
 |.cell a t=>match look a s.tmps with
  |some (.c (.ptr b off))=>match yG b s.heap with
   |some cs=>match Ag2 P t,tsz P t with
    |some true,some n=>if off+n<=cs.length then (AjI ((cs.drop off).take n)).map λds=>.d (.agg ds) else none
    |some false,_=>(cs[off]?).bind C.told
    |_,_=>none
   |none=>none
  |_=>none
def BhS (P:Program) (s:St) (rs:List ResultVar):Option V:=
 match aY (BdC P s) rs with
 |some [c]=>some (.c c)
 |some cs=>some (.tuple cs)
 |none=>none
def Af7 (h:List (Nat×List C)) (n:Nat) (extra:List Nat):Option (List Nat×List (List C)):=
 match aY (λb=>look b h) (bD 0 n) with
 |none=>none
 |some cs=>match rW h 64 (extra++cs.flatMap (·.flatMap C.ids)) (bD 0 n) with
  |none=>none
  |some ids=>match pG h ids with
   |some lh=>some (ids,lh)
   |none=>none
def oK {α:Type} (n:Nat):List α->List (Nat×α)
 | []=>[]
 |x::r=>(n,x)::oK (n+1) r
def AcP (b off:Nat) (s:St):Option St:=match cellOf b off s with
 |some (.arr b' n sz)=>match Al7 s.heap (.arr b' n sz) with
  |some c=>some (cellTo b off c { s with heap:=without [b'] s.heap })
  |none=>none
 |_=>some s
def uR (b off:Nat):Nat->St->Option St
 |0,s=>some s
 |n+1,s=>match AcP b (off+n) s with
  |some s'=>uR b off n s'
  |none=>none
def vT (P:Program):List ResultVar->St->Option St
 | [],s=>some s
 |.tmp _::r,s=>vT P r s
 |.cell a t::r,s=>match look a s.tmps,Ag2 P t,tsz P t with
  |some (.c (.ptr b off)),some true,some n=>match uR b off n s with
   |some s'=>vT P r s'
   |none=>none
  |_,_,_=>vT P r s
def uJ (P:Program) (fn:Func) (n:Nat) (s:St):Option aF:=
 match vT P fn.results.toList s with
 |none=>none
 |some s=>match BhS P s fn.results.toList with
 |some v=>match Af7 s.heap n v.ids with
  |some (ids,lh')=>match v.into ids with
   |some v'=>some (.ret v' lh')
   |none=>none
  |none=>none
 |none=>none
def BhR (P:Program) (s:St) (a t:Nat):Option (List C):=
 match look a s.tmps,Ag2 P t,tsz P t with
 |some (.c (.ptr b off)),some true,some n=>match yG b s.heap with
  |some cs=>if off+n<=cs.length then aY C.told ((cs.drop off).take n) else none
  |none=>none
 |_,_,_=>none
def BjS (P:Program) (s:St):List ResultVar->Option V
 | [.cell a t]=>(BhR P s a t).map .vagg
 |.cell a t::r=>match BhR P s a t,aY (BdC P s) r with
  |some l,some us=>some (.vtup l.length (l++us))
  |_,_=>none
 |_=>none
def BaR (b off:Nat) (s:St):Option St:=match cellOf b off s with
 |some (.nilsl _)=>Aj2 (10000000+1000*b+off) s
 |_=>some s
def Ag4 (b off:Nat):Nat->St->Option St
 |0,s=>some s
 |n+1,s=>match BaR b (off+n) s with
  |some s'=>Ag4 b off n s'
  |none=>none
def AzP (P:Program):List ResultVar->St->Option St
 |.cell a t::_::_,s=>match look a s.tmps,Ag2 P t,tsz P t with
  |some (.c (.ptr b off)),some true,some n=>Ag4 b off n s
  |_,_,_=>some s
 |_,s=>some s
def Ai2 (P:Program) (fn:Func) (n:Nat) (s:St):Option aF:=
 match AzP P fn.results.toList s with
 |none=>none
 |some s=>match BjS P s fn.results.toList with
 |some v=>match Af7 s.heap n v.ids with
  |some (ids,lh')=>match v.into ids with
   |some v'=>some (.ret v' lh')
   |none=>none
  |none=>none
 |none=>none
def Am8 (d:D) (n:Nat) (s:St):Option aF:=
 match Af7 s.heap n [] with
 |some (ids,lh')=>if ids.length=n then some (.pan d lh') else none
 |none=>none
def BbL (o:Oper):Bool:=match o.op,o.guard with
 |.call c,none=>match c.callee with
  |.builtin .recover=>true
  |_=>false
 |_,_=>false
def BdA:Code->Bool
 |.seq (.region _ ops false) _=>match ops.toList with
  | [o,o1]=>BbL o&&match o.dst,o1.op,o1.guard with
   |some d,.assign (.tmp x),none=>d==x
   |_,_,_=>false
  |_=>false
 |_=>false
def AjA (P:Program) (f:Nat):Bool:=match P.funcs[f]? with
 |some fn=>match fn.body with
  |some c=>BdA c
  |none=>false
 |none=>false
def Ba6:Option D->V
 |some d=>.d d
 |none=>.d .nilIface
def Az8 (P:Program) (H:Nat->List Nat) (call:Call) (rounds:Nat) (pan:Option D) (c:Code) (s:St):Option (AX×St):=
 match BdA c with
 |false=>iW P H call rounds c s
 |true=>match c with
  |.seq (.region id ops false) b=>match ops.toList with
   | [o,o1]=>iW P H call rounds b (putDst o1 (Ba6 pan) (putDst o (Ba6 pan) { s with tmps:=uT (H id) s.tmps }))
   |_=>none
  |_=>none
def AaR (args:List C) (lh:List (List C)):St:={ tmps:=oK 0 (args.map λc=>V.c c.plain),heap:=oK 0 lh,nid:=lh.length,defers:=[],pan:=none }
def AoT (P:Program) (H:Nat->Nat->List Nat) (call:Call) (k:Nat) (pan:Option D) (f:Nat) (args:List C) (lh:List (List C)):Option aF:=
 match P.funcs[f]? with
 |some fn=>match fn.body with
  |some code=>
   if args.length=fn.params.size+fn.nfree then
    match Az8 P (H f) call k pan code (AaR args lh) with
    |some (.normal,s)|some (.ret,s)=>if s.defers.isEmpty then uJ P fn lh.length s else none
    |_=>none
   else none
  |none=>none
 |none=>none
def uD (P:Program) (H:Nat->Nat->List Nat) (call:Call) (k:Nat):List (Nat×List Nat)->Option D->St->Option (Option D×St)
 | [],pan,s=>some (pan,s)
 |(g,caps)::r,pan,s=>match mU (AoT P H call k pan) g (caps.map λb=>.ptr b 0) s with
  |some (.val _ s',_)=>uD P H call k r (if AjA P g then none else pan) s'
  |_=>none
def finish (P:Program) (H:Nat->Nat->List Nat) (call:Call) (k:Nat) (fn:Func) (n:Nat):AX->St->Option aF
 |.normal,s|.ret,s=>if s.defers.isEmpty then uJ P fn n s else
  match uD P H call k s.defers none { s with defers:=[] } with
  |some (none,s')=>uJ P fn n s'
  |_=>none
 |.pan d,s=>if s.defers.isEmpty then Am8 d n s else
  match uD P H call k s.defers (some d) { s with defers:=[] } with
  |some (none,s')=>uJ P fn n s'
  |some (some d',s')=>Am8 d' n s'
  |none=>none
 |.exit _,_=>none
def Am0 (P:Program) (E:Nat->Option Call) (H:Nat->Nat->List Nat) (call:Call) (k:Nat) (f:Nat) (args:List C) (lh:List (List C)):Option aF:=
 match E f with
 |some g=>g f args lh
 |none=>
 match P.funcs[f]? with
 |some fn=>match fn.body with
  |some code=>
   if args.length=fn.params.size+fn.nfree then
   match iW P (H f) (call) k code (AaR args lh) with
   |some (x,s)=>finish P H call k fn lh.length x s
   |none=>none
   else none
  |none=>none
 |none=>none
def Am1 (P:Program) (H:Nat->Nat->List Nat) (call:Call) (k:Nat) (g f:Nat) (args:List C) (lh:List (List C)):Option aF:=
 match P.funcs[f]? with
 |some fn=>match fn.body with
  |some code=>
   if args.length=fn.params.size+fn.nfree then
    match iW P (H g) call k code (AaR args lh) with
    |some (.normal,s)|some (.ret,s)=>if s.defers.isEmpty then Ai2 P fn lh.length s else none
    |_=>none
   else none
  |none=>none
 |none=>none
def Aa7 (P:Program) (E:Nat->Option Call) (H:Nat->Nat->List Nat):Nat->Call
 |0,_,_,_=>none
 |k+1,f,args,lh=>match Nat.blt f zQ with
  |true=>Am0 P E H (Aa7 P E H k) k f (if (H f 999999).isEmpty then args.map C.still else args) lh
  |false=>Am1 P H (Aa7 P E H k) k f (f-zQ) (args.map C.still) lh
end Go.AM
namespace Go.AM
open Go
inductive Tag where
 |other
 |ro
 |blk (b:Nat)
 |sp (l:Loc)
 deriving DecidableEq
abbrev Col:=Nat->Nat->Tag
class cU where
 tab:List (Nat×List Value)
abbrev ad (blk off:Nat):Addr:=⟨blk,off,none⟩
def eZ:Value->Bool
 |.agg _=>false
 |.tuple _=>false
 |_=>true
def sG (K:Col) (w:World) (blk off:Nat) (vs:List Value):Prop:=
 ∀i v,vs[i]?=some v->K blk (off+i)=.ro/\w.cell? (ad blk (off+i))=some v
def Ak9 [cU] (K:Col) (w:World):Prop:=∀x∈cU.tab,sG K w x.1 0 x.2
def AuE (v:Value):Prop:=v=.slice none 0 0\/∃a cap,v=.slice (some a) 0 cap
mutual
def Rep (K:Col) (w:World):D->Value->Prop
 |.bool b,v=>v=.bool b
 |.int k n,v=>v=.int k n
 |.str s,v=>v=.string ⟨s.toArray⟩
 |.list sz xs,v=>(xs=[]/\AuE v)\/∃blk off cap,v=.slice (some (ad blk off)) xs.length cap/\xs.length<=cap/\iM K w sz blk off xs
 |.agg cs,v=>∃vs:List Value,v=.agg vs.toArray/\dN K w cs vs
 |.iface t d,v=>∃u,v=.iface t u/\Rep K w d u
 |.nilIface,v=>v=.nilIface
def dN (K:Col) (w:World):List D->List Value->Prop
 | [],vs=>vs=[]
 |d::ds,vs=>∃v r,vs=v::r/\eZ v=true/\Rep K w d v/\dN K w ds r
def iM (K:Col) (w:World) (sz blk off:Nat):List D->Prop
 | []=>True
 |d::ds=>(∃v,Rep K w d v/\v.cells.size=sz/\sG K w blk off v.cells.toList)/\iM K w sz blk (off+sz) ds
end
def Ag8 (v:Value):Prop:=v=.slice none 0 0\/(∃a,v=.slice (some a) 0 0)\/∃blk off n,v=.slice (some (ad blk off)) n n
def AoN (w:World) (b off:Nat):Prop:=(w.cell? (ad b off)).isSome=true/\w.frozen? (ad b off)=false
def Bj5 (v:Value):Prop:=v=.slice none 0 0\/∃a,v=.slice (some a) 0 0
def AiK (μ:Nat->Nat) (w:World) (b n sz:Nat) (v:Value):Prop:=
 (n=0/\Bj5 v)\/(0<n/\∃cap,v=.slice (some (ad (μ b) 0)) n cap/\(n<=cap/\cap<=9223372036854775807)/\∀j,j<cap*sz->AoN w (μ b) j)
theorem AiK.one {μ:Nat->Nat} {w:World} {b n sz:Nat} {v:Value} (h:AiK μ w b n sz v):∃a cap,v=.slice a n cap:=by
 rcases h with ⟨rfl,rfl|⟨a,rfl⟩⟩|⟨_,cap,rfl,_⟩<;>exact⟨_,_,rfl⟩
theorem AiK.based {μ:Nat->Nat} {w:World} {b n sz:Nat} {v:Value} (h:AiK μ w b n sz v) (hn:0<n) :
  ∃cap,v=.slice (some (ad (μ b) 0)) n cap/\(n<=cap/\cap<=9223372036854775807)/\∀j,j<cap*sz->AoN w (μ b) j:=by
 rcases h with ⟨rfl,_⟩|⟨_,h⟩
 ·omega
 exact h
def RepC (K:Col) (μ:Nat->Nat) (w:World):C->Value->Prop
 |.d x,v=>Rep K w x v
 |.own sz xs,v=>Rep K w (.list sz xs) v
 |.ptr b off,v=>v=.pointer (some (ad (μ b) off))
 |.nilptr,v=>v=.pointer none
 |.fn f caps,v=>v=.func (.func f) #[] (caps.map λb=>Value.pointer (some (ad (μ b) 0))).toArray
 |.nilfn,v=>v=.nilFunc
 |.bfn f x,v=>∃u,v=.func (.func f) #[u] #[]/\Rep K w x u
 |.nilmap,v=>v=.map none
 |.nilchan,v=>v=.chan none
 |.nilsl _,v=>v=.slice none 0 0
 |.full sz xs,v=>Rep K w (.list sz xs) v/\Ag8 v
 |.arr b n sz,v=>AiK μ w b n sz v
 |.mp b,v=>v=.map (some (μ b))
 |.ment _,_=>False
 |.mdat _,_=>False
 |.seq _ _,_=>False
 |.hid,_=>True
 |.undef,v=>v=Go.undef
inductive aZ (K:Col) (μ:Nat->Nat) (w:World):List C->List Value->Prop where
 |nil:aZ K μ w [] []
 |cons {c:C} {v:Value} {cs:List C} {vs:List Value}:RepC K μ w c v->aZ K μ w cs vs->aZ K μ w (c::cs) (v::vs)
def bY (K:Col) (μ:Nat->Nat) (w:World):V->Value->Prop
 |.c x,v=>RepC K μ w x v
 |.view _ sz xs,v=>Rep K w (.list sz xs) v
 |.rptr cells,v=>∃blk off vs,v=.pointer (some (ad blk off))/\sG K w blk off vs/\dN K w cells vs
 |.vagg cs,v=>∃vs:List Value,v=.agg vs.toArray/\aZ K μ w cs vs/\∀x∈vs,eZ x=true
 |.vtup n cs,v=>∃vs:List Value,v=.tuple (Value.agg (vs.take n).toArray::vs.drop n).toArray/\aZ K μ w cs vs/\∀x∈vs.take n,eZ x=true
 |.tuple cs,v=>∃vs:List Value,v=.tuple vs.toArray/\aZ K μ w cs vs
def rL (K:Col) (w:World) (l:Loc) (sz:Nat) (v:Value):Prop:=
 (v=.slice none 0 0\/∃a,v=.slice (some a) 0 0)\/∃blk off len cap,v=.slice (some (ad blk off)) len cap/\len<=cap /\
  ∀j,len*sz<=j->j<cap*sz->K blk (off+j)=.sp l/\(w.cell? (ad blk (off+j))).isSome=true/\w.frozen? (ad blk (off+j))=false
structure Step (W:Tag->Prop) (K:Col) (w:World) (K':Col) (w':World):Prop where
 os:w'.os=w.os
 tape:w'.tape=w.tape
 output:w'.output=w.output
 size:w.heap.size<=w'.heap.size
 block:∀b,b<w.heap.size->(∀off,¬W (K b off))->w'.heap[b]?=w.heap[b]?
 cell:∀b off,b<w.heap.size->¬W (K b off)->w'.cell? (ad b off)=w.cell? (ad b off)/\w'.frozen? (ad b off)=w.frozen? (ad b off)/\K' b off=K b off
 ex:∀b off,AoN w b off->AoN w' b off
def iD (t:Tag):Prop:=t≠.ro/\t≠.other
theorem Step.refl (W:Tag->Prop) (K:Col) (w:World):Step W K w K w:=
 ⟨rfl,rfl,rfl,Nat.le_refl _,λ_ _ _=>rfl,λ_ _ _ _=>⟨rfl,rfl,rfl⟩,λ_ _ h=>h⟩
theorem Step.mono {W W':Tag->Prop} {K K':Col} {w w':World} (h:Step W K w K' w') (hw:∀t,W t->W' t):Step W' K w K' w':=
 ⟨h.os,h.tape,h.output,h.size,λb hb hn=>h.block b hb λoff ho=>hn off (hw _ ho),λb off hb hn=>h.cell b off hb λho=>hn (hw _ ho),h.ex⟩
theorem Step.trans {W:Tag->Prop} {K₀ K₁ K₂:Col} {w₀ w₁ w₂:World} (h:Step W K₀ w₀ K₁ w₁) (k:Step W K₁ w₁ K₂ w₂):Step W K₀ w₀ K₂ w₂:=by
 refine⟨k.os.trans h.os,k.tape.trans h.tape,k.output.trans h.output,Nat.le_trans h.size k.size,λb hb hn=>?_,λb off hb hn=>?_,λb off hx=>k.ex b off (h.ex b off hx)⟩
 ·refine (k.block b (Nat.lt_of_lt_of_le hb h.size) λoff=>?_).trans (h.block b hb hn)
  rw[(h.cell b off hb (hn off)).2.2]; exact hn off
 have h1:=h.cell b off hb hn
 have h2:=k.cell b off (Nat.lt_of_lt_of_le hb h.size) (by rw[h1.2.2]; exact hn)
 exact⟨h2.1.trans h1.1,h2.2.1.trans h1.2.1,h2.2.2.trans h1.2.2⟩
theorem block_lt {w:World} {blk off:Nat} {v:Value} (h:w.cell? (ad blk off)=some v):blk<w.heap.size:=
 World.block_lt_of_cell? w (ad blk off) (by exact h)
section
variable {W:Tag->Prop} {K K':Col} {w w':World}
theorem sG.step (hs:Step W K w K' w') (hro:¬W .ro) {blk off:Nat} {vs:List Value} (h:sG K w blk off vs):sG K' w' blk off vs:=by
 intro i v hv
 obtain⟨h1,h2⟩:=h i v hv
 have h3:=hs.cell blk (off+i) (block_lt h2) (by rw[h1]; exact hro)
 exact⟨h3.2.2.trans h1,h3.1.trans h2⟩
theorem Ak9.step [cU] (hs:Step W K w K' w') (hro:¬W .ro) (h:Ak9 K w):Ak9 K' w':=λx hx=>(h x hx).step hs hro
mutual
theorem Rep.step (hs:Step W K w K' w') (hro:¬W .ro):∀(d:D) (v:Value),Rep K w d v->Rep K' w' d v
 |.bool _,_,h=>h
 |.int _ _,_,h=>h
 |.str _,_,h=>h
 |.list sz xs,v,h=>by
  simp only[Rep] at h ⊢
  rcases h with h|⟨blk,off,cap,rfl,hc,he⟩
  ·exact .inl h
  exact .inr ⟨blk,off,cap,rfl,hc,iM.step hs hro xs sz blk off he⟩
 |.agg cs,v,h=>by
  simp only[Rep] at h ⊢
  obtain⟨vs,rfl,hl⟩:=h
  exact⟨vs,rfl,dN.step hs hro cs vs hl⟩
 |.iface t d,v,h=>by
  simp only[Rep] at h ⊢
  obtain⟨u,rfl,hu⟩:=h
  exact⟨u,rfl,Rep.step hs hro d u hu⟩
 |.nilIface,_,h=>h
theorem dN.step (hs:Step W K w K' w') (hro:¬W .ro):∀(ds:List D) (vs:List Value),dN K w ds vs->dN K' w' ds vs
 | [],_,h=>h
 |d::ds,vs,h=>by
  simp only[dN] at h ⊢
  obtain⟨v,r,rfl,h1,hd,hr⟩:=h
  exact⟨v,r,rfl,h1,Rep.step hs hro d v hd,dN.step hs hro ds r hr⟩
theorem iM.step (hs:Step W K w K' w') (hro:¬W .ro):∀(ds:List D) (sz blk off:Nat),iM K w sz blk off ds->iM K' w' sz blk off ds
 | [],_,_,_,_=>by simp only[iM]
 |d::ds,sz,blk,off,h=>by
  simp only[iM] at h ⊢
  obtain⟨⟨v,hd,hz,hc⟩,hr⟩:=h
  exact⟨⟨v,Rep.step hs hro d v hd,hz,hc.step hs hro⟩,iM.step hs hro ds sz blk (off+sz) hr⟩
end
theorem AiK.step (hs:Step W K w K' w') {μ:Nat->Nat} {b n sz:Nat} {v:Value} (h:AiK μ w b n sz v):AiK μ w' b n sz v:=by
 rcases h with h|⟨h0,cap,h1,h2,h3⟩
 ·exact .inl h
 exact .inr ⟨h0,cap,h1,h2,λj hj=>hs.ex _ _ (h3 j hj)⟩
theorem RepC.step (hs:Step W K w K' w') (hro:¬W .ro) {μ:Nat->Nat} {c:C} {v:Value} (h:RepC K μ w c v):RepC K' μ w' c v:=by
 cases c with
 |d x=>exact Rep.step hs hro x v h
 |own sz xs=>exact Rep.step hs hro (.list sz xs) v h
 |full sz xs=>exact⟨Rep.step hs hro (.list sz xs) v h.1,h.2⟩
 |arr b n sz=>exact AiK.step hs h
 |bfn f x=>obtain⟨u,rfl,hu⟩:=h; exact⟨u,rfl,hu.step hs hro⟩
 |_=>exact h
theorem aZ.step (hs:Step W K w K' w') (hro:¬W .ro) {μ:Nat->Nat} {cs:List C} {vs:List Value} (h:aZ K μ w cs vs):aZ K' μ w' cs vs:=by
 induction h with
 |nil=>exact .nil
 |cons h _ ih=>exact .cons (h.step hs hro) ih
theorem bY.step (hs:Step W K w K' w') (hro:¬W .ro) {μ:Nat->Nat} {c:V} {v:Value} (h:bY K μ w c v):bY K' μ w' c v:=by
 cases c with
 |c x=>exact RepC.step hs hro h
 |view l sz xs=>exact Rep.step hs hro (.list sz xs) v h
 |rptr cells=>
  obtain⟨blk,off,vs,h1,h2,h3⟩:=h
  exact⟨blk,off,vs,h1,h2.step hs hro,dN.step hs hro _ _ h3⟩
 |vagg cs=>
  obtain⟨vs,h1,h2,h3⟩:=h
  exact⟨vs,h1,h2.step hs hro,h3⟩
 |vtup nn cs=>
  obtain⟨vs,h1,h2,h3⟩:=h
  exact⟨vs,h1,h2.step hs hro,h3⟩
 |tuple cs=>
  obtain⟨vs,h1,h2⟩:=h
  exact⟨vs,h1,h2.step hs hro⟩
theorem rL.step (hs:Step W K w K' w') {l:Loc} (hl:¬W (.sp l)) {sz:Nat} {v:Value} (h:rL K w l sz v):rL K' w' l sz v:=by
 rcases h with h|⟨blk,off,len,cap,h1,h2,h3⟩
 ·exact .inl h
 refine .inr ⟨blk,off,len,cap,h1,h2,λj hj hj'=>?_⟩
 obtain⟨ha,hb,hc⟩:=h3 j hj hj'
 obtain⟨u,hu⟩:=Option.isSome_iff_exists.1 hb
 have h4:=hs.cell blk (off+j) (block_lt hu) (by rw[ha]; exact hl)
 exact⟨h4.2.2.trans ha,by rw[h4.1]; exact hb,h4.2.1.trans hc⟩
end
theorem RepC.mu {K:Col} {μ μ':Nat->Nat} {w:World} {c:C} {v:Value} (hm:∀b∈c.ids,μ' b=μ b) (h:RepC K μ w c v):RepC K μ' w c v:=by
 cases c with
 |ptr b off=>simp only[RepC] at h ⊢; rw[hm b (by simp[C.ids])]; exact h
 |arr b n sz=>simp only[RepC,AiK] at h ⊢; rw[hm b (by simp[C.ids])]; exact h
 |mp b=>simp only[RepC] at h ⊢; rw[hm b (by simp[C.ids])]; exact h
 |fn f caps=>
  simp only[RepC] at h ⊢
  rw[h]
  congr 2
  refine List.map_congr_left λb hb=>?_
  rw[hm b (by simpa[C.ids] using hb)]
 |_=>exact h
theorem aZ.mu {K:Col} {μ μ':Nat->Nat} {w:World} {cs:List C} {vs:List Value} (hm:∀c∈cs,∀b∈c.ids,μ' b=μ b) (h:aZ K μ w cs vs):aZ K μ' w cs vs:=by
 induction h with
 |nil=>exact .nil
 |cons h _ ih=>exact .cons (h.mu (hm _ sM)) (ih λc hc=>hm c (by simp[hc]))
theorem bY.mu {K:Col} {μ μ':Nat->Nat} {w:World} {c:V} {v:Value} (hm:∀b∈c.ids,μ' b=μ b) (h:bY K μ w c v):bY K μ' w c v:=by
 cases c with
 |c x=>exact RepC.mu hm h
 |view l sz xs=>exact h
 |rptr cells=>exact h
 |vagg cs=>
  obtain⟨vs,h1,h2,h3⟩:=h
  exact⟨vs,h1,h2.mu λc hc b hb=>hm b (by simp only[V.ids,List.mem_flatMap]; exact⟨c,hc,hb⟩),h3⟩
 |vtup nn cs=>
  obtain⟨vs,h1,h2,h3⟩:=h
  exact⟨vs,h1,h2.mu λc hc b hb=>hm b (by simp only[V.ids,List.mem_flatMap]; exact⟨c,hc,hb⟩),h3⟩
 |tuple cs=>
  obtain⟨vs,h1,h2⟩:=h
  exact⟨vs,h1,h2.mu λc hc b hb=>hm b (by simp only[V.ids,List.mem_flatMap]; exact⟨c,hc,hb⟩)⟩
end Go.AM
namespace Go.AM
open Go
variable [cU]
def fV (K:Col) (μ:Nat->Nat) (w:World) (b:Nat) (cells:List C):Prop:=
 ∀i c,cells[i]?=some c->c≠.hid->∃v,w.cell? (ad (μ b) i)=some v/\eZ v=true/\w.frozen? (ad (μ b) i)=false /\
  RepC K μ w c v/\∀sz xs,c=.own sz xs->rL K w (.cell b i) sz v
def hU (K:Col) (μ:Nat->Nat) (w:World):List (D×MV)->List MapEntry->Prop
 | [],es=>es=[]
 |(k,m)::r,es=>∃e es',es=e::es'/\Rep K w k e.key/\RepC K μ w m.toC e.val/\hU K μ w r es'
def AdD (es:List MapEntry) (clk:Nat):Prop:=(∀x∈es,x.born<clk)/\(es.map (·.born)).Nodup
theorem AdD.nil (c:Nat):AdD [] c:=⟨sM,sM⟩
theorem AdD.push {es:List MapEntry} {clk:Nat} (h:AdD es clk) {e:MapEntry} (he:e.born=clk):AdD (es++[e]) (clk+1):=by
 refine⟨λx hx=>?_,?_⟩
 ·rcases List.mem_append.1 hx with hx|hx
  ·have:=h.1 x hx; omega
  ·simp only[List.mem_singleton] at hx; subst hx; omega
 rw[List.map_append]
 refine List.nodup_append.2 ⟨h.2,sM,?_⟩
 intro x hx y hy e'
 simp only[List.map_cons,List.map_nil,List.mem_singleton] at hy
 subst e' hy
 obtain⟨z,hz,hzb⟩:=List.mem_map.1 hx
 have:=h.1 z hz
 omega
theorem AdD.same {es es':List MapEntry} {clk:Nat} (h:AdD es clk) (he:es'.map (·.born)=es.map (·.born)):AdD es' clk:=by
 refine⟨λx hx=>?_,by rw[he]; exact h.2⟩
 have:x.born∈es.map (·.born):=by rw[←he]; exact List.mem_map_of_mem hx
 obtain⟨z,hz,hzb⟩:=List.mem_map.1 this
 rw[←hzb]; exact h.1 z hz
def AlZ (K:Col) (μ:Nat->Nat) (w:World) (g:Nat) (kvs:List (D×MV)):Prop:=
 ∃es clk,w.heap[g]?=some (.map es clk)/\hU K μ w kvs es.toList/\AdD es.toList clk
def BaO (sz:Nat) (ds:List D):Prop:=0<sz/\∀d∈ds,d.cells.length=sz
def BdV (cells:List C):Prop:=∀sz ds,cells=[.seq sz ds]->BaO sz ds
inductive Ac3:List C->Prop where
 |mk (sz:Nat) (h:0<sz):Ac3 [.seq sz []]
def lF (K:Col) (μ:Nat->Nat) (w:World) (b:Nat) (cells:List C):Prop:=
 Ac3 cells\/(∀off,cells[off]?≠some .hid->K (μ b) off=.blk b)/\μ b<w.heap.size /\
 ((mapOf cells=none/\fV K μ w b (fK cells)/\BdV cells)\/∃kvs,mapOf cells=some kvs/\AlZ K μ w (μ b) kvs)
theorem mP {cells:List C} (h:Ac3 cells):∃sz,cells=[.seq sz []]/\0<sz:=by
 cases h with|mk sz h=>exact⟨_,rfl,h⟩
theorem lF.old {K:Col} {μ:Nat->Nat} {w:World} {b:Nat} {cells:List C} (h:lF K μ w b cells) (hn:¬Ac3 cells) :
 (∀off,cells[off]?≠some .hid->K (μ b) off=.blk b)/\μ b<w.heap.size /\
 ((mapOf cells=none/\fV K μ w b (fK cells)/\BdV cells)\/∃kvs,mapOf cells=some kvs/\AlZ K μ w (μ b) kvs):=h.resolve_left hn
theorem lF.tag {K:Col} {μ:Nat->Nat} {w:World} {b off:Nat} {cells:List C} (h:lF K μ w b cells) (hr:¬Ac3 cells) (hn:cells[off]?≠some .hid):K (μ b) off=.blk b:=
 (h.old hr).1 off hn
theorem yS {cells:List C} {off:Nat} {c:C} (h:cells[off]?=some c) (hc:∀sz,c≠.seq sz []):¬Ac3 cells:=by
 intro hr
 obtain⟨sz,rfl,_⟩:=mP hr
 cases off with
 |zero=>simp at h; exact hc sz h.symm
 |succ n=>simp at h
theorem yO {b:Nat} {h:List (Nat×List C)} {cs:List C} (e:yG b h=some cs):∃cs0,look b h=some cs0/\mapOf cs0=none/\cs=fK cs0:=by
 unfold yG at e
 split at e
 ·rename_i cs' hl
  split at e
  ·rename_i hm
   refine⟨_,hl,hm,?_⟩
   split at e
   ·simp only[sJ] at e
    exact e.symm
   rename_i hns
   simp only[sJ] at e
   rw[←e]
   unfold fK
   split
   ·exact absurd rfl (hns _ _)
   rfl
  simp at e
 simp at e
omit [cU] in
theorem AeH:∀{n:Nat} {cells:List C},AbA n cells=false->∀o:Nat,o<n->cells[o]?≠some C.hid
 |0,_,_,o,ho=>by omega
 |n+1,[],_,o,ho=>by simp
 |n+1,c::r,h,o,ho=>by
  cases o with
  |zero=>
   simp only[List.getElem?_cons_zero,ne_eq,sJ]
   rintro rfl
   simp[AbA] at h
  |succ o=>
   simp only[List.getElem?_cons_succ]
   have h':AbA n r=false:=by
    unfold AbA at h
    split at h
    ·simp at h
    exact h
   exact AeH h' o oM
theorem qD {ds:List D} {c:C} (h:c∈fL ds):∃d,c=.d d:=by
 simp only[fL,List.mem_flatMap,List.mem_map] at h
 obtain⟨_,_,x,_,rfl⟩:=h
 exact⟨x,rfl⟩
theorem AaY {cs:List C} {c:C} (h:c∈fK cs):c∈cs\/∃d,c=.d d:=by
 unfold fK at h
 split at h
 ·exact .inr (qD h)
 exact .inl h
theorem fD {cs:List C} (h:∀sz ds,cs≠[.seq sz ds]):fK cs=cs:=by
 unfold fK
 split
 ·exact absurd rfl (h _ _)
 rfl
theorem ApY {cs:List C} {off:Nat} (h:(fK cs)[off]?≠some .hid):cs[off]?≠some .hid:=by
 intro e
 by_cases hq:∃sz ds,cs=[.seq sz ds]
 ·obtain⟨sz,ds,rfl⟩:=hq
  cases off<;>simp at e
 rw[fD λsz ds e=>hq ⟨sz,ds,e⟩] at h
 exact h e
theorem Ai6 {cs:List C} {off sz:Nat} {xs:List D} (h:(fK cs)[off]?=some (.own sz xs)):fK cs=cs:=by
 refine fD ?_
 rintro z ds rfl
 obtain⟨d,hd⟩:=qD (List.mem_of_getElem? h)
 simp at hd
theorem AeU {cs:List C} {off sz:Nat} {xs:List D} (h:cs[off]?=some (.own sz xs)):fK cs=cs:=by
 refine fD ?_
 rintro z ds rfl
 cases off<;>simp at h
theorem iN {cs:List C} {kvs:List (D×MV)} (h:mapOf cs=some kvs):cs=[.ment kvs]\/∃l,cs=[.mdat l]/\kvs=l.map dmv:=by
 unfold mapOf at h
 split at h
 ·simp only[sJ] at h; subst h; exact .inl rfl
 ·simp only[sJ] at h; subst h; exact .inr ⟨_,rfl,rfl⟩
 simp at h
theorem AtI {k v:D}:∀{l:List (D×D)} {kvs:List (D×MV)},AlR k (.d v) (l.map dmv)=some kvs->∃l',AmR k v l=some l'/\kvs=l'.map dmv
 | [],kvs,h=>by simp only[List.map_nil,AlR,sJ] at h; subst h; exact⟨_,rfl,rfl⟩
 |(k',v')::r,kvs,h=>by
  simp only[List.map_cons,dmv,AlR] at h
  split at h
  ·rename_i he
   simp only[sJ] at h; subst h
   exact⟨(k,v)::r,by simp only[AmR,he],rfl⟩
  ·rename_i he
   simp only[Option.map_eq_some_iff] at h
   obtain⟨kvs',h1,rfl⟩:=h
   obtain⟨l',h2,rfl⟩:=AtI h1
   exact⟨(k',v')::l',by simp only[AmR,he,h2,Option.map_some],rfl⟩
  simp at h
theorem AqH {cs:List C} {k:D} {m:MV} {kvs kvs':List (D×MV)} (hm:mapOf cs=some kvs) (h:AlR k m kvs=some kvs'):mapOf [BbJ cs k m kvs']=some kvs':=by
 unfold BbJ
 split
 ·rename_i l v
  simp only[mapOf,sJ] at hm; subst hm
  obtain⟨l',h1,rfl⟩:=AtI h
  rw[h1]; rfl
 rfl
theorem AiC {cs:List C} {kvs:List (D×MV)} (h:mapOf cs=some kvs):∃c,cs=[c]/\mapOf [c]=some kvs/\(∀x∈kvs,∀i∈x.2.ids,i∈c.ids)/\(∀i∈c.ids,∃x∈kvs,i∈x.2.ids):=by
 rcases iN h with rfl|⟨l,rfl,rfl⟩
 ·exact⟨_,rfl,h,λx hx i hi=>by simp only[C.ids,List.mem_flatMap]; exact⟨x,hx,hi⟩,λi hi=>by simp only[C.ids,List.mem_flatMap] at hi; exact hi⟩
 refine⟨_,rfl,h,λx hx i hi=>?_,λi hi=>by simp[C.ids] at hi⟩
 obtain⟨y,_,rfl⟩:=List.mem_map.1 hx
 simp[dmv,MV.ids] at hi
theorem lF.cells {K:Col} {μ:Nat->Nat} {w:World} {b:Nat} {cells:List C} (h:lF K μ w b cells) (hm:mapOf cells=none):fV K μ w b (fK cells):=by
 rcases h with h|h
 ·obtain⟨sz,rfl,_⟩:=mP h
  intro i c hi
  simp[fK,fL] at hi
 rcases h.2.2 with ⟨_,h,_⟩|⟨kvs,h,_⟩
 ·exact h
 rw[hm] at h; simp at h
theorem lF.seq {K:Col} {μ:Nat->Nat} {w:World} {b:Nat} {sz:Nat} {ds:List D} (h:lF K μ w b [.seq sz ds]):fV K μ w b (fL ds)/\BaO sz ds:=by
 rcases h with h|h
 ·obtain⟨sz',e,h0⟩:=mP h
  simp only[List.cons.injEq,C.seq.injEq,and_true] at e
  obtain⟨rfl,rfl⟩:=e
  exact⟨λi c hi=>by simp[fL] at hi,h0,sM⟩
 rcases h.2.2 with ⟨_,h,h2⟩|⟨kvs,h,_⟩
 ·exact⟨h,h2 _ _ rfl⟩
 simp[mapOf] at h
theorem lF.map {K:Col} {μ:Nat->Nat} {w:World} {b:Nat} {cells:List C} {kvs:List (D×MV)} (h:lF K μ w b cells) (hm:mapOf cells=some kvs):AlZ K μ w (μ b) kvs:=by
 rcases h with h|h
 ·obtain⟨sz',rfl,_⟩:=mP h
  simp[mapOf] at hm
 rcases h.2.2 with ⟨h,_⟩|⟨kvs',h,h'⟩
 ·rw[hm] at h; simp at h
 rw[hm,sJ] at h; subst h; exact h'
theorem fV.nomap {K:Col} {μ:Nat->Nat} {w:World} {b:Nat} {cells:List C} (h:fV K μ w b cells):mapOf cells=none:=by
 cases hm:mapOf cells with
 |none=>rfl
 |some kvs=>
  rcases iN hm with rfl|⟨l,rfl,rfl⟩
  ·obtain⟨v,_,_,_,hr,_⟩:=h 0 (.ment kvs) sM sM
   exact hr.elim
  obtain⟨v,_,_,_,hr,_⟩:=h 0 (.mdat l) sM sM
  exact hr.elim
theorem fV.noseq {K:Col} {μ:Nat->Nat} {w:World} {b:Nat} {cells:List C} (h:fV K μ w b cells):∀sz ds,cells≠[.seq sz ds]:=by
 rintro sz ds rfl
 obtain⟨v,_,_,_,hr,_⟩:=h 0 (.seq sz ds) sM sM
 exact hr.elim
theorem fV.blk {K:Col} {μ:Nat->Nat} {w:World} {b:Nat} {cells:List C} (h:fV K μ w b cells):mapOf cells=none/\fV K μ w b (fK cells)/\BdV cells:=
 ⟨h.nomap,by rw[fD h.noseq]; exact h,λsz ds e=>absurd e (h.noseq sz ds)⟩
theorem hU.step {W:Tag->Prop} {K K':Col} {μ:Nat->Nat} {w w':World} (hs:Step W K w K' w') (hro:¬W .ro):∀{kvs:List (D×MV)} {es:List MapEntry},hU K μ w kvs es->hU K' μ w' kvs es
 | [],_,h=>h
 |(k,m)::r,es,h=>by
  simp only[hU] at h ⊢
  obtain⟨e,es',rfl,h1,h2,h3⟩:=h
  exact⟨e,es',rfl,h1.step hs hro,h2.step hs hro,hU.step hs hro h3⟩
theorem AlZ.step {W:Tag->Prop} {K K':Col} {μ:Nat->Nat} {w w':World} (hs:Step W K w K' w') (hro:¬W .ro) {g:Nat} {kvs:List (D×MV)} (hlt:g<w.heap.size) (hW:∀off,¬W (K g off)) (h:AlZ K μ w g kvs):AlZ K' μ w' g kvs:=by
 obtain⟨es,clk,h1,h2,h3⟩:=h
 exact⟨es,clk,(hs.block g hlt hW).trans h1,h2.step hs hro,h3⟩
def Ar7 (μ:Nat->Nat) (s:St) (a:Act) (w:World) (l:Loc) (v:Value):Prop:=
 match l with
 |.tmp u=>∀sz xs,look u s.tmps=some (.c (.own sz xs))->a.tmps.getD u Go.undef=v
 |.cell b off=>∀cells sz xs,look b s.heap=some cells->cells[off]?=some (.own sz xs)->w.cell? (ad (μ b) off)=some v
def AbE (μ:Nat->Nat) (x:Nat×List Nat):Deferred:=
 { target:=.fn (.func x.1) (x.2.map λb=>Value.pointer (some (ad (μ b) 0))).toArray,args:=#[] }
structure Sim (K:Col) (μ:Nat->Nat) (s:St) (a:Act) (w:World):Prop where
 tm:∀t V,look t s.tmps=some V->t<a.tmps.size/\bY K μ w V (a.tmps.getD t Go.undef)
 tids:∀t V,look t s.tmps=some V->∀b∈V.ids,b<s.nid
 own:∀t sz xs,look t s.tmps=some (.c (.own sz xs))->rL K w (.tmp t) sz (a.tmps.getD t Go.undef)
 view:∀t l sz xs,look t s.tmps=some (.view l sz xs)->Ar7 μ s a w l (a.tmps.getD t Go.undef)
 heap:∀b cells,look b s.heap=some cells->b<s.nid/\(∀c∈cells,∀i∈c.ids,i<s.nid)/\lF K μ w b cells
 bound:∀blk off,w.heap.size<=blk->K blk off=.other
 defs:a.defers=s.defers.map (AbE μ)
 dids:∀x∈s.defers,∀b∈x.2,b<s.nid
 glob:Ak9 K w
section
variable {K:Col} {μ:Nat->Nat} {w:World}
theorem xH {d:D} {v:Value} (h:Rep K w d v) (hd:∀cs,d≠.agg cs):eZ v=true:=by
 cases d with
 |agg cs=>exact absurd rfl (hd cs)
 |list sz xs=>simp only[Rep] at h; rcases h with ⟨_,rfl|⟨_,_,rfl⟩⟩|⟨_,_,_,rfl,_⟩<;>rfl
 |iface t d=>simp only[Rep] at h; obtain⟨_,rfl,_⟩:=h; rfl
 |bool b=>simp only[Rep] at h; subst h; rfl
 |int k n=>simp only[Rep] at h; subst h; rfl
 |str l=>simp only[Rep] at h; subst h; rfl
 |nilIface=>simp only[Rep] at h; subst h; rfl
theorem C.toD_rep {c:C} {d:D} {v:Value} (h:c.toD=some d) (hr:RepC K μ w c v):Rep K w d v:=by
 cases c with
 |d x=>simp only[C.toD,sJ] at h; subst h; exact hr
 |own sz xs=>simp only[C.toD,sJ] at h; subst h; exact hr
 |nilsl sz=>simp only[C.toD,sJ] at h; subst h; simp only[Rep]; exact .inl ⟨sM,.inl hr⟩
 |full sz xs=>simp only[C.toD,sJ] at h; subst h; exact hr.1
 |_=>simp[C.toD] at h
theorem C.plain_rep {c:C} {v:Value} (hr:RepC K μ w c v):RepC K μ w c.plain v:=by
 cases c<;>exact hr
theorem C.plain_ids (c:C):c.plain.ids=c.ids:=by cases c<;>rfl
theorem Ab9:∀{cs:List C} {ds:List D} {vs:List Value},AjI cs=some ds->aZ K μ w cs vs->(∀x∈vs,eZ x=true)->dN K w ds vs
 | [],ds,vs,h,hr,_=>by
  simp only[AjI,sJ] at h; subst h
  cases hr; simp[dN]
 |c::cs,ds,vs,h,hr,h1=>by
  cases hr with
  |cons hc hcs=>
   simp only[AjI] at h
   split at h
   ·rename_i x xs hx hxs
    simp only[sJ] at h; subst h
    simp only[dN]
    exact⟨_,_,rfl,h1 _ sM,C.toD_rep hx hc,Ab9 hxs hcs λx hx=>h1 x (by simp[hx])⟩
   simp at h
theorem dN.cs:∀{ds:List D} {vs:List Value},dN K w ds vs->aZ K μ w (ds.map .d) vs/\∀x∈vs,eZ x=true
 | [],vs,h=>by simp only[dN] at h; subst h; exact⟨.nil,sM⟩
 |d::ds,vs,h=>by
  simp only[dN] at h
  obtain⟨v,r,rfl,h1,hd,hr⟩:=h
  obtain⟨h2,h3⟩:=dN.cs hr
  exact⟨.cons hd h2,by intro x hx; rcases List.mem_cons.1 hx with rfl|hx; exact h1; exact h3 x hx⟩
theorem V.toD_rep {V:V} {d:D} {v:Value} (h:V.toD=some d) (hr:bY K μ w V v):Rep K w d v:=by
 cases V with
 |c x=>exact C.toD_rep h hr
 |view l sz xs=>simp only[V.toD,sJ] at h; subst h; exact hr
 |vagg cs=>
  simp only[V.toD,Option.map_eq_some_iff] at h
  obtain⟨ds,h,rfl⟩:=h
  obtain⟨vs,rfl,hcs,h1⟩:=hr
  simp only[Rep]
  exact⟨vs,rfl,Ab9 h hcs h1⟩
 |vtup _ _=>simp[V.toD] at h
 |rptr _=>simp[V.toD] at h
 |tuple _=>simp[V.toD] at h
theorem wV {v:Value} (h:eZ v=true):v.cells=#[v]:=by cases v<;>first|rfl|simp[eZ] at h
theorem V.cells_rep {V:V} {cs:List C} {v:Value} (h:V.cells=some cs) (hr:bY K μ w V v) :
  aZ K μ w cs v.cells.toList/\∀x∈v.cells.toList,eZ x=true:=by
 have one:∀(c:C),(∀cs,c≠.d (.agg cs))->c≠.undef->c≠.hid->RepC K μ w c v->aZ K μ w [c] v.cells.toList/\∀x∈v.cells.toList,eZ x=true:=by
  intro c hc hu hh hr
  have h1:eZ v=true:=by
   cases c with
   |d x=>exact xH hr λcs e=>hc cs (by rw[e])
   |own sz xs=>exact xH (d:=.list sz xs) hr sM
   |undef=>exact absurd rfl hu
   |hid=>exact absurd rfl hh
   |ment kvs=>exact hr.elim
   |mdat l=>exact hr.elim
   |seq sz ds=>exact hr.elim
   |full sz xs=>exact xH (d:=.list sz xs) hr.1 sM
   |arr b n sz=>obtain⟨_,_,rfl⟩:=AiK.one hr; rfl
   |bfn f x=>obtain⟨_,rfl,_⟩:=hr; rfl
   |_=>simp only[RepC] at hr; subst hr; rfl
  rw[wV h1]
  exact⟨.cons hr .nil,by simpa using h1⟩
 cases V with
 |c x=>
  cases x with
  |d x=>
   cases x with
   |agg ds=>
    simp only[V.cells,sJ] at h; subst h
    simp only[bY,RepC,Rep] at hr
    obtain⟨vs,rfl,hl⟩:=hr
    simpa[Value.cells] using dN.cs (μ:=μ) hl
   |_=>simp only[V.cells,sJ] at h; subst h; exact one _ sM sM sM hr
  |undef=>simp[V.cells] at h
  |hid=>simp[V.cells] at h
  |_=>simp only[V.cells,sJ] at h; subst h; exact one _ sM sM sM hr
 |view l sz xs=>simp only[V.cells,sJ] at h; subst h; exact one (.d (.list sz xs)) sM sM sM hr
 |vagg ds=>
  simp only[V.cells,sJ] at h; subst h
  obtain⟨vs,rfl,hcs,h1⟩:=hr
  simpa[Value.cells] using ⟨hcs,h1⟩
 |vtup _ _=>simp[V.cells] at h
 |rptr _=>simp[V.cells] at h
 |tuple _=>simp[V.cells] at h
theorem V.cells_ids {V:V} {cs:List C} (h:V.cells=some cs):∀c∈cs,∀b∈c.ids,b∈V.ids:=by
 cases V with
 |c x=>
  cases x with
  |d x=>
   cases x with
   |agg ds=>
    simp only[V.cells,sJ] at h; subst h
    intro c hc b hb
    simp only[List.mem_map] at hc
    obtain⟨d,_,rfl⟩:=hc
    simp[C.ids] at hb
   |_=>simp only[V.cells,sJ] at h; subst h; intro c hc b hb; simp at hc; subst hc; exact hb
  |undef=>simp[V.cells] at h
  |hid=>simp[V.cells] at h
  |_=>simp only[V.cells,sJ] at h; subst h; intro c hc b hb; simp at hc; subst hc; exact hb
 |view l sz xs=>simp only[V.cells,sJ] at h; subst h; intro c hc b hb; simp at hc; subst hc; simp[C.ids] at hb
 |vagg ds=>
  simp only[V.cells,sJ] at h; subst h
  intro c hc b hb
  simp only[V.ids,List.mem_flatMap]; exact⟨c,hc,hb⟩
 |vtup _ _=>simp[V.cells] at h
 |rptr _=>simp[V.cells] at h
 |tuple _=>simp[V.cells] at h
theorem aZ.length {cs:List C} {vs:List Value} (h:aZ K μ w cs vs):cs.length=vs.length:=by
 induction h with
 |nil=>rfl
 |cons _ _ ih=>simp[ih]
theorem aZ.get {cs:List C} {vs:List Value} (h:aZ K μ w cs vs):∀{i:Nat} {c:C},cs[i]?=some c->∃v,vs[i]?=some v/\RepC K μ w c v:=by
 induction h with
 |nil=>intro i c h; simp at h
 |cons hc _ ih=>
  intro i c h
  cases i with
  |zero=>simp at h; subst h; exact⟨_,sM,hc⟩
  |succ i=>simp at h; obtain⟨v,hv,hr⟩:=ih h; exact⟨v,by simpa using hv,hr⟩
theorem aZ.of_get:∀{cs:List C} {vs:List Value},cs.length=vs.length->(∀(i:Nat) (c:C) (v:Value),cs[i]?=some c->vs[i]?=some v->RepC K μ w c v)->aZ K μ w cs vs
 | [],[],_,_=>.nil
 |c::cs,v::vs,hl,h=>.cons (h 0 c v sM sM) (aZ.of_get (by simpa using hl) λi c v hc hv=>h (i+1) c v (by simpa using hc) (by simpa using hv))
 | [],_::_,hl,_=>by simp at hl
 |_::_,[],hl,_=>by simp at hl
theorem aZ.plain {cs:List C} {vs:List Value} (h:aZ K μ w cs vs):aZ K μ w (cs.map C.plain) vs:=by
 induction h with
 |nil=>exact .nil
 |cons h _ ih=>exact .cons (C.plain_rep h) ih
theorem Aw4 {cs:List C} {vs:List Value} (h:aZ K μ w cs vs) (h1:∀x∈vs,eZ x=true):bY K μ w (AoW cs) (.agg vs.toArray):=by
 unfold AoW
 split
 ·rename_i ds hds
  simp only[bY,RepC,Rep]
  exact⟨vs,rfl,Ab9 hds h h1⟩
 exact⟨vs,rfl,h,h1⟩
theorem As0:∀{cs:List C} {ds:List D},AjI cs=some ds->∀c∈cs,c≠.hid
 | [],_,_,_,hc=>by simp at hc
 |c::cs,ds,h,x,hx=>by
  simp only[AjI] at h
  split at h
  ·rename_i d ds hd hds
   rcases List.mem_cons.1 hx with rfl|hx
   ·rintro rfl; simp[C.toD] at hd
   exact As0 hds x hx
  simp at h
theorem Aw3 (cs:List C):∀b∈(AoW cs).ids,∃c∈cs,b∈c.ids:=by
 intro b hb
 unfold AoW at hb
 split at hb
 ·simp[V.ids,C.ids] at hb
 simpa[V.ids,List.mem_flatMap] using hb
theorem D.ofValue_rep {v:Value} {d:D} (h:D.ofValue v=some d):Rep K w d v/\eZ v=true:=by
 unfold D.ofValue at h
 split at h<;>simp at h<;>subst h<;>simp[Rep,eZ]
theorem C.ofValue_rep {v:Value} {c:C} (h:C.ofValue v=some c):RepC K μ w c v/\eZ v=true/\c.ids=[]:=by
 unfold C.ofValue at h
 split at h
 ·simp at h; subst h; simp[RepC,eZ,C.ids]
 ·simp at h; subst h; simp[RepC,eZ,C.ids]
 ·simp at h; subst h; simp[RepC,eZ,C.ids]
 ·simp at h; subst h; simp[RepC,eZ,C.ids]
 ·simp at h; subst h; simp[RepC,eZ,C.ids]
 simp only[Option.map_eq_some_iff] at h
 obtain⟨d,h,rfl⟩:=h
 obtain⟨h1,h2⟩:=D.ofValue_rep (K:=K) (w:=w) h
 exact⟨h1,h2,rfl⟩
theorem AcD:∀{vs:List Value} {cs:List C},uO vs=some cs->aZ K μ w cs vs/\(∀x∈vs,eZ x=true)/\∀c∈cs,c.ids=[]
 | [],cs,h=>by simp only[uO,sJ] at h; subst h; exact⟨.nil,sM,sM⟩
 |v::vs,cs,h=>by
  simp only[uO] at h
  split at h
  ·rename_i c cs' hc hcs
   simp only[sJ] at h; subst h
   obtain⟨h1,h2,h3⟩:=C.ofValue_rep (K:=K) (μ:=μ) (w:=w) hc
   obtain⟨h4,h5,h6⟩:=AcD hcs
   refine⟨.cons h1 h4,?_,?_⟩
   ·intro x hx; rcases List.mem_cons.1 hx with rfl|hx; exact h2; exact h5 x hx
   intro x hx; rcases List.mem_cons.1 hx with rfl|hx; exact h3; exact h6 x hx
  simp at h
theorem AwI {cs:List C} {vs:List Value} (h:aZ K μ w cs vs) (h1:∀x∈vs,eZ x=true):bY K μ w (Ar9 cs) (.agg vs.toArray):=by
 unfold Ar9
 split
 ·exact⟨vs,rfl,h,h1⟩
 split
 ·rename_i ds hds
  simp only[bY,RepC,Rep]
  exact⟨vs,rfl,Ab9 hds h h1⟩
 exact⟨vs,rfl,h,h1⟩
theorem AwH (cs:List C):∀b∈(Ar9 cs).ids,∃c∈cs,b∈c.ids:=by
 intro b hb
 unfold Ar9 at hb
 split at hb
 ·simpa[V.ids,List.mem_flatMap] using hb
 split at hb
 ·simp[V.ids,C.ids] at hb
 simpa[V.ids,List.mem_flatMap] using hb
theorem V.ofValue_rep {v:Value} {u:V} (h:V.ofValue v=some u):bY K μ w u v/\u.ids=[]:=by
 unfold V.ofValue at h
 split at h
 ·rename_i vs
  simp only[Option.map_eq_some_iff] at h
  obtain⟨cs,hcs,rfl⟩:=h
  obtain⟨h1,h2,h3⟩:=AcD (K:=K) (μ:=μ) (w:=w) hcs
  refine⟨by simpa using AwI h1 h2,?_⟩
  apply List.eq_nil_iff_forall_not_mem.2
  intro b hb
  obtain⟨c,hc,hbc⟩:=AwH _ b hb
  rw[h3 c hc] at hbc
  simp at hbc
 simp only[Option.map_eq_some_iff] at h
 obtain⟨c,h,rfl⟩:=h
 obtain⟨h1,h2,h3⟩:=C.ofValue_rep (K:=K) (μ:=μ) (w:=w) h
 exact⟨h1,h3⟩
theorem V.ofValue_no_view {v:Value} {l:Loc} {sz:Nat} {xs:List D}:V.ofValue v≠some (.view l sz xs):=by
 intro h
 unfold V.ofValue at h
 split at h
 ·simp only[Option.map_eq_some_iff] at h
  obtain⟨cs,_,h⟩:=h
  unfold Ar9 at h
  split at h
  ·simp at h
  split at h<;>simp at h
 simp at h
theorem V.ofValue_no_own {v:Value} {sz:Nat} {xs:List D}:V.ofValue v≠some (.c (.own sz xs)):=by
 intro h
 unfold V.ofValue at h
 split at h
 ·simp only[Option.map_eq_some_iff] at h
  obtain⟨cs,_,h⟩:=h
  unfold Ar9 at h
  split at h
  ·simp at h
  split at h<;>simp at h
 simp only[Option.map_eq_some_iff] at h
 obtain⟨c,h,e⟩:=h
 simp only[V.c.injEq] at e
 subst e
 unfold C.ofValue at h
 split at h<;>simp at h
theorem cY {s:St} {a:Act} (hs:Sim K μ s a w) {x:Operand} {V:V} (h:ev s.tmps x=some V):bY K μ w V (a.eval x):=by
 cases x with
 |tmp t=>exact (hs.tm t V h).2
 |const v=>exact (V.ofValue_rep h).1
 |global g=>simp[ev] at h
 |func f=>simp only[ev,sJ] at h; subst h; simp[bY,RepC,Act.eval]
theorem Aa4 {s:St} {a:Act} (hs:Sim K μ s a w) {x:Operand} {V:V} (h:ev s.tmps x=some V):∀b∈V.ids,b<s.nid:=by
 cases x with
 |tmp t=>exact hs.tids t V h
 |const v=>rw[(V.ofValue_rep (K:=K) (μ:=μ) (w:=w) h).2]; simp
 |global g=>simp[ev] at h
 |func f=>simp only[ev,sJ] at h; subst h; simp[V.ids,C.ids]
theorem Ai4 {P:Program} {t:TypeId} {tm:List (Nat×V)} {x:Operand} {v:V} (h:evT P t tm x=some v) :
  ev tm x=some v\/∃n m,v=.c (.nilsl m)/\ev tm x=some (.c (.nilsl n)):=by
 unfold evT at h
 split at h
 ·rename_i n hn
  split at h
  ·split at h
   ·simp only[sJ] at h; subst h; exact .inr ⟨n,_,rfl,hn⟩
   ·simp at h
  simp only[sJ] at h; subst h; exact .inl hn
 exact .inl h
theorem fN {P:Program} {t:TypeId} {s:St} {a:Act} (hs:Sim K μ s a w) {x:Operand} {V:V} (h:evT P t s.tmps x=some V):bY K μ w V (a.eval x):=by
 rcases Ai4 h with h|⟨n,m,rfl,h'⟩
 ·exact cY hs h
 exact (show bY K μ w (.c (.nilsl n)) (a.eval x) from cY hs h')
theorem xE {P:Program} {t:TypeId} {s:St} {a:Act} (hs:Sim K μ s a w) {x:Operand} {V:V} (h:evT P t s.tmps x=some V):∀b∈V.ids,b<s.nid:=by
 rcases Ai4 h with h|⟨n,m,rfl,h⟩
 ·exact Aa4 hs h
 simp[V.ids,C.ids]
theorem AuL {P:Program} {t:TypeId} {tm:List (Nat×V)} {x:Operand} {sz:Nat} {xs:List D} (h:evT P t tm x=some (.c (.own sz xs))):ev tm x=some (.c (.own sz xs)):=by
 rcases Ai4 h with h|⟨n,m,e,h⟩
 ·exact h
 simp at e
theorem ApR {P:Program} {t:TypeId} {tm:List (Nat×V)} {x:Operand} {l:Loc} {sz:Nat} {xs:List D} (h:evT P t tm x=some (.view l sz xs)):ev tm x=some (.view l sz xs):=by
 rcases Ai4 h with h|⟨n,m,e,h⟩
 ·exact h
 simp at e
theorem Ad7 {P:Program}:∀{k:Nat} {t:TypeId} {off:Nat} {cs:List C} {vs:List Value},aZ K μ w cs vs->aZ K μ w (zE P k t off cs) vs
 |0,_,_,_,_,h=>h
 |k+1,t,off,cs,vs,h=>by
  simp only[zE]
  split
  ·split
   ·rename_i n m hc hn
    refine aZ.of_get (by rw[List.length_set,h.length]) λi c v hi hv=>?_
    by_cases hio:i=off
    ·subst hio
     have hlt:i<cs.length:=(List.getElem?_eq_some_iff.1 hc).1
     rw[List.getElem?_set_self hlt,sJ] at hi
     subst hi
     obtain⟨u,hu,hru⟩:=h.get hc
     rw[hv,sJ] at hu
     subst hu; exact hru
    rw[List.getElem?_set_ne oM] at hi
    obtain⟨u,hu,hru⟩:=h.get hi
    rw[hv,sJ] at hu
    subst hu; exact hru
   ·exact h
  ·rename_i fs hfs
   have aux:∀(l:List Field) (cs:List C),aZ K μ w cs vs->aZ K μ w (l.foldl (λcs f=>zE P k f.type (off+f.offset) cs) cs) vs:=by
    intro l
    induction l with
    |nil=>intro cs h; exact h
    |cons f l ih=>intro cs h; exact ih _ (Ad7 h)
   exact aux _ _ h
  exact h
theorem AhM {P:Program} {Q:Nat->Prop}:∀{k:Nat} {t:TypeId} {off:Nat} {cs:List C},(∀c∈cs,∀b∈c.ids,Q b)->∀c∈zE P k t off cs,∀b∈c.ids,Q b
 |0,_,_,_,h=>h
 |k+1,t,off,cs,h=>by
  simp only[zE]
  split
  ·split
   ·intro c hc b hb
    rcases List.mem_or_eq_of_mem_set hc with hc|rfl
    ·exact h c hc b hb
    simp[C.ids] at hb
   ·exact h
  ·rename_i fs hfs
   have aux:∀(l:List Field) (cs:List C),(∀c∈cs,∀b∈c.ids,Q b)->∀c∈l.foldl (λcs f=>zE P k f.type (off+f.offset) cs) cs,∀b∈c.ids,Q b:=by
    intro l
    induction l with
    |nil=>intro cs h; exact h
    |cons f l ih=>intro cs h; exact ih _ (AhM h)
   exact aux _ _ h
  exact h
theorem C.placed_rep {c:C} {v:Value} (hr:RepC K μ w c v):RepC K μ w c.placed v:=by
 cases c<;>first|exact hr|exact hr.1|(simp only[C.placed,RepC,Rep]; exact .inl ⟨sM,.inl hr⟩)
theorem C.placed_ids (c:C):c.placed.ids=c.ids:=by cases c<;>rfl
theorem Ag8.spare {v:Value} (h:Ag8 v) (l:Loc) (sz:Nat):rL K w l sz v:=by
 rcases h with h|h|⟨blk,off,n,rfl⟩
 ·exact .inl (.inl h)
 ·exact .inl (.inr h)
 exact .inr ⟨blk,off,n,n,rfl,Nat.le_refl _,λj h1 h2=>oM⟩
theorem C.placed_capped {c:C} {sz:Nat} {xs:List D} {v:Value} (h:c.placed=.own sz xs) (hr:RepC K μ w c v):Ag8 v:=by
 cases c<;>simp[C.placed] at h
 ·exact .inl hr
 exact hr.2
theorem aZ.placed {cs:List C} {vs:List Value} (h:aZ K μ w cs vs):aZ K μ w (cs.map C.placed) vs:=by
 induction h with
 |nil=>exact .nil
 |cons h _ ih=>exact .cons (C.placed_rep h) ih
theorem C.still_rep {c:C} {v:Value} (hr:RepC K μ w c v):RepC K μ w c.still v:=by
 cases c<;>first|exact hr|exact hr.1|(simp only[C.still,RepC,Rep]; exact .inl ⟨sM,.inl hr⟩)
theorem C.still_ids (c:C):c.still.ids=c.ids:=by cases c<;>rfl
theorem aZ.still {cs:List C} {vs:List Value} (h:aZ K μ w cs vs):aZ K μ w (cs.map C.still) vs:=by
 induction h with
 |nil=>exact .nil
 |cons h _ ih=>exact .cons (C.still_rep h) ih
theorem AtW {P:Program} {t:TypeId} {v:V} {u:Value} (h:bY K μ w v u):bY K μ w (Ao5 P t v) u:=by
 unfold Ao5
 split
 ·obtain⟨vs,rfl,hcs,h1⟩:=h
  exact⟨vs,rfl,(Ad7 hcs).still,h1⟩
 exact h
end
end Go.AM
namespace Go.AM
open Go
variable [cU]
theorem wK (l:Loc) (k:Nat):∀(tm:List (Nat×V)),look k (unview l tm)=(look k tm).map λv=>match v with
  |.view l' sz xs=>if l'=l then .d (.list sz xs) else .view l' sz xs
  |v=>v
 | []=>rfl
 |(j,v)::r=>by
  have ih:=wK l k r
  by_cases hj:j=k
  ·subst hj
   cases v<;>simp[unview,look]
  cases v<;>simp[unview,look,hj,ih]
theorem qE (t:Nat) (v:V) (tm:List (Nat×V)):look t (pC t v tm)=some v:=by
 unfold pC; split<;>simp[look]
theorem pH {t k:Nat} (hk:t≠k) (v:V) (tm:List (Nat×V)) {u:V} (h:look k (pC t v tm)=some u) :
  ∃u',look k tm=some u'/\(u=u'\/∃l sz xs,u'=.view l sz xs/\u=.d (.list sz xs)) /\
   ∀l sz xs,u=.view l sz xs->(∃z ys,v=.c (.own z ys))->l≠.tmp t:=by
 unfold pC at h
 split at h
 ·simp only[look,hk,if_false,wK,Option.map_eq_some_iff] at h
  obtain⟨u',h,rfl⟩:=h
  refine⟨u',h,?_,?_⟩
  ·cases u'<;>simp
   rename_i l sz xs
   by_cases hl:l=.tmp t<;>simp[hl]
  intro l sz xs e _
  cases u'<;>simp at e
  rename_i l' sz' xs'
  by_cases hl:l'=.tmp t
  ·simp[hl] at e
  simp[hl] at e; rw[←e.1]; exact hl
 rename_i hno
 simp only[look,hk,if_false] at h
 exact⟨u,h,.inl rfl,λl sz xs _ ⟨z,ys,e⟩=>absurd e (hno z ys)⟩
theorem AgV (a:Act) (o:Option Nat) (v:Value) (k:Nat) :
  (a.put o v).tmps.getD k Go.undef=if o=some k/\k<a.tmps.size then v else a.tmps.getD k Go.undef:=by
 cases o with
 |none=>simp[Act.put]
 |some d=>
  simp only[Act.put,Array.getD_eq_getD_getElem?,Array.getElem?_setIfInBounds]
  by_cases hd:d=k
  ·subst hd
   by_cases hs:d<a.tmps.size<;>simp[hs]
  have:¬(some d=some k):=by simpa using hd
  simp[hd]
theorem mS (a:Act) (o:Option Nat) (v:Value):(a.put o v).tmps.size=a.tmps.size:=by
 cases o<;>simp[Act.put]
theorem put_defers (a:Act) (o:Option Nat) (v:Value):(a.put o v).defers=a.defers:=by
 cases o<;>simp[Act.put]
section
variable {K K':Col} {μ:Nat->Nat} {w w':World} {s:St} {a:Act}
def AvB (s:St):Loc->Prop
 |.tmp t=>∃sz xs,look t s.tmps=some (.c (.own sz xs))
 |.cell b off=>∃cells sz xs,look b s.heap=some cells/\cells[off]?=some (.own sz xs)
theorem fV.step {W:Tag->Prop} (hs:Step W K w K' w') (hro:¬W .ro) {b:Nat} {cells:List C} (h2:μ b<w.heap.size) (hc:∀off,cells[off]?≠some .hid->¬W (K (μ b) off))
  (ho:∀off sz xs,cells[off]?=some (.own sz xs)->¬W (.sp (.cell b off))) (h:fV K μ w b cells):fV K' μ w' b cells:=by
 intro i c hi hnh
 obtain⟨v,hv,hv1,hv2,hv3,hv4⟩:=h i c hi hnh
 have hci:=hs.cell (μ b) i h2 (hc i (by rw[hi]; simpa using hnh))
 refine⟨v,hci.1.trans hv,hv1,hci.2.1.trans hv2,hv3.step hs hro,λsz xs e=>?_⟩
 subst e
 exact (hv4 sz xs rfl).step hs (ho i sz xs hi)
theorem lF.step {W:Tag->Prop} (hs:Step W K w K' w') (hro:¬W .ro) {b:Nat} {cells:List C} (hb:¬W (.blk b))
  (ho:∀off sz xs,cells[off]?=some (.own sz xs)->¬W (.sp (.cell b off))) (h:lF K μ w b cells):lF K' μ w' b cells:=by
 rcases h with h|⟨h1,h2,h3⟩
 ·exact .inl h
 refine .inr ⟨λoff ho=>by rw[(hs.cell (μ b) off h2 (by rw[h1 off ho]; exact hb)).2.2]; exact h1 off ho,Nat.lt_of_lt_of_le h2 hs.size,?_⟩
 rcases h3 with ⟨hm,h3,h4⟩|⟨kvs,hm,h3⟩
 ·refine .inl ⟨hm,h3.step hs hro h2 (λoff ho=>by rw[h1 off (ApY ho)]; exact hb) λoff sz xs e=>?_,h4⟩
  rw[Ai6 e] at e
  exact ho off sz xs e
 exact .inr ⟨kvs,hm,h3.step hs hro h2 λoff=>by rw[h1 off (by rcases iN hm with rfl|⟨l,rfl,rfl⟩<;>cases off<;>simp)]; exact hb⟩
theorem Ar7.step {W:Tag->Prop} (hs:Step W K w K' w') (hh:∀b cells,look b s.heap=some cells->lF K μ w b cells/\¬W (.blk b))
  {l:Loc} {v:Value} (h:Ar7 μ s a w l v):Ar7 μ s a w' l v:=by
 cases l with
 |tmp u=>exact h
 |cell b off=>
  intro cells sz xs h1 h2
  obtain⟨hbr,hb⟩:=hh b cells h1
  have hnr:¬Ac3 cells:=yS h2 sM
  rw[(hs.cell (μ b) off (hbr.old hnr).2.1 (by rw[hbr.tag hnr (by rw[h2]; simp)]; exact hb)).1]
  exact h cells sz xs h1 h2
theorem Sim.step {W:Tag->Prop} (h:Sim K μ s a w) (hs:Step W K w K' w') (hro:¬W .ro) (hb:∀b cells,look b s.heap=some cells->¬W (.blk b))
  (ho:∀l,AvB s l->¬W (.sp l)) (hbd:∀blk off,w'.heap.size<=blk->K' blk off=.other):Sim K' μ s a w' where
 tm t V ht:=⟨(h.tm t V ht).1,(h.tm t V ht).2.step hs hro⟩
 tids:=h.tids
 own t sz xs ht:=(h.own t sz xs ht).step hs (ho (.tmp t) ⟨sz,xs,ht⟩)
 view t l sz xs ht:=(h.view t l sz xs ht).step hs λb cells hc=>⟨(h.heap b cells hc).2.2,hb b cells hc⟩
 heap b cells hc:=⟨(h.heap b cells hc).1,(h.heap b cells hc).2.1,(h.heap b cells hc).2.2.step hs hro (hb b cells hc) λoff sz xs e=>ho (.cell b off) ⟨cells,sz,xs,hc,e⟩⟩
 bound:=hbd
 defs:=h.defs
 dids:=h.dids
 glob:=h.glob.step hs hro
structure Good (K:Col) (μ:Nat->Nat) (s:St) (a:Act) (w:World) (dst:Option Nat) (V:V) (v:Value):Prop where
 rep:bY K μ w V v
 ids:∀b∈V.ids,b<s.nid
 own:∀sz xs,V=.c (.own sz xs)->∀t,dst=some t->rL K w (.tmp t) sz v
 view:∀l sz xs,V=.view l sz xs->Ar7 μ s a w l v
theorem Sim.put (h:Sim K μ s a w) {dst:Option Nat} {V:V} {v:Value} (hd:∀t,dst=some t->t<a.tmps.size) (hg:Good K μ s a w dst V v) :
  Sim K μ (mR dst V s) (a.put dst v) w:=by
 cases dst with
 |none=>exact h
 |some d=>
  have hdl:=hd d rfl
  have gs:(a.put (some d) v).tmps.getD d Go.undef=v:=by rw[AgV]; simp[hdl]
  have go:∀k,d≠k->(a.put (some d) v).tmps.getD k Go.undef=a.tmps.getD k Go.undef:=by
   intro k hk; rw[AgV]; simp[hk]
  have tied:∀l u,(l=.tmp d->¬∃z ys,V=.c (.own z ys))->Ar7 μ s a w l u->Ar7 μ { s with tmps:=pC d V s.tmps } (a.put (some d) v) w l u:=by
   intro l u hl ht
   cases l with
   |cell b off=>exact ht
   |tmp k=>
    intro sz xs hk
    by_cases hkd:d=k
    ·subst hkd
     rw[qE,sJ] at hk
     exact absurd ⟨sz,xs,hk⟩ (hl rfl)
    obtain⟨u',h1,h2,_⟩:=pH hkd V s.tmps hk
    rcases h2 with rfl|⟨l,z,ys,rfl,e⟩
    ·rw[go k hkd]; exact ht sz xs h1
    simp at e
  simp only[mR]
  refine⟨?_,?_,?_,?_,h.heap,h.bound,by rw[put_defers]; exact h.defs,h.dids,h.glob⟩
  ·intro t u ht
   rw[mS]
   by_cases hk:d=t
   ·subst hk
    rw[qE,sJ] at ht; subst ht
    exact⟨hdl,by rw[gs]; exact hg.rep⟩
   obtain⟨u',h1,h2,_⟩:=pH hk V s.tmps ht
   rw[go t hk]
   refine⟨(h.tm t u' h1).1,?_⟩
   rcases h2 with rfl|⟨l,z,ys,rfl,rfl⟩
   ·exact (h.tm t _ h1).2
   exact (h.tm t _ h1).2
  ·intro t u ht b hb
   by_cases hk:d=t
   ·subst hk
    rw[qE,sJ] at ht; subst ht
    exact hg.ids b hb
   obtain⟨u',h1,h2,_⟩:=pH hk V s.tmps ht
   rcases h2 with rfl|⟨l,z,ys,rfl,rfl⟩
   ·exact h.tids t _ h1 b hb
   simp[Go.AM.V.ids,C.ids] at hb
  ·intro t sz xs ht
   by_cases hk:d=t
   ·subst hk
    rw[qE,sJ] at ht
    rw[gs]; exact hg.own sz xs ht d rfl
   obtain⟨u',h1,h2,_⟩:=pH hk V s.tmps ht
   rw[go t hk]
   rcases h2 with rfl|⟨l,z,ys,rfl,e⟩
   ·exact h.own t sz xs h1
   simp at e
  intro t l sz xs ht
  by_cases hk:d=t
  ·subst hk
   rw[qE,sJ] at ht
   rw[gs]
   exact tied l v (λ_=>by rw[ht]; simp) (hg.view l sz xs ht)
  obtain⟨u',h1,h2,h3⟩:=pH hk V s.tmps ht
  rw[go t hk]
  rcases h2 with rfl|⟨l',z,ys,rfl,e⟩
  ·exact tied l _ (λe ho=>h3 l sz xs rfl ho e) (h.view t l sz xs h1)
  simp at e
def xQ (μ:Nat->Nat) (id g:Nat):Nat->Nat:=λb=>if b=id then g else μ b
theorem fR (μ:Nat->Nat) (id g:Nat):xQ μ id g id=g:=by simp[xQ]
theorem nF (μ:Nat->Nat) {id:Nat} (g:Nat) {b:Nat} (h:b≠id):xQ μ id g b=μ b:=by simp[xQ,h]
theorem MV.toC_ids (m:MV):m.toC.ids=m.ids:=by cases m<;>rfl
theorem hU.mu {μ':Nat->Nat}:∀{kvs:List (D×MV)} {es:List MapEntry},(∀x∈kvs,∀b∈x.2.ids,μ' b=μ b)->hU K μ w kvs es->hU K μ' w kvs es
 | [],_,_,h=>h
 |(k,m)::r,es,hm,h=>by
  simp only[hU] at h ⊢
  obtain⟨e,es',rfl,h1,h2,h3⟩:=h
  exact⟨e,es',rfl,h1,h2.mu λb hb=>hm (k,m) sM b (by rw[MV.toC_ids] at hb; exact hb),hU.mu (λx hx=>hm x (by simp[hx])) h3⟩
theorem lF.mu {μ':Nat->Nat} {b:Nat} {cells:List C} (hb:μ' b=μ b) (hm:∀c∈cells,∀j∈c.ids,μ' j=μ j) (h:lF K μ w b cells):lF K μ' w b cells:=by
 rcases h with h|⟨k3,k4,k5⟩
 ·exact .inl h
 refine .inr ⟨λoff ho=>by rw[hb]; exact k3 off ho,by rw[hb]; exact k4,?_⟩
 rw[hb]
 rcases k5 with ⟨q,k5,k6⟩|⟨kvs,q,es,clk,k5,k6,k7⟩
 ·refine .inl ⟨q,λi c hi hnh=>?_,k6⟩
  rw[hb]
  obtain⟨v,hv1,hv2,hv3,hv4,hv5⟩:=k5 i c hi hnh
  refine⟨v,hv1,hv2,hv3,hv4.mu ?_,hv5⟩
  rcases AaY (List.mem_of_getElem? hi) with h|⟨d,rfl⟩
  ·exact hm c h
  simp[C.ids]
 refine .inr ⟨kvs,q,es,clk,k5,k6.mu ?_,k7⟩
 obtain⟨c,rfl,_,hc,_⟩:=AiC q
 intro x hx b' hb'
 exact hm c sM b' (hc x hx b' hb')
theorem Sim.addB (h:Sim K μ s a w) {g:Nat} {cs:List C} (hblk:lF K (xQ μ s.nid g) w s.nid cs)
  (hids:∀c∈cs,∀b∈c.ids,b<s.nid) (hnv:∀t off sz xs,look t s.tmps≠some (.view (.cell s.nid off) sz xs)) :
  Sim K (xQ μ s.nid g) { s with heap:=(s.nid,cs)::s.heap,nid:=s.nid+1 } a w:=by
 have hm:∀b,b<s.nid->xQ μ s.nid g b=μ b:=λb hb=>nF μ g oM
 refine⟨?_,?_,h.own,?_,?_,h.bound,?_,?_,h.glob⟩
 ·intro t V ht
  exact⟨(h.tm t V ht).1,(h.tm t V ht).2.mu λb hb=>hm b (h.tids t V ht b hb)⟩
 ·intro t V ht b hb
  have:=h.tids t V ht b hb
  show b<s.nid+1
  omega
 ·intro t l sz xs ht
  have hv:=h.view t l sz xs ht
  cases l with
  |tmp u=>exact hv
  |cell b off=>
   intro cells z ys h2 h3
   by_cases hb:s.nid=b
   ·subst hb
    simp only[look,if_true,sJ] at h2; subst h2
    exact absurd ht (hnv t off sz xs)
   simp only[look,hb,if_false] at h2
   rw[nF μ g (Ne.symm hb)]
   exact hv cells z ys h2 h3
 ·intro b cells hb
  by_cases e:s.nid=b
  ·subst e
   simp only[look,if_true,sJ] at hb; subst hb
   exact⟨by show s.nid<s.nid+1; omega,λc hc i hi=>by have:=hids c hc i hi; show i<s.nid+1; omega,hblk⟩
  simp only[look,e,if_false] at hb
  obtain⟨k1,k2,k3⟩:=h.heap b cells hb
  exact⟨by show b<s.nid+1; omega,λc hc i hi=>by have:=k2 c hc i hi; show i<s.nid+1; omega,k3.mu (hm b k1) λc hc j hj=>hm j (k2 c hc j hj)⟩
 ·rw[h.defs]
  refine List.map_congr_left λx hx=>?_
  unfold AbE
  congr 3
  refine List.map_congr_left λb hb=>?_
  rw[hm b (h.dids x hx b hb)]
 intro x hx b hb
 have:=h.dids x hx b hb
 show b<s.nid+1
 omega
def AoP (K:Col) (μ:Nat->Nat) (w:World) (cs:List C) (vs:List Value):Prop:=aZ K μ w (fK cs) vs/\mapOf cs=none/\BdV cs
theorem aZ.lay {cs:List C} {vs:List Value} (h:aZ K μ w cs vs):AoP K μ w cs vs:=by
 have hno:∀sz ds,cs≠[.seq sz ds]:=by
  rintro sz ds rfl
  cases h with|cons h _=>exact h.elim
 refine⟨by rw[fD hno]; exact h,?_,λsz ds e=>absurd e (hno sz ds)⟩
 cases hm:mapOf cs with
 |none=>rfl
 |some kvs=>
  rcases iN hm with rfl|⟨l,rfl,rfl⟩<;>cases h with|cons h _=>exact h.elim
theorem BcR {f:C->C} (hd:∀d,f (.d d)=.d d) (hs:∀c sz ds,f c=.seq sz ds↔c=.seq sz ds) (cs:List C):fK (cs.map f)=(fK cs).map f:=by
 by_cases h:∃sz ds,cs=[.seq sz ds]
 ·obtain⟨sz,ds,rfl⟩:=h
  have:f (.seq sz ds)=.seq sz ds:=(hs _ _ _).2 rfl
  simp only[List.map_cons,List.map_nil,this,fK]
  have:∀c∈fL ds,f c=c:=by
   intro c hc
   obtain⟨d,rfl⟩:=qD hc
   exact hd d
  rw[List.map_congr_left this,List.map_id']
 rw[fD (λsz ds e=>h ⟨sz,ds,e⟩)]
 refine fD ?_
 intro sz ds e
 obtain⟨c,rfl,hc⟩:∃c,cs=[c]/\f c=.seq sz ds:=by
  cases cs with
  |nil=>simp at e
  |cons c r=>
   simp only[List.map_cons,List.cons.injEq,List.map_eq_nil_iff] at e
   obtain⟨e1,rfl⟩:=e
   exact⟨c,rfl,e1⟩
 exact h ⟨sz,ds,by rw[(hs _ _ _).1 hc]⟩
theorem AoP.plain {cs:List C} {vs:List Value} (h:AoP K μ w cs vs):AoP K μ w (cs.map C.plain) vs:=by
 obtain⟨h1,h2,h3⟩:=h
 refine⟨?_,?_,?_⟩
 ·rw[BcR (λ_=>rfl) (λc sz ds=>by cases c<;>simp[C.plain])]
  exact h1.plain
 ·cases hm:mapOf (cs.map C.plain) with
  |none=>rfl
  |some kvs=>
   rcases iN hm with this|⟨l,this,e0⟩
   all_goals
    cases cs with
    |nil=>simp at this
    |cons c r=>
     simp only[List.map_cons,List.cons.injEq,List.map_eq_nil_iff] at this
     obtain⟨e1,rfl⟩:=this
     cases c<;>simp[C.plain] at e1
     subst e1; simp[mapOf] at h2
 intro sz ds e
 cases cs with
 |nil=>simp at e
 |cons c r=>
  simp only[List.map_cons,List.cons.injEq,List.map_eq_nil_iff] at e
  obtain⟨e1,rfl⟩:=e
  cases c<;>simp[C.plain] at e1
  obtain⟨rfl,rfl⟩:=e1
  exact h3 _ _ rfl
theorem AoP.step {W:Tag->Prop} (hs:Step W K w K' w') (hro:¬W .ro) {cs:List C} {vs:List Value} (h:AoP K μ w cs vs):AoP K' μ w' cs vs:=⟨h.1.step hs hro,h.2⟩
theorem Sim.addBlk (h:Sim K μ s a w) {g:Nat} {cs:List C} {vs:List Value} (hg:g<w.heap.size) (hK:∀off,K g off=.blk s.nid)
  (hc:∀i v,vs[i]?=some v->w.cell? (ad g i)=some v/\w.frozen? (ad g i)=false) (hl:AoP K μ w cs vs) (h1:∀x∈vs,eZ x=true)
  (hids:∀c∈cs,∀b∈c.ids,b<s.nid) (hno:∀(i sz:Nat) (xs:List D) (v:Value),cs[i]?=some (.own sz xs)->vs[i]?=some v->Ag8 v) (hnv:∀t off sz xs,look t s.tmps≠some (.view (.cell s.nid off) sz xs)) :
  Sim K (xQ μ s.nid g) { s with heap:=(s.nid,cs)::s.heap,nid:=s.nid+1 } a w:=by
 obtain⟨hr,hm0,hsq⟩:=hl
 have hm:∀b,b<s.nid->xQ μ s.nid g b=μ b:=λb hb=>nF μ g oM
 have hcr:fV K (xQ μ s.nid g) w s.nid (fK cs):=by
  intro i c hi _
  obtain⟨v,hv,hrv⟩:=hr.get hi
  refine⟨v,by rw[fR]; exact (hc i v hv).1,h1 v (List.mem_of_getElem? hv),by rw[fR]; exact (hc i v hv).2,?_,?_⟩
  ·refine hrv.mu λb hb=>hm b ?_
   rcases AaY (List.mem_of_getElem? hi) with h|⟨d,rfl⟩
   ·exact hids c h b hb
   simp[C.ids] at hb
  intro sz xs e; subst e
  rw[Ai6 hi] at hi
  exact (hno i sz xs v hi hv).spare _ _
 exact h.addB (.inr ⟨λoff _=>by rw[fR]; exact hK off,by rw[fR]; exact hg,.inl ⟨hm0,hcr,hsq⟩⟩) hids hnv
end
end Go.AM
namespace Go.AM
open Go
variable [cU]
theorem AqA (v:Value):eZ v=v.oneCell':=by cases v<;>rfl
section
variable {P:Program} {K:Col} {μ:Nat->Nat} {w:World}
theorem BdI {op:BinOp} {a b:List UInt8} {d:D} (h:BbX op a b=some d) :
  ∃v,(Op.stringOp op ⟨a.toArray⟩ ⟨b.toArray⟩).run P w=.ok v w/\Rep K w d v:=by
 unfold BbX at h
 split at h
 ·split at h
  ·rename_i hr
   simp only[sJ] at h; subst h
   refine⟨.string ⟨(a++b).toArray⟩,?_,by simp[Rep]⟩
   have h1:¬((((⟨a.toArray⟩:ByteArray).size+(⟨b.toArray⟩:ByteArray).size:Nat):Int)>IntKind.i64.max):=by
    have:(⟨a.toArray⟩:ByteArray).size=a.length:=by simp[ByteArray.size]
    have:(⟨b.toArray⟩:ByteArray).size=b.length:=by simp[ByteArray.size]
    unfold room at hr
    simp only[IntKind.max_i64]
    omega
   simp only[Op.stringOp,h1,if_false,Sem.run_pure]
   congr 2
  ·simp at h
 all_goals first
  |(simp at h; done)
  |(simp only[sJ] at h; subst h; exact⟨.bool _,by simp only[Op.stringOp,Sem.run_pure,ByteArray.toList_mk]<;>rfl,by simp only[Rep]<;>rfl⟩)
theorem BcU {op:BinOp} {k:IntKind} {a b:Int} {d:D} (h:AxL op k a b=some d) (t:TypeId) :
  ∃v,(binOp op t (.int k a) (.int k b)).run P w=.ok v w/\Rep K w d v:=by
 unfold AxL at h
 cases op<;>simp only[] at h
 case quo=>
  split at h
  ·simp at h
  rename_i hb
  simp only[sJ] at h; subst h
  exact⟨_,by simp only[binOp_quo,Op.intDiv,hb,if_false,Sem.run_pure]<;>rfl,by simp[Rep]⟩
 case rem=>
  split at h
  ·simp at h
  rename_i hb
  simp only[sJ] at h; subst h
  exact⟨_,by simp only[binOp_rem,Op.intDiv,hb,if_false,Sem.run_pure]<;>rfl,by simp[Rep]⟩
 all_goals first
  |(simp at h; done)
  |(simp only[sJ] at h; subst h; refine⟨_,by simp only[binOp_add,binOp_sub,binOp_mul,binOp_and,binOp_or,binOp_xor,binOp_andNot,binOp_eql,binOp_neq,binOp_lss,binOp_leq,binOp_gtr,binOp_geq,Op.intArith,Op.intBits,Sem.run_pure]<;>rfl,?_⟩; simp only[Rep])
theorem Ad9 {op:BinOp} {k yk:IntKind} {a b:Int} {d:D} (h:AoL op k a b=some d) :
  ∃v,(Op.shift op k a yk b).run P w=.ok v w/\Rep K w d v:=by
 unfold AoL at h
 split at h
 ·simp at h
 rename_i hb
 have hb':¬b<0:=hb
 cases op<;>simp only[] at h<;>first
  |(simp at h; done)
  |(simp only[sJ] at h; subst h; exact⟨_,by simp only[Op.shift,hb',if_false,Sem.run_pure]<;>rfl,by simp only[Rep]⟩)
theorem BgY {d:Nat} {t:TypeId} {x y:D} {u v:Value} {r:Bool} (h:eqT P t x y=some r) (hu:Rep K w x u) (hv:Rep K w y v) :
  (Op.equalIn (d+1) t u v).run P w=.ok r w/\eZ u=true/\eZ v=true:=by
 unfold eqT at h
 split at h
 ·rename_i ht
  simp only[sJ] at h; subst h
  simp only[Rep] at hu hv; subst hu; subst hv
  exact⟨run_equalIn_bool' _ _ _ _ _ ht,rfl,rfl⟩
 ·rename_i ht
  split at h
  ·rename_i hjk
   subst hjk
   simp only[sJ] at h; subst h
   simp only[Rep] at hu hv; subst hu; subst hv
   exact⟨run_equalIn_int _ _ _ _ _ _ _ ht,rfl,rfl⟩
  simp at h
 ·rename_i ht
  simp only[sJ] at h; subst h
  simp only[Rep] at hu hv; subst hu; subst hv
  refine⟨?_,rfl,rfl⟩
  rw[run_equalIn_string _ _ _ _ _ ht]
  simp only[ByteArray.toList_mk]
 simp at h
theorem AyY {t:TypeId} {x y:D} {r:Bool} (h:eqT P t x y=some r):∀w,(isAgg t).run P w=.ok false w:=by
 intro w
 unfold eqT at h
 split at h<;>rename_i ht
 ·simp[isAgg,run_underlying ht]
 ·simp[isAgg,run_underlying ht]
 ·simp[isAgg,run_underlying ht]
 simp at h
theorem dN.get:∀{ds:List D} {vs:List Value} {i:Nat} {x:D},dN K w ds vs->ds[i]?=some x->∃v,vs[i]?=some v/\eZ v=true/\Rep K w x v
 | [],_,i,x,_,hx=>by simp at hx
 |d::ds,vs,i,x,h,hx=>by
  simp only[dN] at h
  obtain⟨v,r,rfl,h1,hd,hr⟩:=h
  cases i with
  |zero=>simp at hx; subst hx; exact⟨v,sM,h1,hd⟩
  |succ i=>simp at hx; obtain⟨u,hu,h2⟩:=dN.get hr hx; exact⟨u,by simpa using hu,h2⟩
theorem dN.length:∀{ds:List D} {vs:List Value},dN K w ds vs->ds.length=vs.length
 | [],_,h=>by simp only[dN] at h; subst h; rfl
 |d::ds,_,h=>by
  simp only[dN] at h
  obtain⟨v,r,rfl,_,_,hr⟩:=h
  simp[dN.length hr]
theorem AlQ {t:TypeId} {vs:List Value} {off:Nat} {v:Value} (ht:∀w,(isAgg t).run P w=.ok false w) (hv:vs[off]?=some v) :
  (part t vs.toArray off).run P w=.ok v w:=by
 simp[part,ht,hv]
theorem Ax1 {d:Nat} {xs ys:List D} {us vs:List Value} (hu:dN K w xs us) (hv:dN K w ys vs):∀{fs:List Field} {r:Bool},
  AzQ P fs xs ys=some r->(Op.eqFields (d+1) us.toArray vs.toArray fs).run P w=.ok r w
 | [],r,h=>by
  simp only[AzQ,sJ] at h; subst h
  simp[Op.eqFields]
 |f::fs,r,h=>by
  simp only[AzQ] at h
  split at h
  ·rename_i x y hx hy
   split at h
   ·rename_i a b ha hb
    split at h
    ·simp at h
    rename_i hf
    simp only[sJ] at h; subst h
    obtain⟨u,hu1,_,hu3⟩:=hu.get hx
    obtain⟨v,hv1,_,hv3⟩:=hv.get hy
    have ht:=AyY ha
    simp only[Op.eqFields,hf,ne_eq,not_false_eq_true,if_true,Sem.run_bind,AlQ ht hu1,AlQ ht hv1,Result.andThen_ok,(BgY (d:=d) ha hu3 hv3).1,Sem.run_ite]
    cases a
    ·simp
    simpa using Ax1 hu hv hb
   simp at h
  simp at h
theorem AuK (d:Nat) {t e:TypeId} (ht:P.underlying t=some (.pointer e)) (x:Addr):(Op.equalIn (d+1) t (.pointer (some x)) (.pointer none)).run P w=.ok false w:=by
 simp[Op.equalIn,run_underlying ht]
theorem AuJ (d:Nat) {t e:TypeId} (ht:P.underlying t=some (.pointer e)):(Op.equalIn (d+1) t (.pointer none) (.pointer none)).run P w=.ok true w:=by
 simp[Op.equalIn,run_underlying ht]
theorem AuI (d:Nat) {t k e:TypeId} (ht:P.underlying t=some (.map k e)) (x:Nat):(Op.equalIn (d+1) t (.map (some x)) (.map none)).run P w=.ok false w:=by
 simp[Op.equalIn,run_underlying ht]
theorem ArI (d:Nat) {t k e:TypeId} (ht:P.underlying t=some (.map k e)):(Op.equalIn (d+1) t (.map none) (.map none)).run P w=.ok true w:=by
 simp[Op.equalIn,run_underlying ht]
theorem AsY (op:BinOp) (t:TypeId) (xo yo:Operand) (a b:Option Nat):(eqGuard op t xo yo (.map a) (.map b)).run P w=.ok () w:=by
 unfold eqGuard
 cases op<;>rfl
theorem ApO (d:Nat) {t e:TypeId} (ht:P.underlying t=some (.slice e)):(Op.equalIn (d+1) t (.slice none 0 0) (.slice none 0 0)).run P w=.ok true w:=by
 simp[Op.equalIn,run_underlying ht]
theorem AoA (d:Nat) {t e:TypeId} (ht:P.underlying t=some (.slice e)) (x:Addr) (n c:Nat):(Op.equalIn (d+1) t (.slice (some x) n c) (.slice none 0 0)).run P w=.ok false w:=by
 simp[Op.equalIn,run_underlying ht]
theorem ApN (d:Nat) {t:TypeId} {ms:Array (String×TypeId)} (ht:P.underlying t=some (.interface ms)) (e:TypeId) (x:Value):(Op.equalIn (d+1) t (.iface e x) .nilIface).run P w=.ok false w:=by
 simp[Op.equalIn,run_underlying ht]
theorem Ao9 (d:Nat) {t:TypeId} {ms:Array (String×TypeId)} (ht:P.underlying t=some (.interface ms)):(Op.equalIn (d+1) t .nilIface .nilIface).run P w=.ok true w:=by
 simp[Op.equalIn,run_underlying ht]
theorem AjU (d:Nat) {t:TypeId} {ms:Array (String×TypeId)} (ht:P.underlying t=some (.interface ms)) (hm:ms.isEmpty=true):(Op.eqGuardIn (d+1) t .nilIface .nilIface).run P w=.ok false w:=by
 simp[Op.eqGuardIn,run_underlying ht,hm]
theorem AzV {t:TypeId} {ms:Array (String×TypeId)} (ht:P.underlying t=some (.interface ms)) (hm:ms.isEmpty=true) (xo yo:Operand) (op:BinOp) :
  (eqGuard op t xo yo .nilIface .nilIface).run P w=.ok () w:=by
 have hg:=AjU (P:=P) (w:=w) 9999 ht hm
 have key:∀c:Bool,((if c=true then pure () else do
   let r ←Op.eqGuardIn Op.maxDepth t Value.nilIface Value.nilIface
   if r=true then unsupported (Unsupported.noEntry "binop/eql: two nil values of an interface type with methods, neither of them the literal nil") else pure ():Sem Unit)).run P w=.ok () w:=by
  intro c
  simp only[Sem.run_ite,Sem.run_bind,Op.maxDepth,hg,Result.andThen_ok]
  split<;>rfl
 cases op
 case eql=>exact key _
 case neq=>exact key _
 all_goals rfl
theorem Ax2 {t:TypeId} {x y:V} {u v:Value} {r:Bool} (h:BcK P t x y=some r) (hu:bY K μ w x u) (hv:bY K μ w y v) (xo yo:Operand) :
  ∀op,(op=.eql\/op=.neq)->(eqGuard op t xo yo u v).run P w=.ok () w/\(binOp op t u v).run P w=.ok (.bool (if op=.eql then r else !r)) w:=by
 have fin:∀(u v:Value),(∀op,(eqGuard op t xo yo u v).run P w=.ok () w) ->
   (Op.equalIn 10000 t u v).run P w=.ok r w ->
   (∀op,(op=.eql\/op=.neq)->(binOp op t u v).run P w=((Op.equalIn 10000 t u v).run P w).andThen λb w'=>.ok (.bool (if op=.eql then b else !b)) w') ->
   ∀op,(op=.eql\/op=.neq)->(eqGuard op t xo yo u v).run P w=.ok () w/\(binOp op t u v).run P w=.ok (.bool (if op=.eql then r else !r)) w:=by
  intro u v hg he hb op hop
  refine⟨hg op,?_⟩
  rw[hb op hop,he]; rfl
 unfold BcK at h
 split at h
 ·split at h
  ·rename_i ht
   simp only[sJ] at h; subst h
   simp only[bY,RepC,Rep] at hu hv; subst hu; subst hv
   refine fin _ _ (λop=>by rw[eqGuard_at_bool]; rfl) (run_equalIn_bool' _ _ _ _ _ ht) ?_
   rintro op (rfl|rfl)<;>simp[binOp,Op.equal,Op.maxDepth]
  ·simp at h
 ·split at h
  ·rename_i fs ht
   split at h
   ·simp at h
   rename_i hc
   simp only[Bool.or_eq_true,not_or,Bool.not_eq_true] at hc
   simp only[bY,RepC,Rep] at hu hv
   obtain⟨us,rfl,hus⟩:=hu
   obtain⟨vs,rfl,hvs⟩:=hv
   have hf:P.fieldsOf t=fs:=by simp[Program.fieldsOf,ht]
   refine fin _ _ (λop=>run_eqGuard_agg _ _ _ _ _ _ _ hc.2) ?_ ?_
   ·rw[run_equalIn_struct w 9999 t _ _ (by rw[hf]; exact ht) hc.1,hf]
    exact Ax1 hus hvs h
   rintro op (rfl|rfl)<;>simp[binOp,Op.equal,Op.maxDepth]
  ·simp at h
 ·split at h
  ·rename_i ht
   simp only[sJ] at h; subst h
   simp only[bY,RepC] at hu hv; subst hu; subst hv
   refine fin _ _ (λop=>by rw[eqGuard_at_pointer]; rfl) (AuK 9999 ht _) ?_
   rintro op (rfl|rfl)<;>simp[binOp,Op.equal,Op.maxDepth]
  ·simp at h
 ·split at h
  ·rename_i ht
   simp only[sJ] at h; subst h
   simp only[bY,RepC] at hu hv; subst hu; subst hv
   refine fin _ _ (λop=>by rw[eqGuard_at_pointer]; rfl) (AuJ 9999 ht) ?_
   rintro op (rfl|rfl)<;>simp[binOp,Op.equal,Op.maxDepth]
  ·simp at h
 ·split at h
  ·rename_i ht
   simp only[sJ] at h; subst h
   simp only[bY,RepC] at hu hv; subst hu; subst hv
   refine fin _ _ (λop=>AsY op _ _ _ _ _) (AuI 9999 ht _) ?_
   rintro op (rfl|rfl)<;>simp[binOp,Op.equal,Op.maxDepth]
  ·simp at h
 ·split at h
  ·rename_i ht
   simp only[sJ] at h; subst h
   simp only[bY,RepC] at hu hv; subst hu; subst hv
   refine fin _ _ (λop=>AsY op _ _ _ _ _) (ArI 9999 ht) ?_
   rintro op (rfl|rfl)<;>simp[binOp,Op.equal,Op.maxDepth]
  ·simp at h
 ·split at h
  ·rename_i ht
   simp only[sJ] at h; subst h
   simp only[bY,RepC] at hu hv; subst hu; subst hv
   refine fin _ _ (λop=>by rw[eqGuard_at_slice]; rfl) (ApO 9999 ht) ?_
   rintro op (rfl|rfl)<;>simp[binOp,Op.equal,Op.maxDepth]
  ·rename_i ht hnx
   split at h
   ·rename_i hx
    simp only[sJ] at h; subst h
    have hx':=V.toD_rep hx hu
    simp only[bY,RepC,Rep] at hx' hv; subst hv
    rcases hx' with ⟨e,_⟩|⟨blk,off,cap,rfl,_⟩
    ·simp at e
    refine fin _ _ (λop=>by rw[eqGuard_at_slice]; rfl) (AoA 9999 ht _ _ _) ?_
    rintro op (rfl|rfl)<;>simp[binOp,Op.equal,Op.maxDepth]
   simp at h
  ·simp at h
 ·split at h
  ·rename_i ht
   simp only[sJ] at h; subst h
   simp only[bY,RepC,Rep] at hu hv; subst hv
   obtain⟨z,rfl,_⟩:=hu
   refine fin _ _ (λop=>by rw[eqGuard_at_iface]; rfl) (ApN 9999 ht _ _) ?_
   rintro op (rfl|rfl)<;>simp[binOp,Op.equal,Op.maxDepth]
  ·simp at h
 ·split at h
  ·rename_i ms ht
   split at h
   ·rename_i hms
    simp only[sJ] at h; subst h
    simp only[bY,RepC,Rep] at hu hv; subst hu; subst hv
    have hms':ms.isEmpty=true:=hms
    refine fin _ _ (λop=>?_) (Ao9 9999 ht) ?_
    ·exact AzV ht hms' xo yo op
    rintro op (rfl|rfl)<;>simp[binOp,Op.equal,Op.maxDepth]
   simp at h
  ·simp at h
 simp at h
theorem BcB (op:BinOp) (t:TypeId) (a b:ByteArray):binOp op t (.string a) (.string b)=Op.stringOp op a b:=by cases op<;>simp[binOp]
theorem Be8 {op:BinOp} {t:TypeId} {x y:V} {u v:Value} {d:D} (h:AwG P op t x y=some d) (hu:bY K μ w x u) (hv:bY K μ w y v) (xo yo:Operand) :
  (eqGuard op t xo yo u v).run P w=.ok () w/\∃r,(binOp op t u v).run P w=.ok r w/\Rep K w d r:=by
 unfold AwG at h
 split at h
 ·simp only[bY,RepC,Rep] at hu hv; subst hu; subst hv
  exact⟨by rw[eqGuard_at_int]; rfl,by first|(rw[binOp_shl]; exact Ad9 h)|(rw[binOp_shr]; exact Ad9 h)⟩
 ·simp only[bY,RepC,Rep] at hu hv; subst hu; subst hv
  exact⟨by rw[eqGuard_at_int]; rfl,by first|(rw[binOp_shl]; exact Ad9 h)|(rw[binOp_shr]; exact Ad9 h)⟩
 ·split at h
  ·rename_i hk; subst hk
   simp only[bY,RepC,Rep] at hu hv; subst hu; subst hv
   exact⟨by rw[eqGuard_at_int]; rfl,BcU h t⟩
  ·simp at h
 ·simp only[bY,RepC,Rep] at hu hv; subst hu; subst hv
  refine⟨by rw[eqGuard_at_string]; rfl,?_⟩
  rw[BcB]; exact BdI h
 ·simp only[Option.map_eq_some_iff] at h
  obtain⟨r,h,rfl⟩:=h
  obtain⟨h1,h2⟩:=Ax2 h hu hv xo yo .eql (.inl rfl)
  exact⟨h1,_,h2,by simp[Rep]⟩
 ·simp only[Option.map_eq_some_iff] at h
  obtain⟨r,h,rfl⟩:=h
  obtain⟨h1,h2⟩:=Ax2 h hu hv xo yo .neq (.inr rfl)
  exact⟨h1,_,h2,by simp[Rep]⟩
 simp at h
theorem BhZ {op:UnOp} {x:V} {u:Value} {d:D} (h:unV op x=some d) (hu:bY K μ w x u) :
  ∃r,(Op.unary op u).run P w=.ok r w/\Rep K w d r:=by
 unfold unV at h
 split at h
 ·split at h
  ·simp only[sJ] at h; subst h
   simp only[bY,RepC,Rep] at hu; subst hu
   exact⟨_,by simp only[Op.unary,Op.intArith,Sem.run_pure]<;>rfl,by simp[Rep]⟩
  ·simp only[sJ] at h; subst h
   simp only[bY,RepC,Rep] at hu; subst hu
   exact⟨_,by simp only[Op.unary,Op.intBits,Sem.run_pure]<;>rfl,by simp only[Rep]⟩
  ·simp at h
 ·split at h
  ·simp only[sJ] at h; subst h
   simp only[bY,RepC,Rep] at hu; subst hu
   exact⟨_,by simp only[Op.unary,Sem.run_pure]<;>rfl,by simp[Rep]⟩
  ·simp at h
 simp at h
end
end Go.AM
namespace Go.AM
open Go
variable [cU]
section
variable {P:Program} {K:Col} {μ:Nat->Nat} {w:World} {s:St} {a:Act}
theorem dX {t:TypeId} {n:Nat} (h:tsz P t=some n) (w:World):(sizeOf t).run P w=.ok n w:=by
 simp only[tsz,Option.map_eq_some_iff] at h
 obtain⟨i,hi,rfl⟩:=h
 simp[sizeOf,typeInfo,hi]
theorem AiA {t:TypeId} {b:Bool} (h:Ag2 P t=some b) (w:World):(isAgg t).run P w=.ok b w:=by
 unfold Ag2 at h
 split at h
 ·rename_i ht
  simp only[sJ] at h; subst h
  simp[isAgg,run_underlying ht]
 ·rename_i ht
  simp only[sJ] at h; subst h
  simp[isAgg,run_underlying ht]
 ·rename_i d h1 h2 ht
  simp only[sJ] at h; subst h
  cases d<;>first|(exact (h1 _ rfl).elim)|(exact (h2 _ _ rfl).elim)|simp[isAgg,run_underlying ht]
 simp at h
theorem fV.vals {b:Nat} {cells:List C} (h3:fV K μ w b cells):∃vs:List Value,aZ K μ w cells vs /\
  ∀i v,vs[i]?=some v->cells[i]?≠some .hid->w.cell? (ad (μ b) i)=some v/\eZ v=true/\w.frozen? (ad (μ b) i)=false:=by
 refine⟨(List.range cells.length).map λi=>(w.cell? (ad (μ b) i)).getD Go.undef,?_,?_⟩
 ·refine aZ.of_get sM λi c v hc hv=>?_
  by_cases hnh:c=.hid
  ·subst hnh; trivial
  obtain⟨u,hu,_,_,hr,_⟩:=h3 i c hc hnh
  have hi:i<cells.length:=(List.getElem?_eq_some_iff.1 hc).1
  simp only[List.getElem?_map,List.getElem?_range hi,Option.map_some,hu,Option.getD_some,sJ] at hv
  subst hv; exact hr
 intro i v hv hnh
 have hi:i<cells.length:=by
  rcases Nat.lt_or_ge i cells.length with h|h
  ·exact h
  simp[List.getElem?_eq_none (l:=List.range cells.length) (by simpa using h)] at hv
 obtain⟨u,hu,h1,h2,_⟩:=h3 i cells[i] (by simp[hi]) (by intro e; exact hnh (by rw[List.getElem?_eq_getElem hi,e]))
 simp only[List.getElem?_map,List.getElem?_range hi,Option.map_some,hu,Option.getD_some,sJ] at hv
 subst hv
 exact⟨hu,h1,h2⟩
theorem lF.vals {b:Nat} {cells:List C} (h:lF K μ w b cells) (hm:mapOf cells=none):∃vs:List Value,aZ K μ w (fK cells) vs /\
 ∀i v,vs[i]?=some v->(fK cells)[i]?≠some .hid->w.cell? (ad (μ b) i)=some v/\eZ v=true/\w.frozen? (ad (μ b) i)=false:=(h.cells hm).vals
theorem Sim.flat_ids (hs:Sim K μ s a w) {b:Nat} {cells:List C} (hb:look b s.heap=some cells) {c:C} (hc:c∈fK cells):∀i∈c.ids,i<s.nid:=by
 rcases AaY hc with h|⟨d,rfl⟩
 ·exact (hs.heap b cells hb).2.1 c h
 simp[C.ids]
theorem AcR {t:TypeId} {n:Nat} (ht:Ag2 P t=some true) (hn:tsz P t=some n) (blk off:Nat) (vs:List Value) (hl:vs.length=n)
  (hc:∀i v,vs[i]?=some v->w.cell? (ad blk (off+i))=some v):(loadVar t (ad blk off)).run P w=.ok (.agg vs.toArray) w:=by
 subst hl
 have h:=run_loadCells_list (P:=P) w (ad blk off) vs λj v hv=>by rw[Addr.add_lit]; exact hc j v hv
 simp[loadVar,AiA ht,dX hn,h]
theorem zO {t:TypeId} (ht:Ag2 P t=some false) (blk off:Nat) (v:Value) (hc:w.cell? (ad blk off)=some v) :
  (loadVar t (ad blk off)).run P w=.ok v w:=by
 simp[loadVar,AiA ht,hc]
theorem aZ.drop {cs:List C} {vs:List Value} (h:aZ K μ w cs vs):∀n,aZ K μ w (cs.drop n) (vs.drop n):=by
 induction h with
 |nil=>intro n; simp; exact .nil
 |cons hc hr ih=>intro n; cases n with
  |zero=>exact .cons hc hr
  |succ n=>simpa using ih n
theorem aZ.take {cs:List C} {vs:List Value} (h:aZ K μ w cs vs):∀n,aZ K μ w (cs.take n) (vs.take n):=by
 induction h with
 |nil=>intro n; simp; exact .nil
 |cons hc hr ih=>intro n; cases n with
  |zero=>simp; exact .nil
  |succ n=>simpa using .cons hc (ih n)
theorem dN.drop:∀{ds:List D} {vs:List Value} (n:Nat),dN K w ds vs->dN K w (ds.drop n) (vs.drop n)
 | [],vs,n,h=>by simp only[dN] at h; subst h; simp[dN]
 |d::ds,vs,0,h=>by simpa using h
 |d::ds,vs,n+1,h=>by
  simp only[dN] at h
  obtain⟨v,r,rfl,_,_,hr⟩:=h
  simpa using dN.drop n hr
theorem dN.take:∀{ds:List D} {vs:List Value} (n:Nat),dN K w ds vs->dN K w (ds.take n) (vs.take n)
 | [],vs,n,h=>by simp only[dN] at h; subst h; simp[dN]
 |d::ds,vs,0,h=>by simp[dN]
 |d::ds,vs,n+1,h=>by
  simp only[dN] at h
  obtain⟨v,r,rfl,h1,h2,hr⟩:=h
  simp only[List.take_succ_cons,dN]
  exact⟨v,_,rfl,h1,h2,dN.take n hr⟩
theorem rS {α:Type} (l:List α) (k i:Nat):(l.drop k)[i]?=l[k+i]?:=sM
def fB (P:Program) (K:Col) (μ:Nat->Nat) (s:St) (a:Act) (w:World) (o:Oper) (V:V):Prop:=
 ∃v K' w',(execOp a.eval o).run P w=.ok (.value v) w'/\Step (λ_=>False) K w K' w' /\
  (∀blk off,w'.heap.size<=blk->K' blk off=.other)/\Good K' μ s a w' o.dst V v
theorem fB.still (hs:Sim K μ s a w) {o:Oper} {V:V} {v:Value} (hrun:(execOp a.eval o).run P w=.ok (.value v) w) (hr:bY K μ w V v)
  (hi:∀b∈V.ids,b<s.nid) (ho:∀sz xs,V=.c (.own sz xs)->∀l,rL K w l sz v) (hv:∀l sz xs,V=.view l sz xs->Ar7 μ s a w l v):fB P K μ s a w o V:=
 ⟨v,K,w,hrun,Step.refl _ _ _,hs.bound,hr,hi,λsz xs e t _=>ho sz xs e (.tmp t),hv⟩
theorem fB.datum (hs:Sim K μ s a w) {o:Oper} {d:D} {v:Value} (hrun:(execOp a.eval o).run P w=.ok (.value v) w) (hr:Rep K w d v):fB P K μ s a w o (.d d):=
 fB.still hs hrun hr (by simp[V.ids,C.ids]) sM sM
theorem fB.plain (hs:Sim K μ s a w) {o:Oper} {c:C} {v:Value} (hrun:(execOp a.eval o).run P w=.ok (.value v) w) (hr:RepC K μ w c v)
  (hi:∀b∈c.ids,b<s.nid) (ho:∀sz xs,c≠.own sz xs):fB P K μ s a w o (.c c):=
 fB.still hs hrun hr hi (λsz xs e=>by simp at e; exact absurd e (ho sz xs)) sM
theorem AkG {x:V} {c:C} {v:Value} (hr:bY K μ w x v) (h:AfY x=some c):RepC K μ w c v/\∀sz xs,c≠.own sz xs:=by
 cases x with
 |c x=>
  simp only[AfY,sJ] at h; subst h
  exact⟨C.plain_rep hr,by intro sz xs; cases x<;>simp[C.plain]⟩
 |view l sz xs=>
  simp only[AfY,sJ] at h; subst h
  exact⟨hr,sM⟩
 |vagg cs=>
  simp only[AfY,Option.map_eq_some_iff] at h
  obtain⟨ds,h,rfl⟩:=h
  obtain⟨vs,rfl,h1,h2⟩:=hr
  refine⟨?_,sM⟩
  simp only[RepC,Rep]
  exact⟨vs,rfl,Ab9 h h1 h2⟩
 |vtup _ _=>simp[AfY] at h
 |rptr _=>simp[AfY] at h
 |tuple _=>simp[AfY] at h
theorem Ap0 {x:V} {c:C} (h:AfY x=some c):∀b∈c.ids,b∈x.ids:=by
 cases x with
 |c x=>
  simp only[AfY,sJ] at h; subst h
  intro b hb; rw[C.plain_ids] at hb; exact hb
 |view l sz xs=>
  simp only[AfY,sJ] at h; subst h
  simp[C.ids]
 |vagg cs=>
  simp only[AfY,Option.map_eq_some_iff] at h
  obtain⟨ds,h,rfl⟩:=h
  simp[C.ids]
 |vtup _ _=>simp[AfY] at h
 |rptr _=>simp[AfY] at h
 |tuple _=>simp[AfY] at h
theorem BcH (hs:Sim K μ s a w) {o:Oper} {x:Operand} (ho:o.op=.move x) {V:V} {nb:Option (List C)} {id:Nat}
  (h:evR P id o s.tmps s.heap=some (V,nb)):nb=none/\fB P K μ s a w o V:=by
 have hrun:(execOp a.eval o).run P w=.ok (.value (a.eval x)) w:=by simp[execOp,ho]
 simp only[evR,ho] at h
 split at h
 ·rename_i sz xs hx
  split at h
  ·rename_i t
   simp only[sJ,pJ] at h
   obtain⟨rfl,rfl⟩:=h
   refine⟨rfl,fB.still hs hrun (by have:=fN hs hx; exact this) (by simp[V.ids]) sM ?_⟩
   intro l sz' xs' e
   simp only[V.view.injEq] at e
   obtain⟨rfl,rfl,rfl⟩:=e
   intro z ys _
   rfl
  simp at h
 ·rename_i v hno hx
  simp only[sJ,pJ] at h
  obtain⟨rfl,rfl⟩:=h
  refine⟨rfl,fB.still hs hrun (fN hs hx) (xE hs hx) ?_ ?_⟩
  ·intro sz xs e; exact (hno sz xs e).elim
  intro l sz xs e
  subst e
  replace hx:=ApR hx
  cases x with
  |tmp t=>exact hs.view t l sz xs hx
  |const v=>exact absurd hx V.ofValue_no_view
  |global g=>simp[ev] at hx
  |func f=>simp[ev] at hx
 simp at h
theorem BcI (hs:Sim K μ s a w) {o:Oper} {c x y:Operand} (ho:o.op=.pick c x y) {V:V} {nb:Option (List C)} {id:Nat}
  (h:evR P id o s.tmps s.heap=some (V,nb)):nb=none/\fB P K μ s a w o V:=by
 simp only[evR,ho] at h
 split at h
 ·rename_i t vx vy hc hx hy
  split at h
  ·rename_i cx cy hcx hcy
   simp only[sJ,pJ] at h
   obtain⟨rfl,rfl⟩:=h
   have hcr:=cY hs hc
   simp only[bY,RepC,Rep] at hcr
   have hrun:(execOp a.eval o).run P w=.ok (.value (if t then a.eval x else a.eval y)) w:=by
    simp[execOp,ho,hcr,asBool]
   have ax:=AkG (fN hs hx) hcx
   have ay:=AkG (fN hs hy) hcy
   have ix:=Ap0 hcx
   have iy:=Ap0 hcy
   refine⟨rfl,fB.plain hs hrun ?_ ?_ ?_⟩
   ·cases t
    ·simpa using ay.1
    ·simpa using ax.1
   ·cases t
    ·simpa using λb hb=>xE hs hy b (iy b hb)
    ·simpa using λb hb=>xE hs hx b (ix b hb)
   cases t
   ·simpa using ay.2
   simpa using ax.2
  simp at h
 simp at h
theorem BcG (hs:Sim K μ s a w) {o:Oper} {t:TypeId} {x:Operand} (ho:o.op=.load t x) {V:V} {nb:Option (List C)} {id:Nat}
  (h:evR P id o s.tmps s.heap=some (V,nb)):nb=none/\fB P K μ s a w o V:=by
 simp only[evR,ho] at h
 split at h
 ·rename_i b off hx
  have hxr:=cY hs hx
  simp only[bY,RepC] at hxr
  split at h
  ·rename_i cs n hb0 ht hn
   obtain⟨cs0,hb,hbm,rfl⟩:=yO hb0
   split at h
   ·rename_i hle
    split at h
    rotate_left
    ·simp at h
    rename_i hnh0
    have hnh:∀i,i<n->(fK cs0)[off+i]?≠some .hid:=λi hi=>by
     have:=AeH hnh0 i hi
     rwa [rS] at this
    simp only[sJ,pJ] at h
    obtain⟨rfl,rfl⟩:=h
    obtain⟨vs,hrv,hcv⟩:=(hs.heap b cs0 hb).2.2.vals hbm
    have hrun:(execOp a.eval o).run P w=.ok (.value (.agg ((vs.drop off).take n).toArray)) w:=by
     have:=AcR (P:=P) (w:=w) ht hn (μ b) off ((vs.drop off).take n) (by have:=hrv.length; simp; omega)
      (λi v hv=>by
       rw[List.getElem?_take] at hv
       split at hv
       ·rename_i hin; rw[rS] at hv; exact (hcv _ v hv (hnh i hin)).1
       simp at hv)
     simp[execOp,ho,hxr,Instr.loadAt,Instr.sureAddr,this]
    refine⟨rfl,fB.still hs hrun ?_ ?_ ?_ ?_⟩
    ·refine Aw4 ((hrv.drop off).take n).plain ?_
     intro u hu
     obtain⟨i,hi⟩:=List.getElem?_of_mem hu
     rw[List.getElem?_take] at hi
     split at hi
     ·rename_i hin; rw[rS] at hi; exact (hcv _ u hi (hnh i hin)).2.1
     simp at hi
    ·intro i hi
     obtain⟨c,hc,hic⟩:=Aw3 _ i hi
     simp only[List.mem_map] at hc
     obtain⟨c',hc',rfl⟩:=hc
     rw[C.plain_ids] at hic
     exact hs.flat_ids hb (List.mem_of_mem_drop (List.mem_of_mem_take hc')) i hic
    ·intro sz xs e; unfold AoW at e; split at e<;>simp at e
    intro l sz xs e; unfold AoW at e; split at e<;>simp at e
   simp at h
  ·rename_i cs hb0 ht
   obtain⟨cs0,hb,hbm,rfl⟩:=yO hb0
   have hbr:=(hs.heap b cs0 hb).2.2.cells hbm
   split at h
   ·rename_i sz xs hc
    simp only[sJ,pJ] at h
    obtain⟨rfl,rfl⟩:=h
    obtain⟨v,hv,h1,h2,h3,h4⟩:=hbr off _ hc sM
    have hrun:(execOp a.eval o).run P w=.ok (.value v) w:=by
     simp[execOp,ho,hxr,Instr.loadAt,Instr.sureAddr,zO ht _ _ _ hv]
    refine⟨rfl,fB.still hs hrun h3 (by simp[V.ids]) sM ?_⟩
    intro l sz' xs' e
    simp only[V.view.injEq] at e
    obtain⟨rfl,rfl,rfl⟩:=e
    intro cells z ys hb' hc'
    exact hv
   ·simp at h
   ·rename_i c hno hnh hc
    simp only[sJ,pJ] at h
    obtain⟨rfl,rfl⟩:=h
    obtain⟨v,hv,h1,h2,h3,h4⟩:=hbr off _ hc (by rintro rfl; exact hnh rfl)
    have hrun:(execOp a.eval o).run P w=.ok (.value v) w:=by
     simp[execOp,ho,hxr,Instr.loadAt,Instr.sureAddr,zO ht _ _ _ hv]
    exact⟨rfl,fB.plain hs hrun h3 (λi hi=>hs.flat_ids hb (List.mem_of_getElem? hc) i hi) (λsz xs e=>(hno sz xs e).elim)⟩
   simp at h
  simp at h
 ·rename_i cs hx
  have hxr:=cY hs hx
  simp only[bY] at hxr
  obtain⟨blk,off,vs,hv,hca,hl⟩:=hxr
  split at h
  ·rename_i n ht hn
   split at h
   ·rename_i hle
    simp only[sJ,pJ] at h
    obtain⟨rfl,rfl⟩:=h
    have hrun:(execOp a.eval o).run P w=.ok (.value (.agg (vs.take n).toArray)) w:=by
     have:=AcR (P:=P) (w:=w) ht hn blk off (vs.take n) (by have:=hl.length; simp; omega)
      (λi v hv=>by
       rw[List.getElem?_take] at hv
       split at hv
       ·exact (hca _ v hv).2
       simp at hv)
     simp[execOp,ho,hv,Instr.loadAt,Instr.sureAddr,this]
    refine⟨rfl,fB.datum hs hrun ?_⟩
    simp only[Rep]
    exact⟨_,rfl,hl.take n⟩
   simp at h
  ·rename_i ht
   split at h
   ·rename_i d ds
    simp only[sJ,pJ] at h
    obtain⟨rfl,rfl⟩:=h
    obtain⟨v,hv0,_,hr⟩:=hl.get (i:=0) (x:=d) sM
    have hrun:(execOp a.eval o).run P w=.ok (.value v) w:=by
     simp[execOp,ho,hv,Instr.loadAt,Instr.sureAddr,zO ht blk off v (by simpa using (hca 0 v hv0).2)]
    exact⟨rfl,fB.datum hs hrun hr⟩
   simp at h
  simp at h
 simp at h
theorem ArG (hs:Sim K μ s a w) {o:Oper} {x:Operand} (ho:o.op=.nilCheck x) {V:V} {nb:Option (List C)} {id:Nat}
  (h:evR P id o s.tmps s.heap=some (V,nb)):nb=none/\fB P K μ s a w o V:=by
 simp only[evR,ho] at h
 split at h
 ·rename_i b off hx
  simp only[sJ,pJ] at h
  obtain⟨rfl,rfl⟩:=h
  have hxr:=cY hs hx
  simp only[bY,RepC] at hxr
  exact⟨rfl,fB.plain hs (v:=a.eval x) (by simp[execOp,ho,hxr]) (by simp[RepC,hxr]) (Aa4 hs hx) sM⟩
 ·rename_i cs hx
  simp only[sJ,pJ] at h
  obtain⟨rfl,rfl⟩:=h
  have hxr:=cY hs hx
  have hxr':=hxr
  simp only[bY] at hxr
  obtain⟨blk,off,vs,hv,hca,hl⟩:=hxr
  exact⟨rfl,fB.still hs (v:=a.eval x) (by simp[execOp,ho,hv]) hxr' (by simp[V.ids]) sM sM⟩
 ·rename_i f caps hx
  simp only[sJ,pJ] at h
  obtain⟨rfl,rfl⟩:=h
  have hxr:=cY hs hx
  simp only[bY,RepC] at hxr
  exact⟨rfl,fB.plain hs (v:=a.eval x) (by simp[execOp,ho,hxr]) (by simp[RepC,hxr]) (Aa4 hs hx) sM⟩
 simp at h
theorem AzI (hs:Sim K μ s a w) {o:Oper} {op:BinOp} {t u:TypeId} {x y:Operand} (ho:o.op=.binOp op t x y u) {V:V} {nb:Option (List C)} {id:Nat}
  (h:evR P id o s.tmps s.heap=some (V,nb)):nb=none/\fB P K μ s a w o V:=by
 simp only[evR,ho] at h
 split at h
 ·rename_i vx vy hx hy
  split at h
  ·rename_i d hd
   simp only[sJ,pJ] at h
   obtain⟨rfl,rfl⟩:=h
   obtain⟨h1,r,h2,h3⟩:=Be8 (P:=P) hd (fN hs hx) (fN hs hy) x y
   exact⟨rfl,fB.datum hs (by simp[execOp,ho,h1,h2]) h3⟩
  simp at h
 simp at h
theorem BcJ (hs:Sim K μ s a w) {o:Oper} {op:UnOp} {t:TypeId} {x:Operand} (ho:o.op=.unOp op t x) {V:V} {nb:Option (List C)} {id:Nat}
  (h:evR P id o s.tmps s.heap=some (V,nb)):nb=none/\fB P K μ s a w o V:=by
 simp only[evR,ho] at h
 split at h
 ·rename_i vx hx
  split at h
  ·rename_i d hd
   simp only[sJ,pJ] at h
   obtain⟨rfl,rfl⟩:=h
   obtain⟨r,h2,h3⟩:=BhZ (P:=P) hd (cY hs hx)
   exact⟨rfl,fB.datum hs (by simp[execOp,ho,h2]) h3⟩
  simp at h
 simp at h
theorem AjL (hs:Sim K μ s a w) {o:Oper} {t:TypeId} {x:Operand} (ho:o.op=.makeInterface t x) {V:V} {nb:Option (List C)} {id:Nat}
  (h:evR P id o s.tmps s.heap=some (V,nb)):nb=none/\fB P K μ s a w o V:=by
 simp only[evR,ho] at h
 split at h
 ·rename_i vx hx
  split at h
  ·rename_i d hc hd
   simp only[sJ,pJ] at h
   obtain⟨rfl,rfl⟩:=h
   have hc':P.concrete t=true:=by rw[←hc]; rfl
   refine⟨rfl,fB.datum hs (v:=.iface t (a.eval x)) (by simp[execOp,ho,run_makeInterface w t _ hc']) ?_⟩
   simp only[Rep]
   exact⟨_,rfl,V.toD_rep hd (fN hs hx)⟩
  simp at h
 simp at h
theorem AuB (hs:Sim K μ s a w) {o:Oper} {i:Nat} {x:Operand} (ho:o.op=.extract x i) {V:V} {nb:Option (List C)} {id:Nat}
  (h:evR P id o s.tmps s.heap=some (V,nb)):nb=none/\fB P K μ s a w o V:=by
 simp only[evR,ho] at h
 split at h
 ·rename_i cs hx
  split at h
  ·rename_i c hc
   simp only[sJ,pJ] at h
   obtain⟨rfl,rfl⟩:=h
   have hxr:=cY hs hx
   simp only[bY] at hxr
   obtain⟨vs,hv,hr⟩:=hxr
   obtain⟨v,hv1,hr1⟩:=hr.get hc
   refine⟨rfl,fB.plain hs (v:=v) (by simp[execOp,ho,hv,Instr.extract,hv1]) (C.plain_rep hr1) ?_ (by intro sz xs; cases c<;>simp[C.plain])⟩
   intro b hb
   rw[C.plain_ids] at hb
   exact Aa4 hs hx b (by simp only[V.ids,List.mem_flatMap]; exact⟨c,List.mem_of_getElem? hc,hb⟩)
  simp at h
 ·rename_i n cs hx
  have hxr:=cY hs hx
  simp only[bY] at hxr
  obtain⟨vs,hv,hr,h1⟩:=hxr
  cases i with
  |zero=>
   simp only[sJ,pJ] at h
   obtain⟨rfl,rfl⟩:=h
   refine⟨rfl,fB.still hs (v:=.agg (vs.take n).toArray) (by simp[execOp,ho,hv,Instr.extract]) ⟨_,rfl,hr.take n,h1⟩ ?_ sM sM⟩
   intro b hb
   simp only[V.ids,List.mem_flatMap] at hb
   obtain⟨c,hc,hb⟩:=hb
   exact Aa4 hs hx b (by simp only[V.ids,List.mem_flatMap]; exact⟨c,List.mem_of_mem_take hc,hb⟩)
  |succ i=>
   simp only[] at h
   split at h
   ·rename_i c hc
    simp only[sJ,pJ] at h
    obtain⟨rfl,rfl⟩:=h
    obtain⟨v,hv1,hr1⟩:=hr.get hc
    refine⟨rfl,fB.plain hs (v:=v) (by simp[execOp,ho,hv,Instr.extract,hv1]) (C.plain_rep hr1) ?_ (by intro sz xs; cases c<;>simp[C.plain])⟩
    intro b hb
    rw[C.plain_ids] at hb
    exact Aa4 hs hx b (by simp only[V.ids,List.mem_flatMap]; exact⟨c,List.mem_of_getElem? hc,hb⟩)
   simp at h
 simp at h
end
end Go.AM
namespace Go.AM
open Go
variable [cU]
section
variable {P:Program} {K:Col} {μ:Nat->Nat} {w:World} {s:St} {a:Act}
def uG {α:Type} (l:List α) (off:Nat):List α->List α
 | []=>l
 |c::r=>uG (l.set off c) (off+1) r
theorem ApV:∀(r:List C) (l:List C) (off:Nat),Bb4 l off r=uG l off r
 | [],_,_=>rfl
 |_::r,_,_=>ApV r _ _
theorem AsU:∀(vs:List Value) (k off:Nat) (cs:Array Value),
  ((vs.zipIdx k).foldl (λ(cs:Array Value) (x:Value×Nat)=>cs.setIfInBounds (off+x.2) x.1) cs).toList=uG cs.toList (off+k) vs
 | [],k,off,cs=>rfl
 |v::vs,k,off,cs=>by
  simp only[List.zipIdx_cons,List.foldl_cons,uG]
  rw[AsU vs (k+1) off]
  simp[Nat.add_assoc]
theorem Aq0 (vs:Array Value) (off:Nat) (cs:Array Value) :
  vs.zipIdx.foldl (λ(cs:Array Value) (x:Value×Nat)=>cs.setIfInBounds (off+x.2) x.1) cs=(uG cs.toList off vs.toList).toArray:=by
 rw[←Array.foldl_toList,Array.toList_zipIdx]
 apply Array.ext'
 rw[AsU]
 simp
theorem Ae7 {α:Type}:∀(r l:List α) (off:Nat) {x:α},x∈uG l off r->x∈l\/x∈r
 | [],_,_,x,h=>.inl h
 |c::r,l,off,x,h=>by
  rcases Ae7 r _ _ h with h|h
  ·rcases List.mem_or_eq_of_mem_set h with h|h
   ·exact .inl h
   ·exact .inr (by simp[h])
  exact .inr (by simp[h])
theorem aZ.set {cs:List C} {vs:List Value} (h:aZ K μ w cs vs) {c:C} {v:Value} (hc:RepC K μ w c v):∀i,aZ K μ w (cs.set i c) (vs.set i v):=by
 induction h with
 |nil=>intro i; simp; exact .nil
 |cons h0 hr ih=>intro i; cases i with
  |zero=>exact .cons hc hr
  |succ i=>exact .cons h0 (ih i)
theorem aZ.fill {ns:List C} {nv:List Value} (hn:aZ K μ w ns nv):∀{cs:List C} {vs:List Value} (off:Nat),aZ K μ w cs vs->aZ K μ w (uG cs off ns) (uG vs off nv):=by
 induction hn with
 |nil=>intro cs vs off h; exact h
 |cons hc _ ih=>intro cs vs off h; exact ih (off+1) (h.set hc off)
theorem AtC:∀{fs:List Field},(fs.all λf=>(P.info? f.type).isSome)=true ->
  ∃places,fs.mapM (λ(f:Field)=>(P.info? f.type).map λi=>(f.offset,i.size))=some places /\
   ∀(i:Nat) (f:Field) (n:Nat),fs[i]?=some f->tsz P f.type=some n->places[i]?=some (f.offset,n)
 | [],_=>⟨[],rfl,sM⟩
 |f::fs,h=>by
  simp only[List.all_cons,Bool.and_eq_true] at h
  obtain⟨places,hp,hg⟩:=AtC h.2
  obtain⟨inf,hi⟩:=Option.isSome_iff_exists.1 h.1
  refine⟨(f.offset,inf.size)::places,by simp[List.mapM_cons,hi,hp],?_⟩
  intro i g n hi' hn
  cases i with
  |zero=>
   simp at hi'; subst hi'
   simp[tsz,hi] at hn; subst hn
   simp
  |succ i=>simpa using hg i g n (by simpa using hi') hn
theorem zY {t:TypeId} {i off:Nat} {ft:TypeId} (h:AqY P t i=some (off,ft)) :
  ∃fs f,P.underlying t=some (.struct fs)/\fs[i]?=some f/\f.offset=off/\f.type=ft:=by
 unfold AqY at h
 split at h
 ·rename_i fs ht
  split at h
  ·rename_i f hf
   simp only[sJ,pJ] at h
   exact⟨fs,f,ht,hf,h.1,h.2⟩
  simp at h
 simp at h
theorem Ax6 (hs:Sim K μ s a w) {t:TypeId} {fs:Array Field} (ht:P.underlying t=some (.struct fs)) {places:List (Nat×Nat)}
  (hp:∀(i:Nat) (f:Field) (n:Nat),fs.toList[i]?=some f->tsz P f.type=some n->places[i]?=some (f.offset,n)) :
  ∀{parts:List (Nat×Operand)} {cells cells':List C} {vs:List Value},Aa0 P t s.tmps parts cells=some cells'->aZ K μ w cells vs ->
   (∀x∈vs,eZ x=true)->(∀c∈cells,∀b∈c.ids,b<s.nid) ->
   ∃vs',Instr.fill (places.toArray[·]?) vs.toArray (parts.map λx=>(x.1,a.eval x.2))=some vs'.toArray/\aZ K μ w cells' vs' /\
    (∀x∈vs',eZ x=true)/\(∀c∈cells',∀b∈c.ids,b<s.nid)
 | [],cells,cells',vs,h,hr,h1,h2=>by
  simp only[Aa0,sJ] at h; subst h
  exact⟨vs,rfl,hr,h1,h2⟩
 |(i,o)::parts,cells,cells',vs,h,hr,h1,h2=>by
  simp only[Aa0] at h
  split at h
  ·rename_i off ft hf
   split at h
   ·rename_i cs n hbind hn
    rw[Option.bind_eq_some_iff] at hbind
    obtain⟨v,hv,hcs⟩:=hbind
    split at h
    ·rename_i hle
     obtain⟨fs',f,ht',hfi,rfl,rfl⟩:=zY hf
     rw[ht,sJ,TypeDesc.struct.injEq] at ht'
     subst ht'
     have hpl:=hp i f n (by simpa using hfi) hn
     obtain⟨hcr,hc1⟩:=V.cells_rep hcs (fN hs hv)
     have hlen:=hcr.length
     have hvl:=hr.length
     rw[ApV] at h
     obtain⟨vs',h3,h4,h5,h6⟩:=Ax6 hs ht hp (vs:=uG vs f.offset (a.eval o).cells.toList) h (hcr.plain.fill _ hr)
      (by intro x hx; rcases Ae7 _ _ _ hx with hx|hx; exact h1 x hx; exact hc1 x hx)
      (by
       intro c hc b hb
       rcases Ae7 _ _ _ hc with hc|hc
       ·exact h2 c hc b hb
       simp only[List.mem_map] at hc
       obtain⟨c',hc',rfl⟩:=hc
       rw[C.plain_ids] at hb
       exact xE hs hv b (V.cells_ids hcs c' hc' b hb))
     refine⟨vs',?_,h4,h5,h6⟩
     have hsz:(a.eval o).cells.size=n:=by
      have:(a.eval o).cells.toList.length=n:=oM
      simpa using this
     have hle2:¬(f.offset+(a.eval o).cells.size>vs.length):=oM
     simp only[List.map_cons,Instr.fill]
     have hpl':places.toArray[i]?=some (f.offset,n):=by simpa using hpl
     rw[hpl']
     simp only[hsz,ne_eq,not_true_eq_false,decide_false,Bool.false_or,List.size_toArray]
     rw[if_neg (by simpa[hsz] using hle2)]
     rw[Aq0]
     exact h3
    simp at h
   simp at h
  simp at h
theorem uE {t:TypeId} {z:V} (h:AdB P t=some z):∃v,(zeroValue t).run P w=.ok v w/\bY K μ w z v/\z.ids=[] /\
  ∃i,P.info? t=some i/\i.zero=some v:=by
 unfold AdB at h
 split at h
 ·rename_i i hi
  split at h
  ·rename_i v hv
   obtain⟨h1,h2⟩:=V.ofValue_rep (K:=K) (μ:=μ) (w:=w) h
   exact⟨v,by simp[zeroValue,typeInfo,hi,hv],h1,h2,i,hi,hv⟩
  simp at h
 simp at h
theorem AzJ (hs:Sim K μ s a w) {o:Oper} {t:TypeId} {parts:Array (Nat×Operand)} (ho:o.op=.build t parts) {V:V} {nb:Option (List C)} {id:Nat}
  (h:evR P id o s.tmps s.heap=some (V,nb)):nb=none/\fB P K μ s a w o V:=by
 simp only[evR,ho] at h
 split at h
 ·rename_i fs ht
  split at h
  ·rename_i hall
   split at h
   ·rename_i z hz
    split at h
    ·rename_i cs hcs
     split at h
     ·rename_i cells hc
      simp only[sJ,pJ] at h
      obtain⟨rfl,rfl⟩:=h
      obtain⟨zv,hzr,hzrep,hzi,inf,hinf,hinz⟩:=uE (K:=K) (μ:=μ) (w:=w) hz
      obtain⟨hr0,h10⟩:=V.cells_rep hcs hzrep
      obtain⟨places,hpl,hpg⟩:=AtC hall
      obtain⟨vs',h3,h4,h5,h6⟩:=Ax6 hs ht hpg (vs:=zv.cells.toList) hc (Ad7 hr0) h10
       (AhM λc hc' b hb=>by have:=V.cells_ids hcs c hc' b hb; rw[hzi] at this; simp at this)
      have hb:P.built t ((parts.map λx=>(x.1,a.eval x.2)).toList)=some vs'.toArray:=by
       unfold Program.built
       simp only[hinf,ht,hinz,hpl]
       simpa using h3
      have hrun:=run_build (P:=P) w t (parts.map λx=>(x.1,a.eval x.2)) _ hb
      refine⟨rfl,fB.still hs (v:=.agg vs'.toArray) (by simp[execOp,ho,hrun]) (AwI h4 h5) ?_ ?_ ?_⟩
      ·intro b hb'
       obtain⟨c,hc',hbc⟩:=AwH _ b hb'
       exact h6 c hc' b hbc
      ·intro sz xs e; unfold Ar9 at e; split at e<;>try (simp at e; done)
       split at e<;>simp at e
      intro l sz xs e; unfold Ar9 at e; split at e<;>try (simp at e; done)
      split at e<;>simp at e
     simp at h
    simp at h
   simp at h
  simp at h
 simp at h
end
end Go.AM
namespace Go.AM
open Go
variable [cU]
section
variable {P:Program} {K:Col} {μ:Nat->Nat} {w:World} {s:St} {a:Act}
theorem iM.drop:∀{xs:List D} {sz blk off:Nat} (n:Nat),iM K w sz blk off xs->iM K w sz blk (off+n*sz) (xs.drop n)
 | [],_,_,_,_,_=>by simp[iM]
 |x::xs,sz,blk,off,0,h=>by simpa using h
 |x::xs,sz,blk,off,n+1,h=>by
  simp only[iM] at h
  have:=iM.drop n h.2
  rw[show off+(n+1)*sz=off+sz+n*sz from by rw[Nat.add_mul]; omega]
  simpa using this
theorem iM.take:∀{xs:List D} {sz blk off:Nat} (n:Nat),iM K w sz blk off xs->iM K w sz blk off (xs.take n)
 | [],_,_,_,_,_=>by simp[iM]
 |x::xs,sz,blk,off,0,h=>by simp[iM]
 |x::xs,sz,blk,off,n+1,h=>by
  simp only[iM] at h
  simp only[List.take_succ_cons,iM]
  exact⟨h.1,iM.take n h.2⟩
theorem iM.get:∀{xs:List D} {sz blk off i:Nat} {x:D},iM K w sz blk off xs->xs[i]?=some x ->
  ∃v,Rep K w x v/\v.cells.size=sz/\sG K w blk (off+i*sz) v.cells.toList
 | [],_,_,_,_,_,_,h=>by simp at h
 |y::ys,sz,blk,off,i,x,h,hx=>by
  simp only[iM] at h
  cases i with
  |zero=>simp at hx; subst hx; simpa using h.1
  |succ i=>
   have:=iM.get h.2 (by simpa using hx)
   rw[show off+(i+1)*sz=off+sz+i*sz from by rw[Nat.add_mul]; omega]
   exact this
theorem yY {d:D} {v:Value} (h:Rep K w d v):dN K w d.cells v.cells.toList:=by
 cases d with
 |agg cs=>
  simp only[Rep] at h
  obtain⟨vs,rfl,hl⟩:=h
  simpa[Value.cells,D.cells] using hl
 |_=>
  have h1:=xH h sM
  rw[wV h1]
  simp only[D.cells,dN]
  exact⟨v,[],rfl,h1,h,rfl⟩
theorem rJ {t e:TypeId} (h:nK P t=some e):P.underlying t=some (.slice e):=by
 unfold nK at h
 split at h
 ·rename_i e' ht; simp only[sJ] at h; subst h; exact ht
 simp at h
theorem ApB (hs:Sim K μ s a w) {o:Oper} {t:TypeId} {x i:Operand} (ho:o.op=.indexAddr t x i) {V:V} {nb:Option (List C)} {id:Nat}
  (h:evR P id o s.tmps s.heap=some (V,nb)):nb=none/\fB P K μ s a w o V:=by
 simp only[evR,ho] at h
 split at h
 ·rename_i e b len sz k n ht hx hi
  split at h
  ·rename_i hc
   simp only[sJ,pJ] at h
   obtain⟨rfl,rfl⟩:=h
   have hxr:=cY hs hx
   have hir:=cY hs hi
   simp only[bY,RepC,Rep] at hxr hir
   have hsz:=dX hc.2.2.symm
   have hcond:0<=n/\n<(len:Int):=⟨hc.1,oM⟩
   obtain⟨cap,hxr,_⟩:=hxr.based oM
   have hrun:(execOp a.eval o).run P w=.ok (.value (.pointer (some (ad (μ b) (n.toNat*sz))))) w:=by
    simp[execOp,ho,hxr,hir,Instr.indexAt,asIntOf,run_underlying (rJ ht),hcond,hsz,Addr.add_lit]
   refine⟨rfl,fB.plain hs hrun ?_ ?_ sM⟩
   ·simp only[RepC]
   exact Aa4 hs hx
  simp at h
 ·rename_i e v k n _ ht hx hi
  split at h
  ·rename_i sz xs hdx
   split at h
   ·rename_i hc
    split at h
    ·rename_i d hd
     simp only[sJ,pJ] at h
     obtain⟨rfl,rfl⟩:=h
     have hxr:=Go.AM.V.toD_rep hdx (cY hs hx)
     simp only[Rep] at hxr
     rcases hxr with ⟨e,_⟩|hxr
     ·subst e; simp at hd
     obtain⟨blk,off,cap,hv,_,hre⟩:=hxr
     have hir:=cY hs hi
     simp only[bY,RepC,Rep] at hir
     obtain⟨u,hu1,hu2,hu3⟩:=hre.get hd
     have hlt:n.toNat<xs.length:=(List.getElem?_eq_some_iff.1 hd).1
     have hsz:=dX hc.2.symm
     have hcond:0<=n/\n<(xs.length:Int):=⟨hc.1,oM⟩
     have hrun:(execOp a.eval o).run P w=.ok (.value (.pointer (some (ad blk (off+n.toNat*sz))))) w:=by
      simp[execOp,ho,hv,hir,Instr.indexAt,asIntOf,run_underlying (rJ ht),hcond,hsz,Addr.add_lit]
     refine⟨rfl,fB.still hs hrun ⟨blk,_,_,rfl,hu3,yY hu1⟩ (by simp[V.ids]) sM sM⟩
    simp at h
   simp at h
  simp at h
 simp at h
theorem AzL (hs:Sim K μ s a w) {o:Oper} {t:TypeId} {x i:Operand} (ho:o.op=.index t x i) {V:V} {nb:Option (List C)} {id:Nat}
  (h:evR P id o s.tmps s.heap=some (V,nb)):nb=none/\fB P K μ s a w o V:=by
 simp only[evR,ho] at h
 split at h
 ·rename_i l k n ht hx hi
  split at h
  ·rename_i hc
   split at h
   ·rename_i b hb
    simp only[sJ,pJ] at h
    obtain⟨rfl,rfl⟩:=h
    have hxr:=cY hs hx
    have hir:=cY hs hi
    simp only[bY,RepC,Rep] at hxr hir
    have hb':(⟨l.toArray⟩:ByteArray)[n.toNat]?=some b:=by
     have hlt:n.toNat<l.length:=(List.getElem?_eq_some_iff.1 hb).1
     have hlt':n.toNat<(⟨l.toArray⟩:ByteArray).size:=by simpa[ByteArray.size] using hlt
     rw[getElem?_pos (⟨l.toArray⟩:ByteArray) n.toNat hlt']
     have:=(List.getElem?_eq_some_iff.1 hb).2
     simp only[sJ]
     rw[←this]
     rfl
    refine⟨rfl,fB.datum hs (v:=.int .u8 b.toNat) ?_ (by simp[Rep,AcB])⟩
    simp[execOp,ho,hxr,hir,Instr.index,asIntOf,run_underlying ht,hc,hb']
   simp at h
  simp at h
 simp at h
theorem ApA (hs:Sim K μ s a w) {o:Oper} {t:TypeId} {x:Operand} {i:Nat} (ho:o.op=.fieldAddr t x i) {V:V} {nb:Option (List C)} {id:Nat}
  (h:evR P id o s.tmps s.heap=some (V,nb)):nb=none/\fB P K μ s a w o V:=by
 simp only[evR,ho] at h
 split at h
 ·rename_i off ft b o' hf hx
  split at h
  ·rename_i n hn
   simp only[sJ,pJ] at h
   obtain⟨rfl,rfl⟩:=h
   obtain⟨fs,f,ht,hfi,rfl,rfl⟩:=zY hf
   have hxr:=cY hs hx
   simp only[bY,RepC] at hxr
   have hsz:=dX hn
   refine⟨rfl,fB.plain hs (v:=.pointer (some (ad (μ b) (o'+f.offset)))) ?_ (by simp[RepC]) (Aa4 hs hx) sM⟩
   simp[execOp,ho,hxr,Instr.fieldAt,run_underlying ht,hfi,Instr.sureAddr,fieldPlace,hsz,Addr.add_lit]
  simp at h
 ·rename_i off ft cs hf hx
  split at h
  ·rename_i n hn
   simp only[sJ,pJ] at h
   obtain⟨rfl,rfl⟩:=h
   obtain⟨fs,f,ht,hfi,rfl,rfl⟩:=zY hf
   have hxr:=cY hs hx
   simp only[bY] at hxr
   obtain⟨blk,off,vs,hv,hca,hl⟩:=hxr
   have hsz:=dX hn
   refine⟨rfl,fB.still hs (v:=.pointer (some (ad blk (off+f.offset)))) ?_ ⟨blk,_,vs.drop f.offset,rfl,?_,hl.drop _⟩ (by simp[V.ids]) sM sM⟩
   ·simp[execOp,ho,hv,Instr.fieldAt,run_underlying ht,hfi,Instr.sureAddr,fieldPlace,hsz,Addr.add_lit]
   intro i v hi
   rw[rS] at hi
   rw[Nat.add_assoc]
   exact hca _ v hi
  simp at h
 simp at h
theorem AzK (hs:Sim K μ s a w) {o:Oper} {t:TypeId} {x:Operand} {i:Nat} (ho:o.op=.field t x i) {V:V} {nb:Option (List C)} {id:Nat}
  (h:evR P id o s.tmps s.heap=some (V,nb)):nb=none/\fB P K μ s a w o V:=by
 simp only[evR,ho] at h
 split at h
 ·rename_i off ft cs hf hx
  rw[Option.bind_eq_some_iff] at hx
  obtain⟨vx,hvx,hdx⟩:=hx
  have hxr:=Go.AM.V.toD_rep hdx (cY hs hvx)
  simp only[Rep] at hxr
  obtain⟨vs,hv,hl⟩:=hxr
  obtain⟨fs,f,ht,hfi,rfl,rfl⟩:=zY hf
  split at h
  ·rename_i n htg hn
   split at h
   ·rename_i hle
    simp only[sJ,pJ] at h
    obtain⟨rfl,rfl⟩:=h
    refine⟨rfl,fB.datum hs (v:=.agg ((vs.drop f.offset).take n).toArray) ?_ (by simp only[Rep]; exact⟨_,rfl,(hl.drop _).take _⟩)⟩
    simp[execOp,ho,hv,Instr.field,run_underlying ht,hfi,part,AiA htg,dX hn,asAgg]
   simp at h
  ·rename_i htg
   split at h
   ·rename_i d hd
    simp only[sJ,pJ] at h
    obtain⟨rfl,rfl⟩:=h
    obtain⟨v,hv1,_,hr⟩:=hl.get hd
    refine⟨rfl,fB.datum hs (v:=v) ?_ hr⟩
    simp[execOp,ho,hv,Instr.field,run_underlying ht,hfi,part,AiA htg,asAgg,hv1]
   simp at h
  simp at h
 simp at h
theorem Ao8 (hs:Sim K μ s a w) {o:Oper} {t u:TypeId} {x:Operand} {ok:Bool} (ho:o.op=.typeAssert x u t ok) {V:V} {nb:Option (List C)} {id:Nat}
  (h:evR P id o s.tmps s.heap=some (V,nb)):nb=none/\fB P K μ s a w o V:=by
 simp only[evR,ho] at h
 split at h
 ·rename_i u' d hx
  split at h
  ·rename_i hc
   obtain⟨rfl,hi⟩:=hc
   simp only[sJ,pJ] at h
   obtain⟨rfl,rfl⟩:=h
   have hxr:=cY hs hx
   simp only[bY,RepC,Rep] at hxr
   obtain⟨z,hz,hr⟩:=hxr
   have hrun:(execOp a.eval o).run P w=.ok (.value (if ok then .tuple #[z,.bool true] else z)) w:=by
    unfold isIface at hi
    split at hi
    ·simp at hi
    ·simp at hi
    rename_i d' h1 h2 hd'
    obtain⟨dd,hdd⟩:∃dd,P.underlying u'=some dd:=by
     cases hh:P.underlying u' with
     |none=>exact (hd' hh).elim
     |some dd=>exact⟨dd,rfl⟩
    cases dd<;>first
     |exact (h2 _ hdd).elim
     |simp[execOp,ho,hz,Instr.typeAssert,run_underlying hdd]
   refine⟨rfl,fB.still hs hrun ?_ ?_ ?_ ?_⟩
   ·cases ok
    ·simpa[bY,RepC] using hr
    ·simp only[if_true,bY]
     exact⟨[z,.bool true],rfl,.cons hr (.cons (by simp[RepC,Rep]) .nil)⟩
   ·cases ok<;>simp[V.ids,C.ids]
   ·intro sz xs e; cases ok<;>simp at e
   intro l sz xs e; cases ok<;>simp at e
  simp at h
 simp at h
theorem Ac8 (l:List UInt8):(⟨l.toArray⟩:ByteArray).size=l.length:=by simp[ByteArray.size]
theorem BeK (hs:Sim K μ s a w) {o:Oper} {c:Go.Call} (ho:o.op=.call c) (hc:c.callee=.builtin .len) {V:V} {nb:Option (List C)} {id:Nat}
  (h:evR P id o s.tmps s.heap=some (V,nb)):nb=none/\fB P K μ s a w o V:=by
 simp only[evR,ho,hc] at h
 split at h
 ·rename_i x t hargs hty
  split at h
  ·rename_i n hn
   simp only[sJ,pJ] at h
   obtain⟨rfl,rfl⟩:=h
   rw[Option.bind_eq_some_iff] at hn
   obtain⟨vx,hvx,hlen⟩:=hn
   have hxr:=cY hs hvx
   have hargs':c.args=#[x]:=by apply Array.ext'; simpa using hargs
   have hty':c.argTypes=#[t]:=by apply Array.ext'; simpa using hty
   refine⟨rfl,fB.datum hs (v:=.int .i64 n) ?_ (by simp[Rep])⟩
   unfold AuZ at hlen
   split at hlen
   ·split at hlen
    ·rename_i e ht
     simp only[sJ] at hlen; subst hlen
     simp only[bY,RepC] at hxr
     obtain⟨_,_,hxr⟩:=hxr.one
     simp[execOp,ho,resolve,hc,hargs',hty',invoke,builtin,Builtin.len_,run_underlying ht,hxr,goInt]
    ·simp at hlen
   split at hlen
   ·rename_i l ht hd
    simp only[sJ] at hlen; subst hlen
    have hr:=Go.AM.V.toD_rep hd hxr
    simp only[Rep] at hr
    simp[execOp,ho,resolve,hc,hargs',hty',invoke,builtin,Builtin.len_,run_underlying ht,hr,goInt,Ac8]
   ·rename_i e sz xs ht hd
    simp only[sJ] at hlen; subst hlen
    have hr:=Go.AM.V.toD_rep hd hxr
    simp only[Rep] at hr
    rcases hr with ⟨rfl,hr|⟨_,_,hr⟩⟩|⟨blk,off,cap,hr,_⟩
    ·simp[execOp,ho,resolve,hc,hargs',hty',invoke,builtin,Builtin.len_,run_underlying ht,hr,goInt]
    ·simp[execOp,ho,resolve,hc,hargs',hty',invoke,builtin,Builtin.len_,run_underlying ht,hr,goInt]
    simp[execOp,ho,resolve,hc,hargs',hty',invoke,builtin,Builtin.len_,run_underlying ht,hr,goInt]
   simp at hlen
  simp at h
 simp at h
theorem BeM (hs:Sim K μ s a w) {o:Oper} {c:Go.Call} (ho:o.op=.call c) (hc:c.callee=.builtin .min) {V:V} {nb:Option (List C)} {id:Nat}
  (h:evR P id o s.tmps s.heap=some (V,nb)):nb=none/\fB P K μ s a w o V:=by
 simp only[evR,ho,hc] at h
 split at h
 ·rename_i x y hargs
  split at h
  ·rename_i k p k' q hx hy
   simp only[sJ,pJ] at h
   obtain⟨rfl,rfl⟩:=h
   have hxr:=cY hs hx
   have hyr:=cY hs hy
   simp only[bY,RepC,Rep] at hxr hyr
   have hargs':c.args=#[x,y]:=by apply Array.ext'; simpa using hargs
   refine⟨rfl,fB.datum hs (v:=.int k (if q<p then q else p)) ?_ (by simp[Rep])⟩
   simp[execOp,ho,resolve,hc,hargs',invoke,builtin,Builtin.min_,Builtin.min2,hxr,hyr]
  simp at h
 simp at h
theorem BeL (hs:Sim K μ s a w) {o:Oper} {c:Go.Call} (ho:o.op=.call c) (hc:c.callee=.builtin .max) {V:V} {nb:Option (List C)} {id:Nat}
  (h:evR P id o s.tmps s.heap=some (V,nb)):nb=none/\fB P K μ s a w o V:=by
 simp only[evR,ho,hc] at h
 split at h
 ·rename_i x y hargs
  split at h
  ·rename_i k p k' q hx hy
   simp only[sJ,pJ] at h
   obtain⟨rfl,rfl⟩:=h
   have hxr:=cY hs hx
   have hyr:=cY hs hy
   simp only[bY,RepC,Rep] at hxr hyr
   have hargs':c.args=#[x,y]:=by apply Array.ext'; simpa using hargs
   refine⟨rfl,fB.datum hs (v:=.int k (if p<q then q else p)) ?_ (by simp[Rep])⟩
   simp[execOp,ho,resolve,hc,hargs',invoke,builtin,Builtin.max_,Builtin.max2,hxr,hyr]
  simp at h
 simp at h
end
end Go.AM
namespace Go.AM
open Go
variable [cU]
theorem cell_of_block {w w':World} {b:Nat} (h:w'.heap[b]?=w.heap[b]?) (off:Nat):w'.cell? (ad b off)=w.cell? (ad b off):=by
 simp only[World.cell?,h]
theorem vM {w w':World} {b:Nat} (h:w'.heap[b]?=w.heap[b]?) (off:Nat):w'.frozen? (ad b off)=w.frozen? (ad b off):=by
 simp only[World.frozen?,h]
def gS (K:Col) (g:Nat) (f:Nat->Tag):Col:=λb off=>if b=g then f off else K b off
structure mT (w w':World) (ob:Obj):Prop where
 os:w'.os=w.os
 tape:w'.tape=w.tape
 output:w'.output=w.output
 heap:w'.heap=w.heap.push ob
theorem iF (w:World) (ob:Obj):mT w (w.alloc ob) ob:=⟨rfl,rfl,rfl,rfl⟩
theorem AaU (w:World) (ob:Obj):mT w (w.drew.alloc ob) ob:=⟨rfl,rfl,rfl,rfl⟩
section
variable {P:Program} {K:Col} {μ:Nat->Nat} {w w':World} {s:St} {a:Act}
theorem mT.old {ob:Obj} (h:mT w w' ob) {b:Nat} (hb:b<w.heap.size):w'.heap[b]?=w.heap[b]?:=by
 rw[h.heap,Array.getElem?_push,if_neg oM]
theorem mT.new {ob:Obj} (h:mT w w' ob):w'.heap[w.heap.size]?=some ob:=by
 rw[h.heap]; simp
theorem mT.size {ob:Obj} (h:mT w w' ob):w'.heap.size=w.heap.size+1:=by rw[h.heap]; simp
theorem mT.step {ob:Obj} (h:mT w w' ob) (f:Nat->Tag):Step (λ_=>False) K w (gS K w.heap.size f) w':=by
 refine⟨h.os,h.tape,h.output,by rw[h.size]; omega,λb hb _=>h.old hb,λb off hb _=>⟨cell_of_block (h.old hb) off,vM (h.old hb) off,?_⟩,λb off hx=>?_⟩
 rotate_left
 ·obtain⟨u,hu⟩:=Option.isSome_iff_exists.1 hx.1
  exact⟨by rw[cell_of_block (h.old (block_lt hu)) off]; exact hx.1,by rw[vM (h.old (block_lt hu)) off]; exact hx.2⟩
 simp only[gS]
 rw[if_neg oM]
theorem mT.bound {ob:Obj} (h:mT w w' ob) (hb:∀blk off,w.heap.size<=blk->K blk off=.other) (f:Nat->Tag) :
  ∀blk off,w'.heap.size<=blk->gS K w.heap.size f blk off=.other:=by
 intro blk off hl
 rw[h.size] at hl
 simp only[gS]
 rw[if_neg oM]
 exact hb blk off oM
theorem mT.cell {arr:Array Value} {e:TypeId} {fz:Nat×Nat} (h:mT w w' (.cells arr e fz)) (i:Nat):w'.cell? (ad w.heap.size i)=arr[i]?:=by
 simp[World.cell?,h.new]
theorem mT.frozen {arr:Array Value} {e:TypeId} {fz:Nat×Nat} (h:mT w w' (.cells arr e fz)) (i:Nat):w'.frozen? (ad w.heap.size i)=(decide (fz.1<=i)&&decide (i<fz.2)):=by
 simp[World.frozen?,h.new]
theorem fB.new (hs:Sim K μ s a w) {o:Oper} {V:V} {v:Value} {ob:Obj} (hrun:(execOp a.eval o).run P w=.ok (.value v) w') (h:mT w w' ob) (f:Nat->Tag)
  (hg:Good (gS K w.heap.size f) μ s a w' o.dst V v):fB P K μ s a w o V:=
 ⟨v,_,w',hrun,h.step f,h.bound hs.bound f,hg⟩
theorem dN.later {W:Tag->Prop} {K':Col} (hs:Step W K w K' w') (hro:¬W .ro) {ds:List D} {vs:List Value} (h:dN K w ds vs):dN K' w' ds vs:=dN.step hs hro _ _ h
def cellsOf:List Value->List Value
 | []=>[]
 |v::r=>v.cells.toList++cellsOf r
inductive kI (K:Col) (w:World) (sz:Nat):List D->List Value->Prop where
 |nil:kI K w sz [] []
 |cons {d:D} {v:Value} {ds:List D} {vs:List Value}:Rep K w d v->v.cells.size=sz->kI K w sz ds vs->kI K w sz (d::ds) (v::vs)
theorem kI.step {W:Tag->Prop} {K':Col} (hs:Step W K w K' w') (hro:¬W .ro) {sz:Nat} {ds:List D} {vs:List Value} (h:kI K w sz ds vs):kI K' w' sz ds vs:=by
 induction h with
 |nil=>exact .nil
 |cons h1 h2 _ ih=>exact .cons (Rep.step hs hro _ _ h1) h2 ih
theorem kI.length {sz:Nat} {ds:List D} {vs:List Value} (h:kI K w sz ds vs):ds.length=vs.length:=by
 induction h with
 |nil=>rfl
 |cons _ _ _ ih=>simp[ih]
theorem kI.cells {sz:Nat} {ds:List D} {vs:List Value} (h:kI K w sz ds vs):(cellsOf vs).length=ds.length*sz:=by
 induction h with
 |nil=>simp[cellsOf]
 |cons _ h2 _ ih=>simp only[cellsOf,List.length_append,ih,List.length_cons,Nat.add_mul]; simp[h2]; omega
theorem sG.append {blk off:Nat} {xs ys:List Value} (h:sG K w blk off (xs++ys)):sG K w blk off xs/\sG K w blk (off+xs.length) ys:=by
 constructor
 ·intro i v hv
  exact h i v (by rw[List.getElem?_append_left (List.getElem?_eq_some_iff.1 hv).1]; exact hv)
 intro i v hv
 have:=h (xs.length+i) v (by rw[List.getElem?_append_right oM]; simpa using hv)
 rw[show off+xs.length+i=off+(xs.length+i) from by omega]
 exact this
theorem kI.lies {sz:Nat} {ds:List D} {vs:List Value} (h:kI K w sz ds vs):∀{blk off:Nat},sG K w blk off (cellsOf vs)->iM K w sz blk off ds:=by
 induction h with
 |nil=>intro blk off _; simp[iM]
 |cons h1 h2 _ ih=>
  intro blk off hc
  simp only[cellsOf] at hc
  obtain⟨hc1,hc2⟩:=hc.append
  simp only[iM]
  refine⟨⟨_,h1,h2,hc1⟩,ih ?_⟩
  simpa[h2] using hc2
theorem iM.es:∀{ds:List D} {sz blk off:Nat},iM K w sz blk off ds->∃vs,kI K w sz ds vs/\sG K w blk off (cellsOf vs)
 | [],_,_,_,_=>⟨[],.nil,by intro i v h; simp[cellsOf] at h⟩
 |d::ds,sz,blk,off,h=>by
  simp only[iM] at h
  obtain⟨⟨v,h1,h2,h3⟩,h4⟩:=h
  obtain⟨vs,h5,h6⟩:=iM.es h4
  refine⟨v::vs,.cons h1 h2 h5,?_⟩
  intro i u hu
  simp only[cellsOf] at hu
  by_cases hi:i<v.cells.toList.length
  ·rw[List.getElem?_append_left hi] at hu; exact h3 i u hu
  rw[List.getElem?_append_right oM] at hu
  have:=h6 _ u hu
  have hl:v.cells.toList.length=sz:=by simpa using h2
  rw[show off+sz+(i-v.cells.toList.length)=off+i from by omega] at this
  exact this
theorem ApL (hs:Sim K μ s a w) {e:TypeId} {sz:Nat}:∀{n:Nat} {parts:List (Nat×Operand)} {ds:List D},vS P e sz s.tmps n parts=some ds ->
  kI K w sz ds (parts.map λx=>a.eval x.2)/\parts.map (·.1)=(List.range' n parts.length)
 |n,[],ds,h=>by simp only[vS,sJ] at h; subst h; exact⟨.nil,rfl⟩
 |n,(i,o)::parts,ds,h=>by
  simp only[vS] at h
  split at h
  ·rename_i hin
   subst hin
   split at h
   ·rename_i d ds' hd hds
    split at h
    ·rename_i hlen
     simp only[sJ] at h; subst h
     rw[Option.bind_eq_some_iff] at hd
     obtain⟨vx,hvx,hdx⟩:=hd
     have hr:=V.toD_rep hdx (fN hs hvx)
     obtain⟨h1,h2⟩:=ApL hs hds
     have hl:=(yY hr).length
     refine⟨.cons hr (by have:(a.eval o).cells.size=sz:=(by simp at hl; omega); exact this) h1,?_⟩
     simp[h2,List.range'_succ]
    simp at h
   simp at h
  simp at h
theorem AeT {α:Type}:∀(r l1 l2 l3:List α),l2.length=r.length->uG (l1++l2++l3) l1.length r=l1++r++l3
 | [],l1,l2,l3,h=>by
  have:l2=[]:=by simpa using h
  subst this; simp[uG]
 |c::r,l1,l2,l3,h=>by
  cases l2 with
  |nil=>simp at h
  |cons x l2=>
   have:=AeT r (l1++[c]) l2 l3 (by simpa using h)
   simp only[uG]
   rw[show (l1++x::l2++l3).set l1.length c=(l1++[c])++l2++l3 from by simp[List.set_append_right]]
   rw[show l1.length+1=(l1++[c]).length from by simp]
   rw[this]; simp
theorem AjQ {sz:Nat}:∀(vs:List Value) (n:Nat) (pre rest:List Value),(∀v∈vs,v.cells.size=sz)->pre.length=n*sz->rest.length=vs.length*sz ->
  Instr.fill (λi=>some (i*sz,sz)) (pre++rest).toArray ((List.range' n vs.length).zip vs)=some (pre++cellsOf vs).toArray
 | [],n,pre,rest,_,_,hr=>by
  have:rest=[]:=by simpa using hr
  subst this
  simp[Instr.fill,cellsOf]
 |v::vs,n,pre,rest,hv,hp,hr=>by
  have hv0:v.cells.size=sz:=hv v sM
  have hr':rest.length=sz+vs.length*sz:=by simp only[List.length_cons,Nat.add_mul] at hr; omega
  have hle:¬(n*sz+sz>pre.length+rest.length):=oM
  simp only[List.length_cons,List.range'_succ,List.zip_cons_cons,Instr.fill]
  simp only[hv0,ne_eq,not_true_eq_false,decide_false,Bool.false_or,List.size_toArray,List.length_append]
  rw[if_neg (by simpa using hle),Aq0]
  have hsplit:pre++rest=pre++rest.take sz++rest.drop sz:=by simp[List.append_assoc]
  have h1:uG (pre++rest) (n*sz) v.cells.toList=(pre++v.cells.toList)++rest.drop sz:=by
   rw[hsplit,←hp]
   exact AeT _ pre (rest.take sz) (rest.drop sz) (by simp[hv0]; omega)
  have h1':uG (pre++rest).toArray.toList (n*sz) v.cells.toList=(pre++v.cells.toList)++rest.drop sz:=h1
  rw[h1',AjQ vs (n+1) (pre++v.cells.toList) (rest.drop sz) (λu hu=>hv u (by simp[hu])) (by simp[hv0,hp,Nat.add_mul]) (by simp; omega)]
  simp[cellsOf,List.append_assoc]
end
end Go.AM
namespace Go.AM
open Go
variable [cU]
section
variable {P:Program} {K:Col} {μ:Nat->Nat} {w w':World} {s:St} {a:Act}
theorem AxZ {α β γ:Type} (g:α->β) (h:α->γ):∀l:List α,l.map (λx=>(g x,h x))=(l.map g).zip (l.map h)
 | []=>rfl
 |x::l=>by simp[AxZ g h l]
theorem AiI {sz:Nat} {ds:List D} {vs:List Value} {rest:List Value} {e:TypeId} {fz:Nat×Nat} (f:Nat->Tag) (hf:∀i,i<(cellsOf vs).length->f i=.ro)
  (h:mT w w' (.cells (cellsOf vs++rest).toArray e fz)) (hr:kI K w sz ds vs) {cap:Nat} (hc:ds.length<=cap) :
  Rep (gS K w.heap.size f) w' (.list sz ds) (.slice (some (ad w.heap.size 0)) ds.length cap):=by
 simp only[Rep]
 refine .inr ⟨w.heap.size,0,cap,rfl,hc,?_⟩
 refine (hr.step (h.step f) sM).lies ?_
 intro i v hv
 have hi:=(List.getElem?_eq_some_iff.1 hv).1
 refine⟨by simp[gS,hf i hi],?_⟩
 rw[Nat.zero_add,h.cell]
 simp only[List.getElem?_toArray]
 rw[List.getElem?_append_left hi]; exact hv
theorem AhN {t e:TypeId} {n len:Nat} {parts:Array (Nat×Value)} {cells:Array Value} {zv:Value} (ht:P.underlying t=some (.slice e)) (hn:tsz P e=some n)
  (hle:len*n<=16777216) (hz:(zeroValue e).run P w=.ok zv w)
  (hf:∀z:Array Value,Instr.fill (λi=>some (i*n,n)) ((Array.range (len*n)).map (z[· % z.size]!)) parts.toList=some cells) :
  (Instr.buildSlice t len parts).run P w=.ok (.slice (some ⟨w.heap.size,0,none⟩) len len) (w.alloc (.cells cells e)):=by
 have hle':¬(16777216<len*n):=oM
 by_cases h0:len*n=0
 ·have h:=hf #[]
  simp only[Instr.buildSlice,Sem.run_bind,run_underlying ht,Result.andThen_ok,dX hn]
  simp only[h0] at h ⊢
  simp at h ⊢
  simp[h,newRow]
 have h:=hf zv.cells
 simp[Instr.buildSlice,run_underlying ht,dX hn,hle',h0,hz,h,newRow]
theorem Ao7 (hs:Sim K μ s a w) {o:Oper} {t:TypeId} {len:Nat} {parts:Array (Nat×Operand)} (ho:o.op=.buildSlice t len parts) {V:V} {nb:Option (List C)} {id:Nat}
  (h:evR P id o s.tmps s.heap=some (V,nb)) (hfn:AmD parts.toList=none):nb=none/\fB P K μ s a w o V:=by
 simp only[evR,ho,hfn] at h
 split at h
 ·rename_i e ht
  split at h
  ·rename_i n hn
   split at h
   ·rename_i ds hds
    split at h
    ·rename_i hc
     obtain⟨hlen,hle,hn0,hz⟩:=hc
     simp only[sJ,pJ] at h
     obtain⟨rfl,rfl⟩:=h
     obtain⟨z,hz⟩:=Option.isSome_iff_exists.1 hz
     obtain⟨zv,hzr,_⟩:=uE (P:=P) (K:=K) (μ:=μ) (w:=w) hz
     obtain⟨hes,hix⟩:=ApL hs hds
     have hpl:parts.toList.length=len:=by
      have:=hes.length; rw[List.length_map] at this; omega
     have hvl:(parts.toList.map λx=>a.eval x.2).length=len:=by simp[hpl]
     have hszs:∀v∈parts.toList.map (λx=>a.eval x.2),v.cells.size=n:=by
      have aux:∀{ds:List D} {vs:List Value},kI K w n ds vs->∀v∈vs,v.cells.size=n:=by
       intro ds vs h
       induction h with
       |nil=>simp
       |cons _ h2 _ ih=>intro v hv; rcases List.mem_cons.1 hv with rfl|hv; exact h2; exact ih v hv
      exact aux hes
     have hfill:∀z:Array Value,Instr.fill (λi=>some (i*n,n)) ((Array.range (len*n)).map (z[· % z.size]!)) ((parts.map λx=>(x.1,a.eval x.2)).toList) =
       some (cellsOf (parts.toList.map λx=>a.eval x.2)).toArray:=by
      intro z
      have hp:(parts.map λx=>(x.1,a.eval x.2)).toList=(List.range' 0 (parts.toList.map λx=>a.eval x.2).length).zip (parts.toList.map λx=>a.eval x.2):=by
       rw[Array.toList_map,AxZ,hix]; simp
      rw[hp]
      have:=AjQ (sz:=n) (parts.toList.map λx=>a.eval x.2) 0 [] ((Array.range (len*n)).map (z[· % z.size]!)).toList hszs sM (by simp[hpl])
      rw[List.nil_append,List.nil_append,Array.toArray_toList] at this
      exact this
     have hrun:(execOp a.eval o).run P w=.ok (.value (.slice (some (ad w.heap.size 0)) len len)) (w.alloc (.cells (cellsOf (parts.toList.map λx=>a.eval x.2)).toArray e)):=by
      simp only[execOp,ho,Sem.run_bind,AhN (rJ ht) hn hle hzr hfill,Result.andThen_ok,Sem.run_pure]
     refine⟨rfl,fB.new hs hrun (iF _ _) (λ_=>.ro) ⟨?_,by simp[V.ids,C.ids],?_,sM⟩⟩
     ·simp only[bY,RepC]
      subst hlen
      exact⟨AiI (rest:=[]) _ (λ_ _=>rfl) (by simpa using iF w _) hes (Nat.le_refl _),.inr (.inr ⟨_,_,_,rfl⟩)⟩
     intro sz xs e t _
     simp at e
    simp at h
   simp at h
  simp at h
 simp at h
theorem Ak0 (z:Value) (hz:z.cells.size≠0):∀n,(madeCells z.cells (n*z.cells.size)).toList=cellsOf (List.replicate n z)
 |0=>by simp[madeCells,cellsOf,Array.range_zero']
 |n+1=>by
  have ih:=Ak0 z hz n
  rw[List.replicate_succ']
  have happ:∀l1 l2:List Value,cellsOf (l1++l2)=cellsOf l1++cellsOf l2:=by
   intro l1 l2
   induction l1 with
   |nil=>simp[cellsOf]
   |cons x l ih=>simp[cellsOf,ih,List.append_assoc]
  rw[happ,←ih]
  apply List.ext_getElem?
  intro i
  simp only[madeCells,Array.toList_map,Array.toList_range,cellsOf,List.append_nil]
  have hl:((List.range (n*z.cells.size)).map (λx=>z.cells[x % z.cells.size]!)).length=n*z.cells.size:=sM
  by_cases h1:i<n*z.cells.size
  ·rw[List.getElem?_append_left (by rw[hl]; exact h1)]
   have h2:i<(n+1)*z.cells.size:=by have:=Nat.succ_mul n z.cells.size; simp only[Nat.succ_eq_add_one] at this; omega
   simp[List.getElem?_map,List.getElem?_range h1,List.getElem?_range h2]
  rw[List.getElem?_append_right (by rw[hl]; omega),hl]
  by_cases h2:i<(n+1)*z.cells.size
  ·have h3:i-n*z.cells.size<z.cells.size:=by have:=Nat.succ_mul n z.cells.size; simp only[Nat.succ_eq_add_one] at this; omega
   simp only[List.getElem?_map,List.getElem?_range h2,Option.map_some]
   have hcomm:=Nat.mul_comm z.cells.size n
   have hsucc:=Nat.succ_mul n z.cells.size
   have hm:i % z.cells.size=i-n*z.cells.size:=by
    have:i=(i-n*z.cells.size)+z.cells.size*n:=by rw[Nat.mul_comm]; omega
    rw[this,Nat.add_mul_mod_self_left,Nat.mod_eq_of_lt h3,Nat.mul_comm z.cells.size n]
    omega
   rw[hm,Array.getElem!_eq_getD,Array.getElem?_toList,getElem?_pos z.cells _ h3]
   simp[Array.getD,h3]
  have h3:z.cells.size<=i-n*z.cells.size:=by have:=Nat.succ_mul n z.cells.size; simp only[Nat.succ_eq_add_one] at this; omega
  rw[List.getElem?_eq_none (by simp; omega),List.getElem?_eq_none (by simpa using h3)]
theorem vF {sz:Nat} {d:D} {z:Value} (h:Rep K w d z) (hz:z.cells.size=sz):∀n,kI K w sz (List.replicate n d) (List.replicate n z)
 |0=>.nil
 |n+1=>.cons h hz (vF h hz n)
def AjJ (g:Nat):C->Value
 |.arr _ n _=>.slice (some (ad g 0)) n n
 |_=>.pointer (some (ad g 0))
def An0 (id:Nat) (c:C):Prop:=c=.ptr id 0\/∃n k,c=.arr id n k
def AhV (P:Program) (K:Col) (s:St) (a:Act) (w:World) (o:Oper) (c:C) (cs:List C):Prop:=
 ∃arr e,(execOp a.eval o).run P w=.ok (.value (AjJ w.heap.size c)) (w.alloc (.cells arr e))/\(∀i n k,c=.arr i n k->n*k<=arr.size/\n<=9223372036854775807) /\
  ∀μ,Sim K μ s a w->AoP K μ w cs arr.toList/\(∀x∈arr.toList,eZ x=true)/\(∀c∈cs,∀b∈c.ids,b<s.nid)/\(∀(i sz:Nat) (xs:List D) (v:Value),cs[i]?=some (.own sz xs)->arr.toList[i]?=some v->Ag8 v)
theorem An0.rep {id:Nat} {c:C} (h:An0 id c) {g:Nat} {K:Col} {w:World} (hμ:μ id=g) {m:Nat} (hm:∀i n k,c=.arr i n k->n*k<=m/\n<=9223372036854775807)
  (hc:∀i,i<m->AoN w g i):RepC K μ w c (AjJ g c):=by
 rcases h with rfl|⟨n,k,rfl⟩
 ·simp only[RepC,AjJ,hμ]
 simp only[RepC,AjJ]
 rcases Nat.eq_zero_or_pos n with rfl|hn
 ·exact .inl ⟨rfl,.inr ⟨_,rfl⟩⟩
 exact .inr ⟨hn,n,by rw[hμ],⟨Nat.le_refl _,(hm _ _ _ rfl).2⟩,λj hj=>by rw[hμ]; exact hc j (Nat.lt_of_lt_of_le hj (hm _ _ _ rfl).1)⟩
theorem An0.ids {id:Nat} {c:C} (h:An0 id c):c.ids=[id]:=by
 rcases h with rfl|⟨n,k,rfl⟩<;>rfl
theorem aZ.append {cs:List C} {vs:List Value} (h:aZ K μ w cs vs) {ds:List C} {us:List Value} (h':aZ K μ w ds us):aZ K μ w (cs++ds) (vs++us):=by
 induction h with
 |nil=>exact h'
 |cons hc _ ih=>exact .cons hc ih
theorem kI.cellsC {sz:Nat}:∀{ds:List D} {vs:List Value},kI K w sz ds vs->aZ K μ w (ds.flatMap λd=>d.cells.map C.d) (cellsOf vs)/\∀x∈cellsOf vs,eZ x=true
 |_,_,.nil=>⟨.nil,by simp[cellsOf]⟩
 |_,_,.cons h1 h2 h3=>by
  obtain⟨i1,i2⟩:=kI.cellsC h3
  obtain⟨j1,j2⟩:=dN.cs (μ:=μ) (yY h1)
  refine⟨?_,?_⟩
  ·simp only[List.flatMap_cons,cellsOf]
   exact j1.append i1
  intro x hx
  simp only[cellsOf,List.mem_append] at hx
  rcases hx with hx|hx
  ·exact j2 x hx
  exact i2 x hx
theorem ApC (hs:Sim K μ s a w) {o:Oper} {t:TypeId} {l c:Operand} (ho:o.op=.makeSlice t l c) {V:V} {nb:Option (List C)} {id:Nat}
  (h:evR P id o s.tmps s.heap=some (V,nb)) (hsame:rI l c=false):nb=none/\fB P K μ s a w o V:=by
 simp only[evR,ho] at h
 split at h
 ·rename_i e k1 n k2 m ht hl hc
  split at h
  ·rename_i z k hz hk
   split at h
   ·rename_i hcond
    obtain⟨h0,hnm,hm,hb,hzl,hk0⟩:=hcond
    rw[hsame] at h
    simp only[fJ,if_false,sJ,pJ] at h
    obtain⟨rfl,rfl⟩:=h
    rw[Option.bind_eq_some_iff] at hz
    obtain⟨zV1,hzV1,hzd⟩:=hz
    obtain⟨zV,hzV,rfl⟩:=Option.map_eq_some_iff.1 hzV1
    obtain⟨zv,hzr,hzrep,_,inf,hinf,hinz⟩:=uE (P:=P) (K:=K) (μ:=μ) (w:=w) hzV
    have hzr':=Go.AM.V.toD_rep hzd (AtW hzrep)
    have hzs:zv.cells.size=k:=by have:=(yY hzr').length; simp at this; omega
    have hlr:=cY hs hl
    have hcr:=cY hs hc
    simp only[bY,RepC,Rep] at hlr hcr
    have hks:inf.size=k:=by simp[tsz,hinf] at hk; exact hk
    have hbytes:(inf.bytes:Int)*m<=281474976710656:=by
     have hbb:inf.bytes<=1024:=by simpa[Program.bytesOf,hinf] using hb
     have:(inf.bytes:Int)*m<=1024*4294967296:=Int.mul_le_mul oM hm oM oM
     omega
    have hrun:(execOp a.eval o).run P w=.ok (.value (.slice (some (ad w.heap.size 0)) n.toNat m.toNat)) (w.alloc (.cells (madeCells zv.cells (m.toNat*inf.size)) e)):=by
     simp[execOp,ho,hlr,hcr,run_make w t e inf zv (rJ ht) hinf hinz k1 k2 n m h0 hnm hbytes oM]
    have hmade:madeCells zv.cells (m.toNat*inf.size)=(cellsOf (List.replicate n.toNat zv)++cellsOf (List.replicate (m.toNat-n.toNat) zv)).toArray:=by
     apply Array.ext'
     have happ:∀l1 l2:List Value,cellsOf (l1++l2)=cellsOf l1++cellsOf l2:=by
      intro l1 l2
      induction l1 with
      |nil=>simp[cellsOf]
      |cons x l ih=>simp[cellsOf,ih,List.append_assoc]
     rw[←happ,List.replicate_append_replicate,show n.toNat+(m.toNat-n.toNat)=m.toNat from by omega,hks,←hzs]
     simpa using Ak0 zv oM m.toNat
    have hes:=vF (K:=K) (w:=w) hzr' hzs n.toNat
    have hcl:(cellsOf (List.replicate n.toNat zv)).length=n.toNat*k:=by
     have:=hes.cells; simpa using this
    have hcl2:(cellsOf (List.replicate (m.toNat-n.toNat) zv)).length=(m.toNat-n.toNat)*k:=by
     have:=(vF (K:=K) (w:=w) hzr' hzs (m.toNat-n.toNat)).cells; simpa using this
    cases hd:o.dst with
    |none=>
     refine⟨rfl,fB.new hs hrun (iF _ _) (λ_=>.ro) ⟨?_,by simp[V.ids,C.ids],?_,sM⟩⟩
     ·simp only[bY,RepC]
      have:=AiI (K:=K) (w:=w) (w':=w.alloc (.cells (madeCells zv.cells (m.toNat*inf.size)) e)) (cap:=m.toNat) (λ_=>.ro) (λ_ _=>rfl)
       (by rw[←hmade]; exact iF w _) hes (by simp; omega)
      simpa using this
     intro sz xs _ t ht; rw[hd] at ht; simp at ht
    |some dt=>
     refine⟨rfl,fB.new hs hrun (iF _ _) (λi=>if i<n.toNat*k then .ro else .sp (.tmp dt)) ⟨?_,by simp[V.ids,C.ids],?_,sM⟩⟩
     ·simp only[bY,RepC]
      have:=AiI (K:=K) (w:=w) (w':=w.alloc (.cells (madeCells zv.cells (m.toNat*inf.size)) e)) (cap:=m.toNat) (λi=>if i<n.toNat*k then .ro else .sp (.tmp dt))
       (λi hi=>by rw[hcl] at hi; simp[hi]) (by rw[←hmade]; exact iF w _) hes (by simp; omega)
      simpa using this
     intro sz xs e' t' ht'
     simp only[V.c.injEq,C.own.injEq] at e'
     obtain⟨rfl,_⟩:=e'
     rw[hd] at ht'; simp only[sJ] at ht'; subst ht'
     refine .inr ⟨w.heap.size,0,n.toNat,m.toNat,rfl,oM,λj h1 h2=>?_⟩
     refine⟨?_,?_,?_⟩
     ·simp only[gS,if_true,Nat.zero_add]; rw[if_neg oM]
     ·rw[(iF w _).cell,Nat.zero_add,hmade]
      simp only[List.getElem?_toArray]
      rw[getElem?_pos _ _ (by
       simp only[List.length_append,hcl,hcl2,←Nat.add_mul]
       rw[show n.toNat+(m.toNat-n.toNat)=m.toNat from by omega]; exact h2)]
      rfl
     rw[(iF w _).frozen]; simp
   simp at h
  simp at h
 simp at h
theorem AkP {o:Oper} {t:TypeId} {l c:Operand} (ho:o.op=.makeSlice t l c) {V:V} {nb:Option (List C)} {id:Nat}
  (h:evR P id o s.tmps s.heap=some (V,nb)) (hsame:rI l c=true) (hsim:∃μ,Sim K μ s a w):∃cs c,nb=some cs/\V=.c c/\An0 id c/\AhV P K s a w o c cs:=by
 simp only[evR,ho] at h
 split at h
 ·rename_i e k1 n k2 m ht hl hc
  split at h
  ·rename_i z k hz hk
   split at h
   ·rename_i hcond
    obtain⟨h0,hnm,hm,hb,hzl,hk0⟩:=hcond
    try rw[hsame] at h
    try simp only[if_true] at h
    simp only[sJ,pJ] at h
    obtain⟨rfl,rfl⟩:=h
    have hlc:l=c:=by
     cases l<;>cases c<;>simp[rI] at hsame
     rw[hsame]
    subst hlc
    rw[hl] at hc
    simp only[sJ,V.c.injEq,C.d.injEq,D.int.injEq] at hc
    obtain⟨rfl,rfl⟩:=hc
    rw[Option.bind_eq_some_iff] at hz
    obtain⟨zV1,hzV1,hzd⟩:=hz
    obtain⟨zV,hzV,rfl⟩:=Option.map_eq_some_iff.1 hzV1
    obtain⟨μ0,hs0⟩:=hsim
    obtain⟨zv,hzr,hzrep0,_,inf,hinf,hinz⟩:=uE (P:=P) (K:=K) (μ:=μ0) (w:=w) hzV
    have hzr':=Go.AM.V.toD_rep hzd (AtW hzrep0)
    have hzs:zv.cells.size=k:=by have:=(yY hzr').length; simp at this; omega
    have hlr:=cY hs0 hl
    simp only[bY,RepC,Rep] at hlr
    have hks:inf.size=k:=by simp[tsz,hinf] at hk; exact hk
    have hbytes:(inf.bytes:Int)*n<=281474976710656:=by
     have hbb:inf.bytes<=1024:=by simpa[Program.bytesOf,hinf] using hb
     have:(inf.bytes:Int)*n<=1024*4294967296:=Int.mul_le_mul oM hm oM oM
     omega
    have hrun:(execOp a.eval o).run P w=.ok (.value (.slice (some (ad w.heap.size 0)) n.toNat n.toNat)) (w.alloc (.cells (madeCells zv.cells (n.toNat*inf.size)) e)):=by
     simp[execOp,ho,hlr,run_make w t e inf zv (rJ ht) hinf hinz k1 k1 n n h0 (Int.le_refl _) hbytes oM]
    have hmade:(madeCells zv.cells (n.toNat*inf.size)).toList=cellsOf (List.replicate n.toNat zv):=by
     rw[hks,←hzs]
     exact Ak0 zv oM n.toNat
    refine⟨_,_,rfl,rfl,.inr ⟨_,_,rfl⟩,_,e,hrun,?_,λμ hs=>?_⟩
    ·intro i n' k' e'
     simp only[C.arr.injEq] at e'
     obtain⟨_,rfl,rfl⟩:=e'
     have:=(vF (K:=K) (w:=w) hzr' hzs n.toNat).cells
     rw[←Array.length_toList,hmade,this]; simp; omega
    rw[hmade]
    have hes:=vF (K:=K) (w:=w) hzr' hzs n.toNat
    obtain⟨i1,i2⟩:=kI.cellsC (μ:=μ) hes
    refine⟨⟨i1,rfl,?_⟩,i2,?_,?_⟩
    ·intro sz ds e
     simp only[List.cons.injEq,C.seq.injEq,and_true] at e
     obtain⟨rfl,rfl⟩:=e
     refine⟨hk0,λd hd=>?_⟩
     rw[List.eq_of_mem_replicate hd]; exact hzl
    ·intro c hc b hb
     simp only[List.mem_singleton] at hc
     subst hc
     simp[C.ids] at hb
    intro i sz xs v hc hv
    have:=List.mem_of_getElem? hc
    simp at this
   simp at h
  simp at h
 simp at h
theorem AxC:∀{n:Nat} {l:List (Nat×Operand)} {gs:List Nat},AsT n l=some gs->l=(List.range' n gs.length).zip (gs.map Operand.func)
 |n,[],gs,h=>by simp only[AsT,sJ] at h; subst h; rfl
 |n,(i,x)::r,gs,h=>by
  cases x with
  |func g=>
   simp only[AsT] at h
   split at h
   ·rename_i hi
    rw[Option.map_eq_some_iff] at h
    obtain⟨gs',h1,rfl⟩:=h
    have:=AxC h1
    rw[this]; subst hi
    simp[List.range'_succ]
   simp at h
  |_=>simp[AsT] at h
theorem Bh5 {l:List (Nat×Operand)} {gs:List Nat} (h:AmD l=some gs):l=(List.range' 0 gs.length).zip (gs.map Operand.func):=by
 unfold AmD at h
 split at h
 ·simp at h
 split at h
 ·exact AxC h
 simp at h
theorem AwT {o:Oper} {t:TypeId} {len:Nat} {parts:Array (Nat×Operand)} {gs:List Nat} (ho:o.op=.buildSlice t len parts) (hfn:AmD parts.toList=some gs) {V:V} {nb:Option (List C)} {id:Nat}
  (h:evR P id o s.tmps s.heap=some (V,nb)) (hsim:∃μ,Sim K μ s a w):∃cs c,nb=some cs/\V=.c c/\An0 id c/\AhV P K s a w o c cs:=by
 simp only[evR,ho,hfn,Bj9] at h
 split at h
 ·rename_i e ht
  split at h
  ·rename_i hn
   split at h
   ·rename_i hc
    obtain⟨hlen,hle,hz⟩:=hc
    simp only[sJ,pJ] at h
    obtain⟨rfl,rfl⟩:=h
    obtain⟨μ0,hs0⟩:=hsim
    obtain⟨z,hz⟩:=Option.isSome_iff_exists.1 hz
    obtain⟨zv,hzr,_⟩:=uE (P:=P) (K:=K) (μ:=μ0) (w:=w) hz
    have hps:=Bh5 hfn
    have hev:(parts.map λx=>(x.1,a.eval x.2)).toList=(List.range' 0 (gs.map λg=>Value.func (.func g) #[] #[]).length).zip (gs.map λg=>Value.func (.func g) #[] #[]):=by
     rw[Array.toList_map,hps,List.length_map]
     have:∀(n:Nat) (gs:List Nat),((List.range' n gs.length).zip (gs.map Operand.func)).map (λx=>(x.1,a.eval x.2))=(List.range' n gs.length).zip (gs.map λg=>Value.func (.func g) #[] #[]):=by
      intro n gs
      induction gs generalizing n with
      |nil=>rfl
      |cons g gs ih=>simp only[List.length_cons,List.range'_succ,List.map_cons,List.zip_cons_cons,ih]; rfl
     exact this 0 gs
    have hcells:cellsOf (gs.map λg=>Value.func (.func g) #[] #[])=gs.map λg=>Value.func (.func g) #[] #[]:=by
     clear hfn hlen hle hps hev ho
     induction gs with
     |nil=>rfl
     |cons g gs ih=>simp only[List.map_cons,cellsOf,ih]; rfl
    have hfill:∀z:Array Value,Instr.fill (λi=>some (i*1,1)) ((Array.range (len*1)).map (z[· % z.size]!)) ((parts.map λx=>(x.1,a.eval x.2)).toList) =
      some (gs.map λg=>Value.func (.func g) #[] #[]).toArray:=by
     intro z
     rw[hev]
     have:=AjQ (sz:=1) (gs.map λg=>Value.func (.func g) #[] #[]) 0 [] ((Array.range (len*1)).map (z[· % z.size]!)).toList
      (by intro v hv; simp only[List.mem_map] at hv; obtain⟨g,_,rfl⟩:=hv; rfl) sM (by simp[hlen])
     rw[List.nil_append,List.nil_append,Array.toArray_toList,hcells] at this
     exact this
    have hrun:(execOp a.eval o).run P w=.ok (.value (.slice (some (ad w.heap.size 0)) len len)) (w.alloc (.cells (gs.map λg=>Value.func (.func g) #[] #[]).toArray e)):=by
     simp only[execOp,ho,Sem.run_bind,AhN (rJ ht) hn oM hzr hfill,Result.andThen_ok,Sem.run_pure]
    have hL:∀l:List Nat,aZ K μ0 w (l.map λg=>C.fn g []) (l.map λg=>Value.func (.func g) #[] #[]):=by
     intro l
     induction l with
     |nil=>exact .nil
     |cons g l ih=>exact .cons (by simp only[RepC,List.map_nil]) ih
    refine⟨_,_,rfl,rfl,.inr ⟨_,_,rfl⟩,_,e,hrun,?_,λμ hs=>?_⟩
    ·intro i n' k' e'
     simp only[C.arr.injEq] at e'
     obtain⟨_,rfl,rfl⟩:=e'
     simp[hlen]; omega
    refine⟨aZ.lay ?_,?_,?_,?_⟩
    ·have:∀l:List Nat,aZ K μ w (l.map λg=>C.fn g []) (l.map λg=>Value.func (.func g) #[] #[]):=by
      intro l
      induction l with
      |nil=>exact .nil
      |cons g l ih=>exact .cons (by simp only[RepC,List.map_nil]) ih
     exact this gs
    ·intro x hx
     simp only[List.mem_map] at hx
     obtain⟨g,_,rfl⟩:=hx
     rfl
    ·intro c hc b hb
     simp only[List.mem_map] at hc
     obtain⟨g,_,rfl⟩:=hc
     simp[C.ids] at hb
    intro i sz xs v hc hv
    simp at hc
   simp at h
  simp at h
 simp at h
theorem ArF (hs:Sim K μ s a w) {o:Oper} {fn:Fn} {first captured:Array Operand} (ho:o.op=.makeFunc fn first captured) {V:V} {nb:Option (List C)} {id:Nat}
  (h:evR P id o s.tmps s.heap=some (V,nb)):nb=none/\fB P K μ s a w o V:=by
 simp only[evR,ho] at h
 split at h
 ·rename_i f
  split at h
  ·rename_i y hfy
   split at h
   ·rename_i x hcp hx
    simp only[sJ,pJ] at h
    obtain⟨rfl,rfl⟩:=h
    have hf':first=#[y]:=by apply Array.ext'; simpa using hfy
    have hc':captured=#[]:=by apply Array.ext'; simpa using hcp
    obtain⟨vx,hvx,hdx⟩:=Option.bind_eq_some_iff.1 hx
    have hr:=Go.AM.V.toD_rep hdx (cY hs hvx)
    exact⟨rfl,fB.plain hs (v:=.func (.func f) #[a.eval y] #[]) (by simp[execOp,ho,Instr.makeFunc,hf',hc']) ⟨_,rfl,hr⟩ (by simp[Go.AM.V.ids,C.ids]) sM⟩
   simp at h
  split at h
  ·rename_i hf
   split at h
   ·rename_i ids hids
    simp only[sJ,pJ] at h
    obtain⟨rfl,rfl⟩:=h
    have hf':first=#[]:=by apply Array.ext'; simpa[List.isEmpty_iff] using hf
    have aux:∀(l:List Operand) (ids:List Nat),aY (λx=>match ev s.tmps x with|some (.c (.ptr b 0))=>some b|_=>none) l=some ids ->
      l.map a.eval=ids.map (λb=>Value.pointer (some (ad (μ b) 0)))/\∀b∈ids,b<s.nid:=by
     intro l
     induction l with
     |nil=>intro ids h; simp only[aY,sJ] at h; subst h; simp
     |cons x l ih=>
      intro ids h
      simp only[aY] at h
      split at h
      ·rename_i b bs hb hbs
       simp only[sJ] at h; subst h
       obtain⟨h1,h2⟩:=ih bs hbs
       split at hb
       ·rename_i b' hx
        simp only[sJ] at hb; subst hb
        have hr:=cY hs hx
        simp only[bY,RepC] at hr
        have hi:=Aa4 hs hx
        refine⟨by simp[hr,h1],?_⟩
        intro c hc
        rcases List.mem_cons.1 hc with rfl|hc
        ·exact hi c (by simp[Go.AM.V.ids,C.ids])
        exact h2 c hc
       simp at hb
      simp at h
    obtain⟨h1,h2⟩:=aux _ _ hids
    refine⟨rfl,fB.plain hs (v:=.func (.func f) #[] (captured.map a.eval)) (by simp[execOp,ho,Instr.makeFunc,hf']) ?_ (by simpa[C.ids] using h2) sM⟩
    simp only[RepC]
    congr 1
    apply Array.ext'
    simp[h1]
   simp at h
  simp at h
 simp at h
end
end Go.AM
namespace Go.AM
open Go
variable [cU]
section
variable {P:Program} {K:Col} {μ:Nat->Nat} {w w':World} {s:St} {a:Act}
theorem sZ (hs:Sim K μ s a w) {x:Option Operand} {d n:Nat} (h:gN s.tmps x d=some n) :
  (x=none/\n=d)\/∃o k i,x=some o/\a.eval o=.int k i/\0<=i/\n=i.toNat:=by
 cases x with
 |none=>simp only[gN,sJ] at h; exact .inl ⟨rfl,h.symm⟩
 |some o=>
  simp only[gN] at h
  split at h
  ·rename_i k i hx
   split at h
   ·rename_i hi
    simp only[sJ] at h; subst h
    have hr:=cY hs hx
    simp only[bY,RepC,Rep] at hr
    exact .inr ⟨o,k,i,rfl,hr,hi,rfl⟩
   simp at h
  simp at h
theorem xZ {k:IntKind} {i:Int} {y:Nat} {code:BoundsCode} (h0:0<=i) (h1:i<=y):(Instr.sliceBound (.int k i) y code).run P w=.ok i.toNat w:=by
 simp[Instr.sliceBound,asIntOf,h0,h1]
theorem vR (hs:Sim K μ s a w) {lo hi mx:Option Operand} {len cap l h:Nat} (isS:Bool) (hl:gN s.tmps lo 0=some l) (hh:gN s.tmps hi len=some h)
  (hlh:l<=h) (hhl:h<=len) (hlc:len<=cap) (m:Nat)
  (hm:(mx=none/\m=cap)\/(hi.isSome=true/\∃o,mx=some o/\gN s.tmps (some o) 0=some h/\m=h)) :
  (Instr.sliceBounds isS len cap (lo.map a.eval) (hi.map a.eval) (mx.map a.eval)).run P w=.ok (l,h,m) w:=by
 have hlo:∀code,(match lo.map a.eval with|some v=>Instr.sliceBound v h code|none=>pure 0:Sem Nat).run P w=.ok l w:=by
  intro code
  rcases sZ hs hl with ⟨rfl,rfl⟩|⟨o,k,i,rfl,he,h0,rfl⟩
  ·rfl
  simp only[Option.map_some,he]; exact xZ h0 oM
 rcases hm with ⟨rfl,rfl⟩|⟨hsome,o,rfl,hmo,rfl⟩
 ·have hhi:∀code,(match hi.map a.eval with|some v=>Instr.sliceBound v m code|none=>pure len:Sem Nat).run P w=.ok h w:=by
   intro code
   rcases sZ hs hh with ⟨rfl,rfl⟩|⟨o,k,i,rfl,he,h0,rfl⟩
   ·rfl
   simp only[Option.map_some,he]; exact xZ h0 oM
  cases hi with
  |none=>
   rcases sZ hs hh with ⟨_,rfl⟩|⟨o,k,i,e,_⟩
   ·cases lo with
    |none=>
     rcases sZ hs hl with ⟨_,rfl⟩|⟨o,k,i,e,_⟩
     ·simp[Instr.sliceBounds]
     simp at e
    |some lo=>
     have:=hlo .sliceB
     simp at this
     simp[Instr.sliceBounds,this]
   simp at e
  |some hi=>
   have h1:=hhi (if isS then .sliceAcap else .sliceAlen)
   simp at h1
   cases lo with
   |none=>
    rcases sZ hs hl with ⟨_,rfl⟩|⟨o,k,i,e,_⟩
    ·simp[Instr.sliceBounds,h1]
    simp at e
   |some lo=>
    have:=hlo .sliceB
    simp at this
    simp[Instr.sliceBounds,h1,this]
 cases hi with
 |none=>simp at hsome
 |some hi=>
  rcases sZ hs hmo with ⟨e,_⟩|⟨o',k,i,e,he,h0,hie⟩
  ·simp at e
  simp only[sJ] at e; subst e
  have hm1:(Instr.sliceBound (a.eval o) cap (if isS then .slice3Acap else .slice3Alen)).run P w=.ok m w:=by
   rw[he,hie]; exact xZ h0 oM
  have hh1:(Instr.sliceBound (a.eval hi) m .slice3B).run P w=.ok m w:=by
   rcases sZ hs hh with ⟨e,_⟩|⟨o',k,i,e,he,h0,hie⟩
   ·simp at e
   simp only[sJ] at e; subst e
   rw[he]; rw[hie]; exact xZ h0 oM
  cases lo with
  |none=>
   rcases sZ hs hl with ⟨_,rfl⟩|⟨o,k,i,e,_⟩
   ·simp[Instr.sliceBounds,hm1,hh1]
   simp at e
  |some lo=>
   have:=hlo .slice3C
   simp at this
   simp[Instr.sliceBounds,hm1,hh1,this]
theorem AfA (t:TypeId) (x:Value) (lo hi mx:Option Value) {d:TypeDesc} (ht:P.underlying t=some d) (hd:∀n e,d≠.array n e) :
  (Instr.sliceAt t x lo hi mx).run P w=(Instr.slice t x lo hi mx).run P w:=by
 cases d<;>first|(exact absurd rfl (hd _ _))|simp[Instr.sliceAt,run_underlying ht]
omit [cU] in
theorem Ae1 {t:TypeId} {V:V} {d:D} (h:V.toD=some d):AuZ P t V=match P.underlying t,(some d:Option D) with
  |some .string,some (.str s)=>some s.length
  |some (.slice _),some (.list _ xs)=>some xs.length
  |_,_=>none:=by
 unfold AuZ
 split
 ·simp[V.toD,C.toD] at h
 (rw[h])<;>rfl
theorem BaB (hs:Sim K μ s a w) {t:TypeId} {x:Operand} {lo hi mx:Option Operand} {V:V} {n l h:Nat} {full:Bool} {c:C}
  (hx:evT P t s.tmps x=some V) (hlen:AuZ P t V=some n) (hl:gN s.tmps lo 0=some l) (hh:gN s.tmps hi n=some h)
  (hm:(full=false/\mx=none)\/(full=true/\hi.isSome=true/\∃o,mx=some o/\gN s.tmps (some o) 0=some h))
  (hc:AhS P t V l h full=some c) :
  ∃v,(Instr.sliceAt t (a.eval x) (lo.map a.eval) (hi.map a.eval) (mx.map a.eval)).run P w=.ok v w/\RepC K μ w c v/\c.ids=[] /\
   ∀sz xs,c=.own sz xs->∀l,rL K w l sz v:=by
 have hxr:=fN hs hx
 unfold AhS at hc
 split at hc
 ·rename_i st ht hd
  split at hc
  ·rename_i hcond
   obtain⟨h1,h2,h3⟩:=hcond
   simp only[sJ] at hc; subst hc
   have hr:=Go.AM.V.toD_rep hd hxr
   simp only[Rep] at hr
   have hn:n=st.length:=by
    rw[Ae1 hd,ht] at hlen
    simpa using hlen.symm
   subst hn
   rcases hm with ⟨_,rfl⟩|⟨rfl,_⟩
   ·have hb:=vR (P:=P) (mx:=none) hs false hl hh h1 h2 (Nat.le_refl _) st.length (.inl ⟨rfl,rfl⟩)
    refine⟨.string ⟨((st.take h).drop l).toArray⟩,?_,by simp[RepC,Rep],rfl,sM⟩
    rw[AfA _ _ _ _ _ ht sM]
    have hext:(⟨st.toArray⟩:ByteArray).extract l h=⟨((st.take h).drop l).toArray⟩:=by
     apply ByteArray.ext
     simp[List.drop_take]
    simp only[Instr.slice,Sem.run_bind,run_underlying ht,Result.andThen_ok,hr,Ac8,Option.map_none,Option.isSome_none,fJ,if_false]
    simp only[Option.map_none] at hb
    simp[hb,hext]
   simp at h3
  simp at hc
 ·rename_i e sz xs ht hd
  split at hc
  ·rename_i hcond
   obtain⟨h1,h2,h3⟩:=hcond
   simp only[sJ] at hc
   have hr:=Go.AM.V.toD_rep hd hxr
   simp only[Rep] at hr
   have hn:n=xs.length:=by
    rw[Ae1 hd,ht] at hlen
    simpa using hlen.symm
   subst hn
   rcases hr with ⟨rfl,hr|⟨ea,ecap,hr⟩⟩|⟨blk,off,cap,hv,hcap,he⟩
   ·have hh0:h=0:=by simpa using h2
    subst hh0
    have hl0:l=0:=oM
    subst hl0
    have hb:(Instr.sliceBounds true 0 0 (lo.map a.eval) (hi.map a.eval) (mx.map a.eval)).run P w=.ok (0,0,0) w:=by
     rcases hm with ⟨_,rfl⟩|⟨_,hs1,o,rfl,hmo⟩
     ·exact vR (P:=P) (mx:=none) hs true hl hh (Nat.le_refl _) (Nat.le_refl _) (Nat.le_refl _) 0 (.inl ⟨rfl,rfl⟩)
     exact vR (P:=P) (mx:=some o) hs true hl hh (Nat.le_refl _) (Nat.le_refl _) (Nat.le_refl _) 0 (.inr ⟨hs1,o,rfl,hmo,rfl⟩)
    refine⟨.slice none 0 0,?_,?_,?_,?_⟩
    ·rw[AfA _ _ _ _ _ ht sM]
     simp[Instr.slice,run_underlying ht,hr,hb,dX h3]
    ·rw[←hc]; cases full<;>simp[RepC,Rep,Ag8,AuE]
    ·rw[←hc]; cases full<;>rfl
    intro sz' xs' _ l'; exact .inl (.inl rfl)
   ·have hh0:h=0:=by simpa using h2
    subst hh0
    have hl0:l=0:=oM
    subst hl0
    obtain⟨m,hmc,hb⟩:∃m,(full=true->m=0)/\(Instr.sliceBounds true 0 ecap (lo.map a.eval) (hi.map a.eval) (mx.map a.eval)).run P w=.ok (0,0,m) w:=by
     rcases hm with ⟨rfl,rfl⟩|⟨rfl,hs1,o,rfl,hmo⟩
     ·exact⟨ecap,sM,vR (P:=P) (mx:=none) hs true hl hh (Nat.le_refl _) (Nat.le_refl _) (Nat.zero_le _) ecap (.inl ⟨rfl,rfl⟩)⟩
     exact⟨0,λ_=>rfl,vR (P:=P) (mx:=some o) hs true hl hh (Nat.le_refl _) (Nat.le_refl _) (Nat.zero_le _) 0 (.inr ⟨hs1,o,rfl,hmo,rfl⟩)⟩
    have hadd:ea.add 0=ea:=by simp[Addr.add]
    refine⟨.slice (some ea) 0 m,?_,?_,?_,?_⟩
    ·rw[AfA _ _ _ _ _ ht sM]
     by_cases hm0:m=0<;>simp[Instr.slice,run_underlying ht,hr,hb,dX h3,hm0,hadd]
    ·rw[←hc]
     cases full
     ·simp[RepC,Rep,AuE]
     rw[hmc rfl]; simp[RepC,Rep,Ag8,AuE]
    ·rw[←hc]; cases full<;>rfl
    intro sz' xs' e' l'
    rw[←hc] at e'
    cases full<;>simp at e'
   obtain⟨m,hmh,hmc,hb⟩:∃m,h<=m/\(full=true->m=h) /\
     (Instr.sliceBounds true xs.length cap (lo.map a.eval) (hi.map a.eval) (mx.map a.eval)).run P w=.ok (l,h,m) w:=by
    rcases hm with ⟨rfl,rfl⟩|⟨rfl,hs1,o,rfl,hmo⟩
    ·exact⟨cap,oM,sM,vR (P:=P) (mx:=none) hs true hl hh h1 h2 hcap cap (.inl ⟨rfl,rfl⟩)⟩
    exact⟨h,Nat.le_refl _,λ_=>rfl,vR (P:=P) (mx:=some o) hs true hl hh h1 h2 hcap h (.inr ⟨hs1,o,rfl,hmo,rfl⟩)⟩
   have hlen':((xs.take h).drop l).length=h-l:=by simp; omega
   have hrep:∀off',(m≠l->off'=off+l*sz)->Rep K w (.list sz ((xs.take h).drop l)) (.slice (some (ad blk off')) (h-l) (m-l)):=by
    intro off' ho
    simp only[Rep]
    refine .inr ⟨blk,off',m-l,by rw[hlen'],by rw[hlen']; omega,?_⟩
    by_cases hml:m=l
    ·have:(xs.take h).drop l=[]:=by
      apply List.eq_nil_of_length_eq_zero
      rw[hlen']; omega
     rw[this]; simp[iM]
    rw[ho hml]
    exact (he.take h).drop l
   have hrun:∃off',(m≠l->off'=off+l*sz)/\(Instr.sliceAt t (a.eval x) (lo.map a.eval) (hi.map a.eval) (mx.map a.eval)).run P w=.ok (.slice (some (ad blk off')) (h-l) (m-l)) w:=by
    rw[AfA _ _ _ _ _ ht sM]
    by_cases hml:m=l
    ·exact⟨off,λh=>absurd hml h,by simp[Instr.slice,run_underlying ht,hv,hb,dX h3,hml]⟩
    exact⟨off+l*sz,λ_=>rfl,by simp[Instr.slice,run_underlying ht,hv,hb,dX h3,hml,Addr.add_lit]⟩
   obtain⟨off',ho',hrun⟩:=hrun
   refine⟨_,hrun,?_,?_,?_⟩
   ·rw[←hc]
    cases full
    ·simpa[RepC] using hrep off' ho'
    refine⟨hrep off' ho',.inr (.inr ⟨blk,off',h-l,?_⟩)⟩
    rw[hmc rfl]
   ·rw[←hc]; cases full<;>rfl
   intro sz' xs' e' l'
   rw[←hc] at e'
   cases full<;>simp at e'
  simp at hc
 simp at hc
theorem AzM (hs:Sim K μ s a w) {o:Oper} {t:TypeId} {x:Operand} {lo hi mx:Option Operand} (ho:o.op=.slice t x lo hi mx) {V:V} {nb:Option (List C)} {id:Nat}
  (h:evR P id o s.tmps s.heap=some (V,nb)):nb=none/\fB P K μ s a w o V:=by
 simp only[evR,ho] at h
 have fin:∀{full:Bool} {c:C} {vx:Go.AM.V} {n l hh:Nat},evT P t s.tmps x=some vx->AuZ P t vx=some n->gN s.tmps lo 0=some l->gN s.tmps hi n=some hh ->
   ((full=false/\mx=none)\/(full=true/\hi.isSome=true/\∃o,mx=some o/\gN s.tmps (some o) 0=some hh)) ->
   AhS P t vx l hh full=some c->V=.c c->nb=none->nb=none/\fB P K μ s a w o V:=by
  intro full c vx n l hh h1 h2 h3 h4 h5 h6 h7 h8
  obtain⟨v,hv,hr,hi,hsp⟩:=BaB hs h1 h2 h3 h4 h5 h6
  subst h7
  refine⟨h8,fB.still hs (v:=v) (by simp[execOp,ho,hv]) hr (by simp[Go.AM.V.ids,hi]) ?_ sM⟩
  intro sz xs e l
  simp only[V.c.injEq] at e
  exact hsp sz xs e l
 split at h
 ·rename_i vx hx
  split at h
  ·rename_i n hn
   split at h
   ·rename_i l hh hl hhh
    simp only[Option.map_eq_some_iff,pJ] at h
    obtain⟨c,hc,rfl,rfl⟩:=h
    exact fin hx hn hl hhh (.inl ⟨rfl,rfl⟩) hc rfl rfl
   ·rename_i l hh m hl hhh
    split at h
    ·rename_i mm hmm
     split at h
     ·rename_i hcond
      obtain⟨rfl,hsome⟩:=hcond
      simp only[Option.map_eq_some_iff,pJ] at h
      obtain⟨c,hc,rfl,rfl⟩:=h
      exact fin hx hn hl hhh (.inr ⟨rfl,hsome,m,rfl,hmm⟩) hc rfl rfl
     simp at h
    simp at h
   simp at h
  simp at h
 simp at h
end
end Go.AM
namespace Go.AM
open Go MapKept
variable [cU]
section
variable {P:Program} {K:Col} {μ:Nat->Nat} {w w':World} {s:St} {a:Act}
theorem AmM {t k e:TypeId} (h:Ba2 P t=some (k,e)):P.underlying t=some (.map k e)/\∃d,P.underlying k=some d:=by
 unfold Ba2 at h
 split at h
 ·rename_i k' e' ht
  split at h
  ·rename_i j hk
   simp only[sJ,pJ] at h
   obtain⟨rfl,rfl⟩:=h
   exact⟨ht,_,hk⟩
  ·rename_i hk
   simp only[sJ,pJ] at h
   obtain⟨rfl,rfl⟩:=h
   exact⟨ht,_,hk⟩
  simp at h
 simp at h
theorem Aq9 {kt:TypeId} {x:D} {d:TypeDesc} {v:Value} (h:AxP P kt x=true) (hd:P.underlying kt=some d) (hr:Rep K w x v):IsKey d v:=by
 unfold AxP at h
 split at h
 ·rename_i j k n hk
  rw[hk,sJ] at hd; subst hd
  simp only[Rep] at hr; subst hr
  simp only[decide_eq_true_eq] at h
  exact h
 ·rename_i l hk
  rw[hk,sJ] at hd; subst hd
  simp only[Rep] at hr; subst hr
  trivial
 simp at h
theorem nP {x y:D} {d:TypeDesc} {u v:Value} {b:Bool} (h:Al2 x y=some b) (hu:Rep K w x u) (hv:Rep K w y v) (hk:IsKey d u):Instr.sameNow d u v=some b:=by
 unfold Al2 at h
 split at h
 ·rename_i j m k n
  split at h
  ·rename_i hjk
   subst hjk
   simp only[sJ] at h; subst h
   simp only[Rep] at hu hv; subst hu; subst hv
   cases d<;>simp[IsKey] at hk
   simp[Instr.sameNow]
  simp at h
 ·rename_i l m
  simp only[sJ] at h; subst h
  simp only[Rep] at hu hv; subst hu; subst hv
  cases d<;>simp[IsKey] at hk
  simp only[Instr.sameNow,sJ]
  by_cases e:l=m
  ·subst e
   have h1:((⟨l.toArray⟩:ByteArray)==⟨l.toArray⟩)=true:=(bytes_beq _ _).2 rfl
   rw[h1]; simp
  have h1:(l==m)=false:=by simpa using e
  rw[h1]
  cases hb:((⟨l.toArray⟩:ByteArray)==⟨m.toArray⟩) with
  |false=>rfl
  |true=>
   have:=(bytes_beq _ _).1 hb
   simp only[ByteArray.mk.injEq] at this
   have:=congrArg Array.toList this
   simp at this
   exact absurd this e
 simp at h
theorem AmB {x:D} {d:TypeDesc} {u:Value} (hu:Rep K w x u) (hk:IsKey d u):∀{kvs:List (D×MV)} {es:List MapEntry} {r:Option MV} (i:Nat),AdV x kvs=some r->hU K μ w kvs es ->
  match r with
  |none=>Instr.findNow d u es i=some none
  |some m=>∃j e,Instr.findNow d u es i=some (some (i+j,e.val))/\es[j]?=some e/\RepC K μ w m.toC e.val
 | [],es,r,i,h,hm=>by
  simp only[AdV,sJ] at h; subst h
  simp only[hU] at hm; subst hm
  rfl
 |(k,m)::kvs,es,r,i,h,hm=>by
  simp only[hU] at hm
  obtain⟨e,es',rfl,h1,h2,h3⟩:=hm
  simp only[AdV] at h
  split at h
  ·rename_i hq
   simp only[sJ] at h; subst h
   exact⟨0,e,by simp[Instr.findNow,nP hq hu h1 hk],rfl,h2⟩
  ·rename_i hq
   have ih:=AmB hu hk (i+1) h h3
   cases r with
   |none=>simp only[Instr.findNow,nP hq hu h1 hk]; exact ih
   |some m'=>
    obtain⟨j,e',g1,g2,g3⟩:=ih
    exact⟨j+1,e',by simp only[Instr.findNow,nP hq hu h1 hk,g1]; rw[show i+1+j=i+(j+1) from by omega],by simpa using g2,g3⟩
  simp at h
theorem AtJ {x:D} {mv:MV} {d:TypeDesc} {u val:Value} (hu:Rep K w x u) (hk:IsKey d u) (hv:RepC K μ w mv.toC val):∀{kvs kvs':List (D×MV)} {es:List MapEntry} (i:Nat),AlR x mv kvs=some kvs'->hU K μ w kvs es ->
  (Instr.findNow d u es i=some none/\∀clk,hU K μ w kvs' (es++[{ key:=u,val:=val,born:=clk }])) \/
  ∃j e,Instr.findNow d u es i=some (some (i+j,e.val))/\es[j]?=some e/\e.key=u/\hU K μ w kvs' (es.set j { e with key:=u,val:=val })
 | [],kvs',es,i,h,hm=>by
  simp only[AlR,sJ] at h; subst h
  simp only[hU] at hm; subst hm
  exact .inl ⟨rfl,λclk=>by simp only[List.nil_append,hU]; exact⟨_,_,rfl,hu,hv,rfl⟩⟩
 |(k,m)::kvs,kvs',es,i,h,hm=>by
  simp only[hU] at hm
  obtain⟨e,es',rfl,h1,h2,h3⟩:=hm
  simp only[AlR] at h
  split at h
  ·rename_i hq
   simp only[sJ] at h; subst h
   have hs:=nP hq hu h1 hk
   have hkey:e.key=u:=by
    cases d<;>cases u<;>simp[IsKey] at hk<;>(try subst hk)<;>cases he:e.key<;>rw[he] at hs<;>simp[Instr.sameNow] at hs
    ·rw[hs]
    ·obtain⟨rfl,hs⟩:=hs; rw[hs]
    rw[(bytes_beq _ _).1 hs]
   exact .inr ⟨0,e,by simp[Instr.findNow,hs],rfl,hkey,by simp only[List.set_cons_zero,hU]; exact⟨_,_,rfl,hu,hv,h3⟩⟩
  ·rename_i hq
   simp only[Option.map_eq_some_iff] at h
   obtain⟨r,h,rfl⟩:=h
   rcases AtJ hu hk hv (i+1) h h3 with ⟨g1,g2⟩|⟨j,e',g1,g2,g3,g4⟩
   ·exact .inl ⟨by simp only[Instr.findNow,nP hq hu h1 hk,g1],λclk=>by simp only[List.cons_append,hU]; exact⟨_,_,rfl,h1,h2,g2 clk⟩⟩
   exact .inr ⟨j+1,e',by simp only[Instr.findNow,nP hq hu h1 hk,g1]; rw[show i+1+j=i+(j+1) from by omega],by simpa using g2,g3,by simp only[List.set_cons_succ,hU]; exact⟨_,_,rfl,h1,h2,g4⟩⟩
  simp at h
theorem AtV {e:TypeId} {c:C} (h:Ar5 P e=some c):∃v,(zeroValue e).run P w=.ok v w/\RepC K μ w c v/\c.ids=[]/\∀sz xs,c≠.own sz xs:=by
 unfold Ar5 at h
 split at h
 ·simp at h
 ·simp at h
 ·simp at h
 ·rename_i c' hno _ _ hz
  simp only[sJ] at h; subst h
  obtain⟨v,h1,h2,h3,_⟩:=uE (P:=P) (K:=K) (μ:=μ) (w:=w) hz
  exact⟨v,h1,h2,h3,λsz xs e=>hno sz xs e⟩
 simp at h
theorem Ak7 (hs:Sim K μ s a w) {o:Oper} {ok b:Bool} {c:C} {v:Value} (hrun:(execOp a.eval o).run P w=.ok (.value (if ok then .tuple #[v,.bool b] else v)) w) (hr:RepC K μ w c v) (hi:∀b∈c.ids,b<s.nid) (ho:∀sz xs,c≠.own sz xs) :
  fB P K μ s a w o (AjD ok c b):=by
 cases ok with
 |false=>
  simp only[fJ,if_false] at hrun
  exact fB.plain hs hrun hr hi ho
 |true=>
  simp only[if_true] at hrun
  refine fB.still hs hrun ?_ ?_ ?_ ?_
  ·exact⟨[v,.bool b],rfl,.cons hr (.cons (by simp[RepC,Rep]) .nil)⟩
  ·intro i hi'
   simp only[AjD,if_true,Go.AM.V.ids,List.mem_flatMap,List.mem_cons,List.not_mem_nil,or_false] at hi'
   obtain⟨c',hc',hb'⟩:=hi'
   rcases hc' with rfl|rfl
   ·exact hi i hb'
   simp[C.ids] at hb'
  ·intro sz xs e; simp[AjD] at e
  intro l sz xs e; simp[AjD] at e
theorem hU.ids {kvs:List (D×MV)} {x:D} {m:MV}:∀{kvs:List (D×MV)},AdV x kvs=some (some m)->∃k,(k,m)∈kvs
 | [],h=>by simp[AdV] at h
 |(k,m')::r,h=>by
  simp only[AdV] at h
  split at h
  ·simp only[sJ] at h; subst h
   exact⟨k,sM⟩
  ·obtain⟨k',hk⟩:=hU.ids (kvs:=kvs) h
   exact⟨k',by simp[hk]⟩
  simp at h
theorem AwU (hs:Sim K μ s a w) {o:Oper} {t:TypeId} {x y:Operand} {ok:Bool} (ho:o.op=.lookup t x y ok) {V':V} {nb:Option (List C)} {id:Nat}
  (h:evR P id o s.tmps s.heap=some (V',nb)):nb=none/\fB P K μ s a w o V':=by
 simp only[evR,ho] at h
 split at h
 ·rename_i kt e b kd hmt hx hy
  obtain⟨htt,d,hkt⟩:=AmM hmt
  have hxr:=cY hs hx
  simp only[bY,RepC] at hxr
  obtain⟨yv,hyv,hyd⟩:=Option.bind_eq_some_iff.1 hy
  have hyr:=V.toD_rep hyd (cY hs hyv)
  split at h
  ·rename_i hkey
   have hik:=Aq9 hkey hkt hyr
   split at h
   ·rename_i cs hb
    split at h
    ·rename_i kvs hm
     simp only[Option.map_eq_some_iff,pJ] at h
     obtain⟨v,h,rfl,rfl⟩:=h
     refine⟨rfl,?_⟩
     obtain⟨es,clk,hobj,hrep,_⟩:=(hs.heap b cs hb).2.2.map hm
     obtain⟨cm,hcm,_,hcid,_⟩:=AiC hm
     subst hcm
     unfold AnQ at h
     split at h
     ·rename_i m hf
      simp only[sJ] at h; subst h
      obtain⟨j,en,g1,g2,g3⟩:=AmB hyr hik 0 hf hrep
      refine Ak7 hs (v:=en.val) ?_ g3 ?_ (by intro sz xs; cases m<;>simp[MV.toC])
      ·cases ok<;>simp[execOp,ho,hxr,Instr.lookup,run_underlying htt,MapKept.run_getObj_map hobj,MapKept.run_checkKey hkt hik,MapKept.run_findKey hkt g1]
      intro i hi
      rw[MV.toC_ids] at hi
      obtain⟨k,hk⟩:=hU.ids (kvs:=kvs) hf
      exact (hs.heap b _ hb).2.1 cm sM i (hcid _ hk i hi)
     ·rename_i hf
      simp only[Option.map_eq_some_iff] at h
      obtain⟨c,hz,rfl⟩:=h
      have g1:=AmB hyr hik 0 hf hrep
      obtain⟨z,z1,z2,z3,z4⟩:=AtV (P:=P) (K:=K) (μ:=μ) (w:=w) hz
      refine Ak7 hs (v:=z) ?_ z2 (by simp[z3]) z4
      cases ok<;>simp[execOp,ho,hxr,Instr.lookup,run_underlying htt,MapKept.run_getObj_map hobj,MapKept.run_checkKey hkt hik,MapKept.run_findKey hkt g1,z1]
     simp at h
    simp at h
   simp at h
  simp at h
 ·rename_i kt e kd hmt hx hy
  obtain⟨htt,d,hkt⟩:=AmM hmt
  have hxr:=cY hs hx
  simp only[bY,RepC] at hxr
  obtain⟨yv,hyv,hyd⟩:=Option.bind_eq_some_iff.1 hy
  have hyr:=V.toD_rep hyd (cY hs hyv)
  split at h
  ·rename_i hkey
   have hik:=Aq9 hkey hkt hyr
   simp only[Option.map_eq_some_iff,pJ] at h
   obtain⟨v,h,rfl,rfl⟩:=h
   refine⟨rfl,?_⟩
   simp only[AnQ,AdV,Option.map_eq_some_iff] at h
   obtain⟨c,hz,rfl⟩:=h
   obtain⟨z,z1,z2,z3,z4⟩:=AtV (P:=P) (K:=K) (μ:=μ) (w:=w) hz
   refine Ak7 hs (v:=z) ?_ z2 (by simp[z3]) z4
   have g1:(Instr.findKey kt (a.eval y) []).run P w=.ok none w:=MapKept.run_findKey hkt rfl
   cases ok<;>simp[execOp,ho,hxr,Instr.lookup,run_underlying htt,MapKept.run_checkKey hkt hik,g1,z1]
  simp at h
 simp at h
end
end Go.AM
namespace Go.AM
open Go
variable [cU]
section
variable {P:Program} {K:Col} {μ:Nat->Nat} {w w':World} {s:St} {a:Act}
theorem AnZ:∀{xs:List D} {bs:List UInt8} {vs:List Value},yA xs=some bs->kI K w 1 xs vs ->
  ∃ns:List Int,cellsOf vs=ns.map (Value.int .u8)/\bs=ns.map λn=>UInt8.ofNat n.toNat
 | [],bs,vs,h,hr=>by
  simp only[yA,sJ] at h; subst h
  cases hr; exact⟨[],rfl,rfl⟩
 |x::xs,bs,vs,h,hr=>by
  cases hr with
  |cons h1 h2 h3=>
   cases x with
   |int k n=>
    cases k<;>simp only[yA] at h<;>first
     |(simp at h; done)
     |(simp only[Option.map_eq_some_iff] at h; obtain⟨r,h,rfl⟩:=h; obtain⟨ns,h4,h5⟩:=AnZ h h3; simp only[Rep] at h1; subst h1; exact⟨n::ns,by simp[cellsOf,Value.cells,h4],by simp[h5]⟩)
   |_=>simp[yA] at h
theorem AjS:∀(ns:List Int) (r:ByteArray),ns.foldl (λr n=>r.push (UInt8.ofNat n.toNat)) r=⟨r.data++(ns.map λn=>UInt8.ofNat n.toNat).toArray⟩
 | [],r=>by apply ByteArray.ext; simp
 |n::ns,r=>by
  simp only[List.foldl_cons,AjS ns]
  apply ByteArray.ext
  simp[ByteArray.push]
theorem AdT:∀(l:List UInt8),kI K w 1 (l.map AcB) (l.map λb=>Value.int .u8 b.toNat)/\cellsOf (l.map λb=>Value.int .u8 b.toNat)=l.map λb=>Value.int .u8 b.toNat
 | []=>⟨.nil,rfl⟩
 |b::l=>by
  obtain⟨h1,h2⟩:=AdT l
  exact⟨.cons (by simp[Rep,AcB]) rfl h1,by simp[cellsOf,Value.cells,h2]⟩
theorem zN (w:World) (n:Nat) (e:TypeId) (o:Nat):n<=grownCap w n o e:=by
 simp only[grownCap,Question.cut]; omega
theorem AuA (hs:Sim K μ s a w) {o:Oper} {src dst:TypeId} {x:Operand} (ho:o.op=.convert src dst x) {V:V} {nb:Option (List C)} {id:Nat}
  (h:evR P id o s.tmps s.heap=some (V,nb)):nb=none/\fB P K μ s a w o V:=by
 simp only[evR,ho] at h
 split at h
 ·rename_i vx hx
  split at h
  ·rename_i c hc
   simp only[sJ,pJ] at h
   obtain⟨rfl,rfl⟩:=h
   have hxr:=fN hs hx
   refine⟨rfl,?_⟩
   unfold AwN at hc
   split at hc
   ·rename_i us k k' n hsrc hdst
    simp only[sJ] at hc; subst hc
    simp only[bY,RepC,Rep] at hxr
    exact fB.datum hs (v:=.int k (k.wrap n)) (by simp[execOp,ho,hxr,convert,run_underlying hsrc,run_underlying hdst,Conv.intToInt]) (by simp[Rep])
   ·rename_i us l hsrc hdst
    simp only[sJ] at hc; subst hc
    simp only[bY,RepC,Rep] at hxr
    exact fB.datum hs (v:=.string ⟨l.toArray⟩) (by simp[execOp,ho,hxr,convert,run_underlying hsrc,run_underlying hdst]) (by simp[Rep])
   ·rename_i us k n hsrc hdst
    simp only[sJ] at hc; subst hc
    simp only[bY,RepC,Rep] at hxr
    exact fB.datum hs (v:=.string (Utf8.encode n)) (by simp[execOp,ho,hxr,convert,run_underlying hsrc,run_underlying hdst,Conv.intToString]) (by simp[Rep])
   ·rename_i e l hsrc hdst
    split at hc
    ·rename_i he
     split at hc
     ·rename_i hcond
      simp only[sJ] at hc; subst hc
      simp only[bY,RepC,Rep] at hxr
      have hrun:(execOp a.eval o).run P w=.ok (.value (.slice (some ⟨w.heap.size,0,none⟩) (⟨l.toArray⟩:ByteArray).size (grownCap w (⟨l.toArray⟩:ByteArray).size 0 e)))
        (w.drew.alloc (.cells (bytesRow ⟨l.toArray⟩ (grownCap w (⟨l.toArray⟩:ByteArray).size 0 e)) e
         ((bytesRow ⟨l.toArray⟩ (grownCap w (⟨l.toArray⟩:ByteArray).size 0 e)).size,(bytesRow ⟨l.toArray⟩ (grownCap w (⟨l.toArray⟩:ByteArray).size 0 e)).size+1))):=by
       simp only[execOp,ho,Sem.run_bind,hxr,run_bytes_of_string w src dst e ⟨l.toArray⟩ hsrc hdst he,Result.andThen_ok,Sem.run_pure]
      rw[Ac8] at hrun
      have hrow:bytesRow ⟨l.toArray⟩ (grownCap w l.length 0 e)=(cellsOf (l.map λb=>Value.int .u8 b.toNat)++List.replicate (grownCap w l.length 0 e-l.length) (Value.int .u8 0):List Value).toArray:=by
       rw[(AdT (K:=K) (w:=w) l).2]
       apply Array.ext'
       simp[bytesRow,Ac8]
      rw[hrow] at hrun
      obtain⟨fz,hfz,w',hrun,hom⟩:∃fz:Nat×Nat,grownCap w l.length 0 e<=fz.1/\∃w',(execOp a.eval o).run P w=.ok (.value (.slice (some (ad w.heap.size 0)) l.length (grownCap w l.length 0 e))) w' /\
        mT w w' (.cells (cellsOf (l.map λb=>Value.int .u8 b.toNat)++List.replicate (grownCap w l.length 0 e-l.length) (Value.int .u8 0):List Value).toArray e fz):=by
       refine⟨_,?_,_,hrun,AaU _ _⟩
       rw[(AdT (K:=K) (w:=w) l).2]
       simp
       omega
      obtain⟨hes,hcl⟩:=AdT (K:=K) (w:=w) l
      have hle:=zN w l.length e 0
      have hrep:∀f:Nat->Tag,(∀i,i<l.length->f i=.ro)->Rep (gS K w.heap.size f) w' (.list 1 (l.map AcB)) (.slice (some (ad w.heap.size 0)) l.length (grownCap w l.length 0 e)):=by
       intro f hf
       have:=AiI (K:=K) (w:=w) (cap:=grownCap w l.length 0 e) f (by rw[hcl]; simpa using hf) hom hes (by simpa using hle)
       simpa using this
      cases hd:o.dst with
      |none=>
       refine fB.new hs hrun hom (λ_=>.ro) ⟨?_,by simp[Go.AM.V.ids,C.ids],?_,sM⟩
       ·simp only[bY,RepC]
        exact hrep _ λ_ _=>rfl
       intro sz xs _ t ht; rw[hd] at ht; simp at ht
      |some dt=>
       refine fB.new hs hrun hom (λi=>if i<l.length then .ro else .sp (.tmp dt)) ⟨?_,by simp[Go.AM.V.ids,C.ids],?_,sM⟩
       ·simp only[bY,RepC]
        exact hrep _ λi hi=>by simp[hi]
       intro sz xs e' t' ht'
       simp only[V.c.injEq,C.own.injEq] at e'
       obtain⟨rfl,_⟩:=e'
       rw[hd] at ht'; simp only[sJ] at ht'; subst ht'
       refine .inr ⟨w.heap.size,0,l.length,grownCap w l.length 0 e,rfl,hle,λj h1 h2=>⟨?_,?_,?_⟩⟩
       ·simp only[gS,if_true,Nat.zero_add]; rw[if_neg oM]
       ·rw[hom.cell,Nat.zero_add]
        simp only[List.getElem?_toArray]
        rw[getElem?_pos _ _ (by rw[hcl]; simp; omega)]
        rfl
       rw[hom.frozen]
       simp
       omega
     simp at hc
    simp at hc
   ·rename_i e hsrc hdst _ _
    split at hc
    ·rename_i xs he hd
     simp only[Option.map_eq_some_iff] at hc
     obtain⟨bs,hbs,rfl⟩:=hc
     have hr:=Go.AM.V.toD_rep hd hxr
     simp only[Rep] at hr
     rcases hr with ⟨rfl,hr|⟨ea,ecap,hr⟩⟩|⟨blk,off,cap,hv,_,hre⟩
     rotate_left
     ·simp only[yA,sJ] at hbs; subst hbs
      have hload:(loadCells ea 0).run P w=.ok (([]:List Int).map (Value.int .u8)).toArray w:=
       run_loadCells_list (P:=P) w ea [] (λj v hv=>by simp at hv)
      refine fB.datum hs (v:=.string ⟨([]:List UInt8).toArray⟩) ?_ (by simp[Rep])
      simp only[execOp,ho,Sem.run_bind,hr,run_convert_bytes_string w src dst e _ _ _ hsrc he hdst,run_bytesToString w _ _ _ [] hload,Result.andThen_ok,Sem.run_pure,AjS]
      rfl
     rotate_left
     ·simp only[yA,sJ] at hbs; subst hbs
      exact fB.datum hs (v:=.string ⟨([]:List UInt8).toArray⟩) (by
       simp only[execOp,ho,Sem.run_bind,hr,run_convert_bytes_string w src dst e none 0 0 hsrc he hdst,Conv.bytesToString,Sem.run_pure,Result.andThen_ok]
       rfl) (by simp[Rep])
     obtain⟨vs,hes,hca⟩:=hre.es
     obtain⟨ns,hns,hbn⟩:=AnZ hbs hes
     have hl:ns.length=xs.length:=by
      have:=hes.cells; rw[hns] at this; simpa using this
     have hload:(loadCells (ad blk off) xs.length).run P w=.ok (ns.map (Value.int .u8)).toArray w:=by
      have:=run_loadCells_list (P:=P) w (ad blk off) (ns.map (Value.int .u8)) λj v hv=>by
       rw[Addr.add_lit]; exact (hca j v (by rw[hns]; exact hv)).2
      rw[List.length_map,hl] at this
      exact this
     refine fB.datum hs (v:=.string ⟨bs.toArray⟩) ?_ (by simp[Rep])
     simp only[execOp,ho,Sem.run_bind,hv,run_convert_bytes_string w src dst e _ _ _ hsrc he hdst,run_bytesToString w _ _ _ ns hload,Result.andThen_ok,Sem.run_pure,AjS,hbn]
     congr 2
     apply congrArg
     apply ByteArray.ext
     simp[ByteArray.empty,ByteArray.emptyWithCapacity]<;>rfl
    simp at hc
   simp at hc
  simp at h
 simp at h
theorem Ap9 {o:Oper} {t:TypeId} (ho:o.op=.alloc t) {V:V} {nb:Option (List C)} {id:Nat}
  (h:evR P id o s.tmps s.heap=some (V,nb)):∃cs,nb=some cs/\V=.c (.ptr id 0)/\AhV P K s a w o (.ptr id 0) cs:=by
 simp only[evR,ho] at h
 split at h
 ·rename_i z hz
  split at h
  ·rename_i cs hcs
   simp only[sJ,pJ] at h
   obtain⟨rfl,rfl⟩:=h
   refine⟨_,rfl,rfl,?_⟩
   obtain⟨v,hv,_,_,inf,hinf,hinz⟩:=uE (P:=P) (K:=K) (μ:=λ_=>0) (w:=w) hz
   refine⟨v.cells,t,by simp[execOp,ho,Instr.alloc,hv,newVar,newRow,AjJ],(λ_ _ _ e=>by simp at e),λμ hs=>?_⟩
   obtain⟨v',hv',hr,hi,_⟩:=uE (P:=P) (K:=K) (μ:=μ) (w:=w) hz
   rw[hv] at hv'
   simp only[Result.ok.injEq,and_true] at hv'
   subst hv'
   obtain⟨h1,h2⟩:=V.cells_rep hcs hr
   have h1':=Ad7 (P:=P) (k:=4) (t:=t) (off:=0) h1
   refine⟨h1'.placed.lay,h2,?_,?_⟩
   ·intro c hc b hb
    simp only[List.mem_map] at hc
    obtain⟨c',hc',rfl⟩:=hc
    rw[C.placed_ids] at hb
    exact AhM (Q:=λb=>b<s.nid) (λc hc b hb=>by have:=V.cells_ids hcs c hc b hb; rw[hi] at this; simp at this) c' hc' b hb
   intro i sz xs u hc hu
   simp only[List.getElem?_map,Option.map_eq_some_iff] at hc
   obtain⟨c',hc',he⟩:=hc
   obtain⟨u',hu',hr'⟩:=h1'.get hc'
   rw[hu,sJ] at hu'
   subst hu'; exact C.placed_capped he hr'
  simp at h
 simp at h
theorem AwS {o:Oper} {t:TypeId} {x:Operand} (ho:o.op=.box t x) {V:V} {nb:Option (List C)} {id:Nat}
  (h:evR P id o s.tmps s.heap=some (V,nb)):∃cs,nb=some cs/\V=.c (.ptr id 0)/\AhV P K s a w o (.ptr id 0) cs:=by
 simp only[evR,ho] at h
 split at h
 ·rename_i z hz
  split at h
  ·rename_i cs hcs
   simp only[sJ,pJ] at h
   obtain⟨rfl,rfl⟩:=h
   refine⟨_,rfl,rfl,(a.eval x).cells,t,by simp[execOp,ho,Instr.box,newVar,newRow,AjJ],(λ_ _ _ e=>by simp at e),λμ hs=>?_⟩
   obtain⟨h1,h2⟩:=V.cells_rep hcs (fN hs hz)
   refine⟨h1.placed.lay,h2,?_,?_⟩
   ·intro c hc b hb
    simp only[List.mem_map] at hc
    obtain⟨c',hc',rfl⟩:=hc
    rw[C.placed_ids] at hb
    exact xE hs hz b (V.cells_ids hcs c' hc' b hb)
   intro i sz xs u hc hu
   simp only[List.getElem?_map,Option.map_eq_some_iff] at hc
   obtain⟨c',hc',he⟩:=hc
   obtain⟨u',hu',hr'⟩:=h1.get hc'
   rw[hu,sJ] at hu'
   subst hu'; exact C.placed_capped he hr'
  simp at h
 simp at h
theorem BcN (hs:Sim K μ s a w) {o:Oper} {V:V} {nb:Option (List C)} (h:evR P s.nid o s.tmps s.heap=some (V,nb)) :
  (nb=none/\fB P K μ s a w o V)\/∃cs c,nb=some cs/\V=.c c/\An0 s.nid c/\AhV P K s a w o c cs:=by
 cases ho:o.op with
 |move x=>exact .inl (BcH hs ho h)
 |pick c x y=>exact .inl (BcI hs ho h)
 |alloc t=>
  obtain⟨cs,e1,e2,e3⟩:=Ap9 ho h
  exact .inr ⟨cs,_,e1,e2,.inl rfl,e3⟩
 |box t x=>
  obtain⟨cs,e1,e2,e3⟩:=AwS ho h
  exact .inr ⟨cs,_,e1,e2,.inl rfl,e3⟩
 |build t parts=>exact .inl (AzJ hs ho h)
 |buildSlice t len parts=>
  cases hfn:AmD parts.toList with
  |none=>exact .inl (Ao7 hs ho h hfn)
  |some gs=>exact .inr (AwT ho hfn h ⟨_,hs⟩)
 |load t x=>exact .inl (BcG hs ho h)
 |nilCheck x=>exact .inl (ArG hs ho h)
 |binOp op t x y u=>exact .inl (AzI hs ho h)
 |unOp op t x=>exact .inl (BcJ hs ho h)
 |convert src dst x=>exact .inl (AuA hs ho h)
 |makeInterface t x=>exact .inl (AjL hs ho h)
 |makeFunc fn first captured=>exact .inl (ArF hs ho h)
 |makeSlice t l c=>
  cases hsame:rI l c with
  |false=>exact .inl (ApC hs ho h hsame)
  |true=>exact .inr (AkP ho h hsame ⟨_,hs⟩)
 |slice t x lo hi mx=>exact .inl (AzM hs ho h)
 |fieldAddr t x i=>exact .inl (ApA hs ho h)
 |field t x i=>exact .inl (AzK hs ho h)
 |indexAddr t x i=>exact .inl (ApB hs ho h)
 |index t x i=>exact .inl (AzL hs ho h)
 |typeAssert x u t ok=>exact .inl (Ao8 hs ho h)
 |lookup t x y ok=>exact .inl (AwU hs ho h)
 |extract x i=>exact .inl (AuB hs ho h)
 |call c=>
  cases hc:c.callee with
  |builtin b=>
   cases b<;>first
    |exact .inl (BeK hs ho hc h)
    |exact .inl (BeM hs ho hc h)
    |exact .inl (BeL hs ho hc h)
    |(simp[evR,ho,hc] at h; done)
  |value f=>simp[evR,ho,hc] at h
  |invoke r m=>simp[evR,ho,hc] at h
 |_=>simp[evR,ho] at h
end
end Go.AM
namespace Go.AM
open Go
variable [cU]
section
variable {P:Program} {K K':Col} {μ:Nat->Nat} {w w':World} {s:St} {a:Act}
theorem setCells_size (b:Nat):∀(vs:List Value) (o:Nat) (w:World),(w.setCells b o vs).heap.size=w.heap.size
 | [],_,_=>rfl
 |v::r,o,w=>by rw[World.setCells,setCells_size b r]; simp
theorem AjC (b:Nat):∀(vs:List Value) (o:Nat) (w:World),(w.setCells b o vs).os=w.os/\(w.setCells b o vs).tape=w.tape/\(w.setCells b o vs).output=w.output
 | [],_,_=>⟨rfl,rfl,rfl⟩
 |v::r,o,w=>by
  obtain⟨h1,h2,h3⟩:=AjC b r (o+1) (w.setCell ⟨b,o,none⟩ v)
  exact⟨h1,h2,h3⟩
theorem AhP (b:Nat):∀(vs:List Value) (o:Nat) (w:World) (k:Nat),k≠b->(w.setCells b o vs).heap[k]?=w.heap[k]?
 | [],_,_,_,_=>rfl
 |v::r,o,w,k,hk=>by
  rw[World.setCells,AhP b r _ _ k hk]
  simp only[World.setCell,Array.getElem?_modify]
  rw[if_neg oM]
theorem AqB {a b:Addr} {v:Value} (h:(w.cell? b).isSome=true):((w.setCell a v).cell? b).isSome=true:=by
 by_cases e:a=b
 ·subst e
  obtain⟨u,hu⟩:=Option.isSome_iff_exists.1 h
  rw[World.cell?_setCell_same (h:=hu)]; rfl
 rw[World.cell?_setCell_other (h:=e)]; exact h
theorem isSome_setCells {g:Nat} {x:Addr}:∀(vs:List Value) (o:Nat) (w:World),(w.cell? x).isSome=true->((w.setCells g o vs).cell? x).isSome=true
 | [],_,_,h=>h
 |v::r,o,w,h=>by
  rw[World.setCells]
  exact isSome_setCells r (o+1) _ (AqB h)
theorem AdR {W:Tag->Prop} {b o:Nat} {vs:List Value} (hW:∀j,j<vs.length->W (K b (o+j))) (hK:∀blk off,¬W (K blk off)->K' blk off=K blk off) :
  Step W K w K' (w.setCells b o vs):=by
 obtain⟨h1,h2,h3⟩:=AjC b vs o w
 refine⟨h1,h2,h3,by rw[setCells_size]; exact Nat.le_refl _,λk _ hn=>?_,λk off _ hn=>⟨?_,by rw[World.frozen?_setCells],hK _ _ hn⟩,λ_ _ hx=>⟨isSome_setCells vs o w hx.1,by rw[World.frozen?_setCells]; exact hx.2⟩⟩
 ·by_cases hk:k=b
  ·subst hk
   cases vs with
   |nil=>rfl
   |cons v r=>exact absurd (hW 0 sM) (hn _)
  ·exact AhP b vs o w k hk
 refine World.cell?_setCells_out b vs o w _ λe _=>?_
 simp only at e
 subst e
 simp only
 rcases Nat.lt_or_ge off o with h|h
 ·exact .inl h
 rcases Nat.lt_or_ge off (o+vs.length) with h' | h'
 ·exact absurd (by have:=hW (off-o) oM; rwa [show o+(off-o)=off from by omega] at this) hn
 exact .inr h'
theorem cM {α:Type} (k:Nat) (v:α):∀l:List (Nat×α),look k (upd k v l)=some v
 | []=>by simp[upd,look]
 |(j,u)::r=>by
  by_cases h:j=k
  ·simp[upd,look,h]
  simp[upd,look,h,cM k v r]
theorem cW {α:Type} {k j:Nat} (h:j≠k) (v:α):∀l:List (Nat×α),look j (upd k v l)=look j l
 | []=>by simp[upd,look,Ne.symm h]
 |(i,u)::r=>by
  by_cases hi:i=k
  ·subst hi; simp[upd,look,Ne.symm h]
  simp only[upd,hi,if_false,look]
  by_cases hij:i=j
  ·simp[hij]
  simp[hij,cW h v r]
theorem gM (u k:Nat):∀tm:List (Nat×V),look k (plainAt u tm)=(look k tm).map λv=>if k=u then (match v with|.c (.own sz xs)=>.d (.list sz xs)|v=>v) else v
 | []=>rfl
 |(j,v)::r=>by
  by_cases hj:j=u
  ·by_cases hk:j=k
   ·subst hk; subst hj
    cases v with
    |c x=>cases x<;>simp[plainAt,look]
    |_=>simp[plainAt,look]
   ·subst hj
    have hkj:¬k=j:=λe=>hk e.symm
    cases v with
    |c x=>cases x<;>simp[plainAt,look,hk,hkj]
    |_=>simp[plainAt,look,hk,hkj]
  simp only[plainAt,hj,if_false,look]
  by_cases hk:j=k
  ·subst hk; simp[hj]
  simp[hk,gM u k r]
theorem Sim.plainAt (h:Sim K μ s a w) (u:Nat):Sim K μ { s with tmps:=plainAt u s.tmps } a w:=by
 have back:∀{k:Nat} {v:V},look k (AM.plainAt u s.tmps)=some v->∃v',look k s.tmps=some v'/\(v=v'\/∃sz xs,v'=.c (.own sz xs)/\v=.d (.list sz xs)):=by
  intro k v hk
  rw[gM] at hk
  simp only[Option.map_eq_some_iff] at hk
  obtain⟨v',h1,rfl⟩:=hk
  refine⟨v',h1,?_⟩
  by_cases hku:k=u
  ·simp only[hku,if_true]
   cases v' with
   |c x=>cases x<;>simp
   |_=>simp
  simp[hku]
 refine⟨?_,?_,?_,?_,h.heap,h.bound,h.defs,h.dids,h.glob⟩
 ·intro t V ht
  obtain⟨v',h1,h2⟩:=back ht
  refine⟨(h.tm t v' h1).1,?_⟩
  rcases h2 with rfl|⟨sz,xs,rfl,rfl⟩
  ·exact (h.tm t _ h1).2
  exact (h.tm t _ h1).2
 ·intro t V ht b hb
  obtain⟨v',h1,h2⟩:=back ht
  rcases h2 with rfl|⟨sz,xs,rfl,rfl⟩
  ·exact h.tids t _ h1 b hb
  simp[Go.AM.V.ids,C.ids] at hb
 ·intro t sz xs ht
  obtain⟨v',h1,h2⟩:=back ht
  rcases h2 with rfl|⟨sz',xs',rfl,e⟩
  ·exact h.own t sz xs h1
  simp at e
 intro t l sz xs ht
 obtain⟨v',h1,h2⟩:=back ht
 rcases h2 with rfl|⟨sz',xs',rfl,e⟩
 ·have hv:=h.view t l sz xs h1
  cases l with
  |cell b off=>exact hv
  |tmp k=>
   intro z ys hk
   obtain⟨v'',h3,h4⟩:=back hk
   rcases h4 with rfl|⟨_,_,rfl,e⟩
   ·exact hv z ys h3
   simp at e
 simp at e
theorem AoD (u:Nat) (tm:List (Nat×V)) (sz:Nat) (xs:List D):look u (AM.plainAt u tm)≠some (.c (.own sz xs)):=by
 rw[gM]
 intro h
 simp only[Option.map_eq_some_iff,if_true] at h
 obtain⟨v,_,h⟩:=h
 cases v with
 |c x=>cases x<;>simp at h
 |_=>simp at h
theorem Sim.unview (h:Sim K μ s a w) (l:Loc):Sim K μ { s with tmps:=unview l s.tmps } a w /\
  ∀t sz xs,look t (AM.unview l s.tmps)≠some (.view l sz xs):=by
 have back:∀{k:Nat} {v:V},look k (AM.unview l s.tmps)=some v->∃v',look k s.tmps=some v'/\(v=v'\/∃l' sz xs,v'=.view l' sz xs/\v=.d (.list sz xs))/\∀sz xs,v≠.view l sz xs:=by
  intro k v hk
  rw[wK] at hk
  simp only[Option.map_eq_some_iff] at hk
  obtain⟨v',h1,rfl⟩:=hk
  refine⟨v',h1,?_,?_⟩
  ·cases v' with
   |view l' sz xs=>by_cases hl:l'=l<;>simp[hl]
   |_=>simp
  cases v' with
  |view l' sz xs=>by_cases hl:l'=l<;>simp[hl]
  |_=>simp
 refine⟨⟨?_,?_,?_,?_,h.heap,h.bound,h.defs,h.dids,h.glob⟩,?_⟩
 ·intro t V ht
  obtain⟨v',h1,h2,_⟩:=back ht
  refine⟨(h.tm t v' h1).1,?_⟩
  rcases h2 with rfl|⟨l',sz,xs,rfl,rfl⟩
  ·exact (h.tm t _ h1).2
  exact (h.tm t _ h1).2
 ·intro t V ht b hb
  obtain⟨v',h1,h2,_⟩:=back ht
  rcases h2 with rfl|⟨l',sz,xs,rfl,rfl⟩
  ·exact h.tids t _ h1 b hb
  simp[Go.AM.V.ids,C.ids] at hb
 ·intro t sz xs ht
  obtain⟨v',h1,h2,_⟩:=back ht
  rcases h2 with rfl|⟨l',sz',xs',rfl,e⟩
  ·exact h.own t sz xs h1
  simp at e
 ·intro t l' sz xs ht
  obtain⟨v',h1,h2,_⟩:=back ht
  rcases h2 with rfl|⟨l'',sz',xs',rfl,e⟩
  ·have hv:=h.view t l' sz xs h1
   cases l' with
   |cell b off=>exact hv
   |tmp k=>
    intro z ys hk
    obtain⟨v'',h3,h4,_⟩:=back hk
    rcases h4 with rfl|⟨_,_,_,rfl,e⟩
    ·exact hv z ys h3
    simp at e
  simp at e
 intro t sz xs ht
 obtain⟨_,_,_,h3⟩:=back ht
 exact h3 sz xs rfl
theorem sU {α:Type}:∀(r l:List α) (off i:Nat),off+r.length<=l.length->(uG l off r)[i]?=if off<=i/\i<off+r.length then r[i-off]? else l[i]?
 | [],l,off,i,h=>by
  rw[if_neg (by simp only[List.length_nil]; omega)]; rfl
 |c::r,l,off,i,h=>by
  simp only[uG,List.length_cons] at h ⊢
  rw[sU r (l.set off c) (off+1) i (by simp; omega)]
  by_cases h1:i=off
  ·subst h1
   rw[if_neg oM,if_pos oM]
   simp[show i<l.length by omega]
  by_cases h2:off+1<=i/\i<off+1+r.length
  ·rw[if_pos h2,if_pos oM,show i-off=(i-(off+1))+1 from by omega]
   simp
  rw[if_neg h2,if_neg oM]
  rw[List.getElem?_set_ne oM]
theorem Sim.storeG (h:Sim K μ s a w) {b off:Nat} {cells0 new ncs:List C} {nvs:List Value} (hb:look b s.heap=some cells0) (hnr:¬Ac3 cells0) (hmo:mapOf cells0=none) (hnew:fK new=uG (fK cells0) off ncs) (hnm:mapOf new=none) (hnq:BdV new) (hwn:∀j,j<ncs.length->(fK cells0)[off+j]?≠some C.hid) (hkp:∀o:Nat,cells0[o]?=some C.hid->new[o]?=some C.hid) (hle:off+ncs.length<=(fK cells0).length)
  (hr:aZ K μ w ncs nvs) (h1:∀x∈nvs,eZ x=true) (hids:∀c∈ncs,∀i∈c.ids,i<s.nid)
  (hsp:∀i sz xs,ncs[i]?=some (.own sz xs)->∀v,nvs[i]?=some v->rL K w (.cell b (off+i)) sz v)
  (hvw:∀t i sz xs z ys,look t s.tmps=some (.view (.cell b (off+i)) sz xs)->ncs[i]?≠some (.own z ys)) :
  Sim K μ { s with heap:=upd b new s.heap } a (w.setCells (μ b) off nvs)/\Step (λt=>t=.blk b) K w K (w.setCells (μ b) off nvs) /\
   (∀j,j<nvs.length->(w.cell? (ad (μ b) (off+j))).isSome=true/\w.frozen? (ad (μ b) (off+j))=false):=by
 have hlen:=hr.length
 obtain⟨k1,k2,k34⟩:=h.heap b cells0 hb
 obtain⟨k3,k4,_⟩:=k34.old hnr
 have k5:=(h.heap b cells0 hb).2.2.cells hmo
 have hwr:∀j,j<ncs.length->K (μ b) (off+j)=.blk b:=λj hj=>k3 _ (ApY (hwn j hj))
 generalize hcl:fK cells0=cells at hnew hle k5 hwn
 have hex:∀j,j<nvs.length->(w.cell? (ad (μ b) (off+j))).isSome=true/\w.frozen? (ad (μ b) (off+j))=false:=by
  intro j hj
  obtain⟨v,hv,_,hf,_⟩:=k5 (off+j) cells[off+j] (by simp[show off+j<cells.length by omega]) (λe=>hwn j oM (by rw[List.getElem?_eq_getElem oM,e]))
  exact⟨by rw[hv]; rfl,hf⟩
 have hstep:Step (λt=>t=.blk b) K w K (w.setCells (μ b) off nvs):=AdR (λj hj=>hwr j (by rw[hlen]; exact hj)) λ_ _ _=>rfl
 have hro:¬(Tag.ro=Tag.blk b):=sM
 have hspw:∀l,¬(Tag.sp l=Tag.blk b):=sM
 refine⟨?_,hstep,hex⟩
 have hother:∀{b':Nat} {cells':List C},b'≠b->look b' s.heap=some cells'->lF K μ (w.setCells (μ b) off nvs) b' cells':=by
  intro b' cells' hne hb'
  exact (h.heap b' cells' hb').2.2.step hstep hro (by simpa using hne) λ_ _ _ _=>hspw _
 refine⟨?_,h.tids,?_,?_,?_,?_,h.defs,h.dids,h.glob.step hstep hro⟩
 ·intro t V ht
  exact⟨(h.tm t V ht).1,(h.tm t V ht).2.step hstep hro⟩
 ·intro t sz xs ht
  exact (h.own t sz xs ht).step hstep (hspw _)
 ·intro t l sz xs ht
  have hv:=h.view t l sz xs ht
  cases l with
  |tmp u=>exact hv
  |cell b' off'=>
   intro cells' z ys hb' hc'
   by_cases hbb:b'=b
   ·subst hbb
    rw[show (look b' ({ s with heap:=upd b' new s.heap }:St).heap)=look b' (upd b' new s.heap) from rfl,cM,sJ] at hb'
    subst hb'
    rw[←AeU hc',hnew,sU _ _ _ _ hle] at hc'
    split at hc'
    ·rename_i hin
     have:=hvw t (off'-off) sz xs z ys (by rw[show off+(off'-off)=off' from by omega]; exact ht)
     exact absurd hc' this
    rename_i hout
    rw[World.cell?_setCells_out]
    ·rw[←hcl] at hc'
     rw[Ai6 hc'] at hc'
     exact hv cells0 z ys hb hc'
    intro _ _; simp only; rw[←hlen]; omega
   rw[show (look b' ({ s with heap:=upd b new s.heap }:St).heap)=look b' (upd b new s.heap) from rfl,cW hbb] at hb'
   obtain⟨q1,q2,_⟩:=(h.heap b' cells' hb').2.2.old (yS hc' sM)
   rw[(hstep.cell (μ b') off' q2 (by rw[q1 off' (by rw[hc']; simp)]; simpa using hbb)).1]
   exact hv cells' z ys hb' hc'
 ·intro b' cells' hb'
  by_cases hbb:b'=b
  ·subst hbb
   rw[show (look b' ({ s with heap:=upd b' new s.heap }:St).heap)=look b' (upd b' new s.heap) from rfl,cM,sJ] at hb'
   subst hb'
   have hcr:fV K μ (w.setCells (μ b') off nvs) b' (fK new):=by
    intro i c hi hnhc
    rw[hnew,sU _ _ _ _ hle] at hi
    split at hi
    ·rename_i hin
     obtain⟨v,hv,hrv⟩:=hr.get hi
     have hj:i-off<nvs.length:=(List.getElem?_eq_some_iff.1 hv).1
     have hcell:=World.cell?_setCells_in (μ b') nvs off w (λj hj=>(hex j hj).1) (i-off) hj
     rw[show off+(i-off)=i from by omega] at hcell
     have hv':nvs[i-off]=v:=(List.getElem?_eq_some_iff.1 hv).2
     rw[hv'] at hcell
     refine⟨v,hcell,h1 v (List.mem_of_getElem? hv),?_,hrv.step hstep hro,?_⟩
     ·rw[World.frozen?_setCells]
      have:=(hex (i-off) hj).2
      rwa [show off+(i-off)=i from by omega] at this
     intro sz xs e
     subst e
     have:=hsp (i-off) sz xs hi v hv
     rw[show off+(i-off)=i from by omega] at this
     exact this.step hstep (hspw _)
    rename_i hout
    obtain⟨v,hv1,hv2,hv3,hv4,hv5⟩:=k5 i c hi hnhc
    refine⟨v,?_,hv2,by rw[World.frozen?_setCells]; exact hv3,hv4.step hstep hro,λsz xs e=>(hv5 sz xs e).step hstep (hspw _)⟩
    rw[World.cell?_setCells_out]
    ·exact hv1
    intro _ _; simp only; rw[←hlen]; omega
   refine⟨k1,?_,.inr ⟨λo ho=>k3 o (λe=>ho (hkp o e)),by rw[setCells_size]; exact k4,.inl ⟨hnm,hcr,hnq⟩⟩⟩
   intro c hc i hi
   by_cases hq:∃sz ds,new=[.seq sz ds]
   ·obtain⟨sz,ds,rfl⟩:=hq
    simp only[List.mem_singleton] at hc; subst hc
    simp[C.ids] at hi
   rw[←fD (λsz ds e=>hq ⟨sz,ds,e⟩),hnew] at hc
   rcases Ae7 _ _ _ hc with hc|hc
   ·rw[←hcl] at hc
    rcases AaY hc with h|⟨d,rfl⟩
    ·exact k2 c h i hi
    simp[C.ids] at hi
   exact hids c hc i hi
  rw[show (look b' ({ s with heap:=upd b new s.heap }:St).heap)=look b' (upd b new s.heap) from rfl,cW hbb] at hb'
  exact⟨(h.heap b' cells' hb').1,(h.heap b' cells' hb').2.1,hother hbb hb'⟩
 intro blk o' hl
 rw[setCells_size] at hl
 exact h.bound blk o' hl
theorem Sim.store (h:Sim K μ s a w) {b off:Nat} {cells ncs:List C} {nvs:List Value} (hb:look b s.heap=some cells) (hmo:mapOf cells=none) (hfl:fK cells=cells) (hle:off+ncs.length<=cells.length) (hnh:AbA ncs.length (cells.drop off)=false)
  (hr:aZ K μ w ncs nvs) (h1:∀x∈nvs,eZ x=true) (hids:∀c∈ncs,∀i∈c.ids,i<s.nid)
  (hsp:∀i sz xs,ncs[i]?=some (.own sz xs)->∀v,nvs[i]?=some v->rL K w (.cell b (off+i)) sz v)
  (hvw:∀t i sz xs z ys,look t s.tmps=some (.view (.cell b (off+i)) sz xs)->ncs[i]?≠some (.own z ys)) :
  Sim K μ { s with heap:=upd b (uG cells off ncs) s.heap } a (w.setCells (μ b) off nvs)/\Step (λt=>t=.blk b) K w K (w.setCells (μ b) off nvs) /\
   (∀j,j<nvs.length->(w.cell? (ad (μ b) (off+j))).isSome=true/\w.frozen? (ad (μ b) (off+j))=false):=by
 have k5:=(h.heap b cells hb).2.2.cells hmo
 rw[hfl] at k5
 have hspec:∀c∈uG cells off ncs,(∀sz ds,c≠.seq sz ds)/\(∀kvs,c≠.ment kvs)/\∀l,c≠.mdat l:=by
  intro c hc
  rcases Ae7 _ _ _ hc with hc|hc
  ·obtain⟨i,hi⟩:=List.getElem?_of_mem hc
   by_cases hnhc:c=.hid
   ·subst hnhc; simp
   obtain⟨v,_,_,_,hr,_⟩:=k5 i c hi hnhc
   exact⟨by rintro sz ds rfl; exact hr.elim,by rintro kvs rfl; exact hr.elim,by rintro l rfl; exact hr.elim⟩
  obtain⟨i,hi⟩:=List.getElem?_of_mem hc
  obtain⟨v,_,hr⟩:=hr.get hi
  exact⟨by rintro sz ds rfl; exact hr.elim,by rintro kvs rfl; exact hr.elim,by rintro l rfl; exact hr.elim⟩
 have hns:∀sz ds,uG cells off ncs≠[.seq sz ds]:=λsz ds e=>(hspec (.seq sz ds) (by rw[e]; simp)).1 sz ds rfl
 have hnot:∀j,j<ncs.length->cells[off+j]?≠some .hid:=λj hj=>by
  have:=AeH hnh j hj
  rwa [List.getElem?_drop] at this
 refine h.storeG (cells0:=cells) hb (λhq=>by obtain⟨_,rfl,_⟩:=mP hq; simp[fK,fL] at hfl) hmo (by rw[fD hns,hfl]) ?_ (λsz ds e=>absurd e (hns sz ds)) (λj hj=>by rw[hfl]; exact hnot j hj) (λo ho=>?_) (by rw[hfl]; exact hle) hr h1 hids hsp hvw
 rotate_left
 ·rw[sU _ _ _ _ hle,if_neg]
  ·exact ho
  ·rintro⟨h1,h2⟩
   exact hnot (o-off) oM (by rw[show off+(o-off)=o from by omega]; exact ho)
 cases hm:mapOf (uG cells off ncs) with
 |none=>rfl
 |some kvs=>
  rcases iN hm with this|⟨l,this,_⟩
  ·exact absurd rfl ((hspec (.ment kvs) (by rw[this]; simp)).2.1 kvs)
  exact absurd rfl ((hspec (.mdat l) (by rw[this]; simp)).2.2 l)
omit [cU] in
theorem AbP (d:D) (ds:List D):fL (d::ds)=d.cells.map C.d++fL ds:=rfl
omit [cU] in
theorem Ai7 {sz:Nat}:∀{ds:List D},(∀d∈ds,d.cells.length=sz)->(fL ds).length=ds.length*sz
 | [],_=>by simp[fL]
 |d::ds,h=>by
  rw[AbP,List.length_append,List.length_map,h d sM,Ai7 λd hd=>h d (by simp[hd]),List.length_cons,Nat.succ_mul]; omega
theorem AmC {sz:Nat} (h0:0<sz):∀{ds:List D},(∀d∈ds,d.cells.length=sz)->∀k,(fL ds)[k]?=(ds[k / sz]?).bind λd=>(d.cells[k % sz]?).map C.d
 | [],_,k=>by simp[fL]
 |d::ds,h,k=>by
  have hd:=h d sM
  rw[AbP]
  by_cases hk:k<sz
  ·rw[List.getElem?_append_left (by simp; omega),Nat.div_eq_of_lt hk,Nat.mod_eq_of_lt hk]
   simp
  rw[List.getElem?_append_right (by simp; omega),List.length_map,hd,AmC h0 (λd hd=>h d (by simp[hd])) (k-sz)]
  have e:k=(k-sz)+sz:=oM
  rw[show k / sz=(k-sz) / sz+1 from by rw[e,Nat.add_div_right _ h0,Nat.add_sub_cancel],show k % sz=(k-sz) % sz from by conv=>lhs; rw[e,Nat.add_mod_right]]
  simp
theorem Bb0:∀{cs:List C} {xs:List D},AwP cs=some xs->cs=xs.map C.d
 | [],xs,h=>by simp only[AwP,sJ] at h; subst h; rfl
 |c::cs,xs,h=>by
  cases c<;>simp only[AwP,Option.map_eq_some_iff,reduceCtorEq] at h
  obtain⟨r,hr,rfl⟩:=h
  rw[Bb0 hr]; rfl
theorem At7 {l:List D} (h:∀d,l=[d]->AuV d=true):(mkE l).cells=l:=by
 unfold mkE
 split
 ·rename_i d
  have:=h d rfl
  cases d<;>simp[AuV] at this<;>rfl
 rfl
theorem AvF {sz off:Nat} {ds ds':List D} {cs:List C} (h:AhQ sz off ds cs=some ds') (hok:BaO sz ds) :
  fL ds'=uG (fL ds) off cs/\off+cs.length<=(fL ds).length/\BaO sz ds':=by
 obtain⟨h0,hall⟩:=hok
 unfold AhQ at h
 split at h
 ·rename_i xs d hxs hd
  have hcs:=Bb0 hxs
  subst hcs
  split at h
  ·rename_i hc
   obtain⟨c1,c2,c3⟩:=hc
   simp only[sJ] at h; subst h
   have hi:=(List.getElem?_eq_some_iff.1 hd).1
   have hdl:=hall d (List.mem_of_getElem? hd)
   have hmod:=Nat.mod_lt off h0
   have hdm:off=sz*(off / sz)+off % sz:=(Nat.div_add_mod off sz).symm
   have hE:∃e,(if xs.length=sz then mkE xs else mkE (d.cells.take (off % sz)++xs++d.cells.drop (off % sz+xs.length)))=e/\e.cells=d.cells.take (off % sz)++xs++d.cells.drop (off % sz+xs.length):=by
    refine⟨_,rfl,?_⟩
    split
    ·rename_i hl
     have hz:off % sz=0:=oM
     rw[At7 (by
      rintro x rfl
      simpa using c3),hz,List.take_zero,List.nil_append,Nat.zero_add,hl,←hdl,List.drop_length,List.append_nil]
    rename_i hl
    rw[At7]
    intro x e
    have:=congrArg List.length e
    simp at this
    omega
   obtain⟨e,he,hec⟩:=hE
   rw[he]
   have hel:e.cells.length=sz:=by rw[hec]; simp; omega
   have hall':∀x∈ds.set (off / sz) e,x.cells.length=sz:=by
    intro x hx
    rcases List.mem_or_eq_of_mem_set hx with hx|rfl
    ·exact hall x hx
    exact hel
   have hle:off+(xs.map C.d).length<=(fL ds).length:=by
    rw[Ai7 hall,List.length_map]
    have:(off / sz+1)*sz<=ds.length*sz:=Nat.mul_le_mul_right _ hi
    rw[Nat.succ_mul] at this
    rw[Nat.mul_comm] at hdm
    omega
   refine⟨?_,hle,h0,hall'⟩
   apply List.ext_getElem?
   intro k
   rw[AmC h0 hall',sU _ _ _ _ hle,AmC h0 hall]
   by_cases hk:k / sz=off / sz
   ·have hkm:k=sz*(off / sz)+k % sz:=by rw[←hk]; exact (Nat.div_add_mod k sz).symm
    have hkl:=Nat.mod_lt k h0
    rw[hk,List.getElem?_set_self hi,hd]
    simp only[bJ,hec,List.length_map]
    by_cases hin:off<=k/\k<off+xs.length
    ·rw[if_pos hin,List.getElem?_append_left (by simp; omega),List.getElem?_append_right (by simp; omega)]
     simp only[List.length_take,List.getElem?_map]
     congr 2
     omega
    rw[if_neg hin]
    by_cases hlo:k<off
    ·rw[List.getElem?_append_left (by simp; omega),List.getElem?_append_left (by simp; omega),List.getElem?_take]
     rw[if_pos oM]
    rw[List.getElem?_append_right (by simp; omega)]
    simp only[List.length_append,List.length_take,List.getElem?_drop]
    congr 2
    omega
   rw[List.getElem?_set_ne (Ne.symm hk),if_neg]
   rintro⟨g1,g2⟩
   rw[List.length_map] at g2
   apply hk
   have:off / sz<=k / sz:=Nat.div_le_div_right g1
   have h2:k<(off / sz+1)*sz:=by rw[Nat.succ_mul,Nat.mul_comm]; omega
   have:=(Nat.div_lt_iff_lt_mul h0).2 h2
   omega
  simp at h
 simp at h
theorem Sim.storeCells (h:Sim K μ s a w) {b off:Nat} {ncs:List C} {nvs:List Value} {hp:List (Nat×List C)} (hst:AM.storeCells s.heap b off ncs=some hp)
  (hr:aZ K μ w ncs nvs) (h1:∀x∈nvs,eZ x=true) (hids:∀c∈ncs,∀i∈c.ids,i<s.nid)
  (hsp:∀i sz xs,ncs[i]?=some (.own sz xs)->∀v,nvs[i]?=some v->rL K w (.cell b (off+i)) sz v)
  (hvw:∀t i sz xs z ys,look t s.tmps=some (.view (.cell b (off+i)) sz xs)->ncs[i]?≠some (.own z ys)) :
  Sim K μ { s with heap:=hp } a (w.setCells (μ b) off nvs)/\Step (λt=>t=.blk b) K w K (w.setCells (μ b) off nvs) /\
   (∀j,j<nvs.length->(w.cell? (ad (μ b) (off+j))).isSome=true/\w.frozen? (ad (μ b) (off+j))=false):=by
 unfold AM.storeCells at hst
 split at hst
 ·rename_i sz ds hb
  simp only[Option.map_eq_some_iff] at hst
  obtain⟨ds',hset,rfl⟩:=hst
  have hok:=(h.heap b _ hb).2.2.seq.2
  obtain⟨g1,g2,g3⟩:=AvF hset hok
  have hnh:∀o:Nat,([.seq sz ds]:List C)[o]?≠some .hid:=λo e=>by cases o<;>simp at e
  exact h.storeG (cells0:=[.seq sz ds]) (new:=[.seq sz ds']) hb (λhq=>by
   obtain⟨_,e,_⟩:=mP hq
   simp only[List.cons.injEq,C.seq.injEq,and_true] at e
   obtain⟨_,rfl⟩:=e
   unfold AhQ at hset
   simp at hset) rfl g1 rfl (λz es e=>by
   simp only[List.cons.injEq,C.seq.injEq,and_true] at e
   obtain⟨rfl,rfl⟩:=e
   exact g3) (λj _ e=>by obtain⟨d,hd⟩:=qD (List.mem_of_getElem? e); simp at hd) (λo ho=>absurd ho (hnh o)) g2 hr h1 hids hsp hvw
 rename_i hns
 split at hst
 ·rename_i cells hb0
  obtain⟨cs0,hb,hmo,rfl⟩:=yO hb0
  split at hst
  ·rename_i hle
   split at hst
   rotate_left
   ·simp at hst
   rename_i hnh
   simp only[sJ] at hst; subst hst
   have hfl:fK cs0=cs0:=fD λsz ds e=>hns sz ds (by rw[hb,e])
   rw[ApV,hfl]
   rw[hfl] at hle hnh
   exact h.store hb hmo hfl hle hnh hr h1 hids hsp hvw
  simp at hst
 simp at hst
theorem Sim.storeMap (h:Sim K μ s a w) {b clk clk':Nat} {cells:List C} {kvs kvs':List (D×MV)} {es es':Array MapEntry} {c0:C} (hc0:mapOf [c0]=some kvs') (hb:look b s.heap=some cells) (hm:mapOf cells=some kvs) (hobj:w.heap[μ b]?=some (.map es clk))
  (hr:hU K μ w kvs' es'.toList) (hbn:AdD es'.toList clk') (hids:∀x∈kvs',∀i∈x.2.ids,i<s.nid) :
  Sim K μ { s with heap:=upd b [c0] s.heap } a { w with heap:=w.heap.setIfInBounds (μ b) (.map es' clk') }/\Step (λt=>t=.blk b) K w K { w with heap:=w.heap.setIfInBounds (μ b) (.map es' clk') }:=by
 have hnr:¬Ac3 cells:=by
  intro hq
  obtain⟨_,rfl,_⟩:=mP hq
  simp[mapOf] at hm
 obtain⟨k1,k2,k34⟩:=h.heap b cells hb
 obtain⟨k30,k4,_⟩:=k34.old hnr
 have k3:∀off,K (μ b) off=.blk b:=λoff=>(h.heap b cells hb).2.2.tag hnr (by
  rcases iN hm with rfl|⟨l,rfl,rfl⟩<;>cases off<;>simp)
 have hro:¬(Tag.ro=Tag.blk b):=sM
 have hspw:∀l,¬(Tag.sp l=Tag.blk b):=sM
 have hne:∀r',r'≠μ b->(w.heap.setIfInBounds (μ b) (.map es' clk'))[r']?=w.heap[r']?:=λr' hr'=>by simp[Ne.symm hr']
 have hstep:Step (λt=>t=.blk b) K w K { w with heap:=w.heap.setIfInBounds (μ b) (.map es' clk') }:=by
  refine⟨rfl,rfl,rfl,sM,λr' _ hn=>hne r' ?_,λr' off _ hn=>?_,λr' off hx=>?_⟩
  rotate_right
  ·have hr':r'≠μ b:=by
    rintro rfl
    obtain⟨es0,clk0,hob,_⟩:=(h.heap b cells hb).2.2.map hm
    simp[AoN,World.cell?,hob] at hx
   exact⟨by rw[cell_of_block (hne r' hr') off]; exact hx.1,by rw[vM (hne r' hr') off]; exact hx.2⟩
  ·rintro rfl; exact hn 0 (k3 0)
  have hr':r'≠μ b:=by rintro rfl; exact hn (k3 off)
  exact⟨cell_of_block (hne r' hr') off,vM (hne r' hr') off,rfl⟩
 refine⟨?_,hstep⟩
 refine⟨?_,h.tids,?_,?_,?_,?_,h.defs,h.dids,h.glob.step hstep hro⟩
 ·intro t V ht
  exact⟨(h.tm t V ht).1,(h.tm t V ht).2.step hstep hro⟩
 ·intro t sz xs ht
  exact (h.own t sz xs ht).step hstep (hspw _)
 ·intro t l sz xs ht
  have hv:=h.view t l sz xs ht
  cases l with
  |tmp u=>exact hv
  |cell b' off'=>
   intro cells' z ys hb' hc'
   by_cases hbb:b'=b
   ·subst hbb
    rw[show (look b' ({ s with heap:=upd b' [c0] s.heap }:St).heap)=look b' (upd b' [c0] s.heap) from rfl,cM,sJ] at hb'
    subst hb'
    rcases iN hc0 with e|⟨l,e,_⟩<;>rw[e] at hc'<;>cases off'<;>simp at hc'
   rw[show (look b' ({ s with heap:=upd b [c0] s.heap }:St).heap)=look b' (upd b [c0] s.heap) from rfl,cW hbb] at hb'
   obtain⟨q1,q2,_⟩:=(h.heap b' cells' hb').2.2.old (yS hc' sM)
   rw[(hstep.cell (μ b') off' q2 (by rw[q1 off' (by rw[hc']; simp)]; simpa using hbb)).1]
   exact hv cells' z ys hb' hc'
 ·intro b' cells' hb'
  by_cases hbb:b'=b
  ·subst hbb
   rw[show (look b' ({ s with heap:=upd b' [c0] s.heap }:St).heap)=look b' (upd b' [c0] s.heap) from rfl,cM,sJ] at hb'
   subst hb'
   refine⟨k1,?_,.inr ⟨λo _=>k3 o,by simpa using k4,.inr ⟨kvs',hc0,es',clk',by simp[k4],hr.step hstep hro,hbn⟩⟩⟩
   intro c hc i hi
   simp only[List.mem_singleton] at hc; subst hc
   obtain⟨c1,e1,_,_,hids'⟩:=AiC hc0
   simp only[List.cons.injEq,and_true] at e1; subst e1
   obtain⟨x,hx,hi⟩:=hids' i hi
   exact hids x hx i hi
  rw[show (look b' ({ s with heap:=upd b [c0] s.heap }:St).heap)=look b' (upd b [c0] s.heap) from rfl,cW hbb] at hb'
  refine⟨(h.heap b' cells' hb').1,(h.heap b' cells' hb').2.1,(h.heap b' cells' hb').2.2.step hstep hro (by simpa using hbb) λ_ _ _ _=>hspw _⟩
 intro blk o' hl
 simp only[Array.size_setIfInBounds] at hl
 exact h.bound blk o' hl
def AcE (K:Col) (l l':Loc):Col:=λb off=>if K b off=.sp l then .sp l' else K b off
theorem AtO (K:Col) (w:World) (l l':Loc):Step (λt=>t=.sp l) K w (AcE K l l') w:=
 ⟨rfl,rfl,rfl,Nat.le_refl _,λ_ _ _=>rfl,λb off _ hn=>⟨rfl,rfl,by simp only[AcE]; rw[if_neg hn]⟩,λ_ _ h=>h⟩
theorem rL.move {l l':Loc} {sz:Nat} {v:Value} (h:rL K w l sz v):rL (AcE K l l') w l' sz v:=by
 rcases h with h|⟨blk,off,len,cap,h1,h2,h3⟩
 ·exact .inl h
 refine .inr ⟨blk,off,len,cap,h1,h2,λj hj hj'=>?_⟩
 obtain⟨ha,hb,hc⟩:=h3 j hj hj'
 exact⟨by simp[AcE,ha],hb,hc⟩
theorem Ap4 (hb:∀blk off,w.heap.size<=blk->K blk off=.other) (l l':Loc):∀blk off,w.heap.size<=blk->AcE K l l' blk off=.other:=by
 intro blk off h
 simp only[AcE,hb blk off h]
 simp
end
end Go.AM
namespace Go.AM
open Go
variable [cU]
theorem kO {α β:Type} {f:α->Option β}:∀{l:List α} {r:List β},aY f l=some r->r.length=l.length/\∀(i:Nat) (x:α),l[i]?=some x->∃y,f x=some y/\r[i]?=some y
 | [],r,h=>by simp only[aY,sJ] at h; subst h; simp
 |x::l,r,h=>by
  simp only[aY] at h
  split at h
  ·rename_i y ys hy hys
   simp only[sJ] at h; subst h
   obtain⟨h1,h2⟩:=kO hys
   refine⟨by simp[h1],λi z hz=>?_⟩
   cases i with
   |zero=>simp at hz; subst hz; exact⟨y,hy,sM⟩
   |succ i=>simpa using h2 i z (by simpa using hz)
  simp at h
theorem hC {α β:Type} {f:α->Option β} {l:List α} {r:List β} (h:aY f l=some r) {i:Nat} {y:β} (hy:r[i]?=some y):∃x,l[i]?=some x/\f x=some y:=by
 obtain⟨h1,h2⟩:=kO h
 have hi:i<l.length:=by rw[←h1]; exact (List.getElem?_eq_some_iff.1 hy).1
 obtain⟨z,hz,hz'⟩:=h2 i l[i] (by simp[hi])
 rw[hy,sJ] at hz'
 subst hz'
 exact⟨l[i],by simp[hi],hz⟩
theorem Ac6 {hp:List (Nat×List C)}:∀{n:Nat} {todo seen ids:List Nat},rW hp n todo seen=some ids->seen.Nodup ->
  ids.Nodup/\(∃r,ids=seen++r)/\∀b∈ids,b∈seen\/(look b hp).isSome=true
 |0,_,_,_,h,_=>by simp[rW] at h
 |n+1,[],seen,ids,h,hn=>by
  simp only[rW,sJ] at h; subst h
  exact⟨hn,⟨[],sM⟩,λb hb=>.inl hb⟩
 |n+1,b::r,seen,ids,h,hn=>by
  simp only[rW] at h
  split at h
  ·exact Ac6 h hn
  rename_i hb
  split at h
  ·rename_i cells hc
   obtain⟨h1,⟨q,h2⟩,h3⟩:=Ac6 h (by
    rw[List.nodup_append]
    exact⟨hn,sM,by intro x hx y hy; simp at hy; subst hy; intro e; subst e; exact hb hx⟩)
   refine⟨h1,⟨b::q,by rw[h2]; simp⟩,λx hx=>?_⟩
   rcases h3 x hx with h|h
   ·rcases List.mem_append.1 h with h|h
    ·exact .inl h
    ·simp at h; subst h; exact .inr (by rw[hc]; rfl)
   exact .inr h
  simp at h
theorem xG {b:Nat}:∀{l:List Nat} {n i:Nat},idx b l n=some i->n<=i/\l[i-n]?=some b
 | [],n,i,h=>by simp[idx] at h
 |x::l,n,i,h=>by
  simp only[idx] at h
  split at h
  ·rename_i hx
   simp only[sJ] at h; subst h
   exact⟨Nat.le_refl _,by simp[hx]⟩
  obtain⟨h1,h2⟩:=xG h
  refine⟨oM,?_⟩
  rw[show i-n=(i-(n+1))+1 from by omega]
  simpa using h2
theorem AuS {b:Nat}:∀{l:List Nat} {n i:Nat},l.Nodup->l[i]?=some b->idx b l n=some (n+i)
 | [],n,i,_,h=>by simp at h
 |x::l,n,0,_,h=>by simp at h; simp[idx,h]
 |x::l,n,i+1,hn,h=>by
  rw[List.nodup_cons] at hn
  have hb:b∈l:=by exact List.mem_of_getElem? (by simpa using h)
  simp only[idx]
  rw[if_neg (λe:x=b=>hn.1 (e▸hb)),AuS hn.2 (by simpa using h)]
  congr 1; omega
theorem AlB {b:Nat}:∀{l:List Nat} {n:Nat},b∉l->idx b l n=none
 | [],n,_=>rfl
 |x::l,n,h=>by
  simp only[List.mem_cons,not_or] at h
  simp only[idx]
  rw[if_neg (λe=>h.1 e.symm),AlB h.2]
theorem BbA {b:Nat} {l:List Nat} {n i:Nat} (h:idx b l n=some i):b∈l:=List.mem_of_getElem? (xG h).2
section
variable {P:Program} {K K':Col} {μ μ':Nat->Nat} {w w':World} {s:St} {a:Act}
mutual
theorem Rep.recolor (hK:∀b o,K b o=.ro->K' b o=.ro):∀(d:D) (v:Value),Rep K w d v->Rep K' w d v
 |.bool _,_,h=>h
 |.int _ _,_,h=>h
 |.str _,_,h=>h
 |.list sz xs,v,h=>by
  simp only[Rep] at h ⊢
  rcases h with h|⟨blk,off,cap,rfl,hc,he⟩
  ·exact .inl h
  exact .inr ⟨blk,off,cap,rfl,hc,iM.recolor hK xs sz blk off he⟩
 |.agg cs,v,h=>by
  simp only[Rep] at h ⊢
  obtain⟨vs,rfl,hl⟩:=h
  exact⟨vs,rfl,dN.recolor hK cs vs hl⟩
 |.iface t d,v,h=>by
  simp only[Rep] at h ⊢
  obtain⟨u,rfl,hu⟩:=h
  exact⟨u,rfl,Rep.recolor hK d u hu⟩
 |.nilIface,_,h=>h
theorem dN.recolor (hK:∀b o,K b o=.ro->K' b o=.ro):∀(ds:List D) (vs:List Value),dN K w ds vs->dN K' w ds vs
 | [],_,h=>h
 |d::ds,vs,h=>by
  simp only[dN] at h ⊢
  obtain⟨v,r,rfl,h1,hd,hr⟩:=h
  exact⟨v,r,rfl,h1,Rep.recolor hK d v hd,dN.recolor hK ds r hr⟩
theorem iM.recolor (hK:∀b o,K b o=.ro->K' b o=.ro):∀(ds:List D) (sz blk off:Nat),iM K w sz blk off ds->iM K' w sz blk off ds
 | [],_,_,_,_=>by simp only[iM]
 |d::ds,sz,blk,off,h=>by
  simp only[iM] at h ⊢
  obtain⟨⟨v,hd,hz,hc⟩,hr⟩:=h
  exact⟨⟨v,Rep.recolor hK d v hd,hz,λi u hu=>⟨hK _ _ (hc i u hu).1,(hc i u hu).2⟩⟩,iM.recolor hK ds sz blk (off+sz) hr⟩
end
theorem into_rep {ids:List Nat} (hK:∀b o,K b o=.ro->K' b o=.ro) (hμ:∀i b,ids[i]?=some b->μ' i=μ b) {c c':C} {v:Value} (hc:C.into ids c=some c') (h:RepC K μ w c v) :
  RepC K' μ' w c' v/\(∀i∈c'.ids,i<ids.length)/\(∀sz xs,c'=.own sz xs↔c=.own sz xs):=by
 cases c with
 |d x=>simp only[C.into,sJ] at hc; subst hc; exact⟨Rep.recolor hK x v h,by simp[C.ids],sM⟩
 |own sz xs=>simp only[C.into,sJ] at hc; subst hc; exact⟨Rep.recolor hK (.list sz xs) v h,by simp[C.ids],sM⟩
 |ptr b off=>
  simp only[C.into,Option.map_eq_some_iff] at hc
  obtain⟨i,hi,rfl⟩:=hc
  obtain⟨_,h2⟩:=xG hi
  simp only[RepC] at h ⊢
  refine⟨by rw[hμ i b (by simpa using h2)]; exact h,?_,sM⟩
  intro j hj
  simp[C.ids] at hj; subst hj
  exact (List.getElem?_eq_some_iff.1 (by simpa using h2)).1
 |arr b n sz=>
  simp only[C.into,Option.map_eq_some_iff] at hc
  obtain⟨i,hi,rfl⟩:=hc
  obtain⟨_,h2⟩:=xG hi
  simp only[RepC,AiK] at h ⊢
  refine⟨by rw[hμ i b (by simpa using h2)]; exact h,?_,sM⟩
  intro j hj
  simp[C.ids] at hj; subst hj
  exact (List.getElem?_eq_some_iff.1 (by simpa using h2)).1
 |mp b=>
  simp only[C.into,Option.map_eq_some_iff] at hc
  obtain⟨i,hi,rfl⟩:=hc
  obtain⟨_,h2⟩:=xG hi
  simp only[RepC] at h ⊢
  refine⟨by rw[hμ i b (by simpa using h2)]; exact h,?_,sM⟩
  intro j hj
  simp[C.ids] at hj; subst hj
  exact (List.getElem?_eq_some_iff.1 (by simpa using h2)).1
 |ment kvs=>exact h.elim
 |mdat l=>exact h.elim
 |seq sz ds=>exact h.elim
 |hid=>simp only[C.into,sJ] at hc; subst hc; exact⟨trivial,by simp[C.ids],sM⟩
 |fn f caps=>
  simp only[C.into,Option.map_eq_some_iff] at hc
  obtain⟨caps',hcaps,rfl⟩:=hc
  obtain⟨h1,h2⟩:=kO hcaps
  simp only[RepC] at h ⊢
  refine⟨?_,?_,sM⟩
  ·rw[h]
   congr 2
   apply List.ext_getElem?
   intro i
   simp only[List.getElem?_map]
   cases hi:caps[i]? with
   |none=>
    have:caps'[i]?=none:=by rw[List.getElem?_eq_none_iff] at hi ⊢; omega
    simp[this]
   |some b=>
    obtain⟨j,hj,hj'⟩:=h2 i b hi
    obtain⟨_,h4⟩:=xG hj
    simp[hj',hμ j b (by simpa using h4)]
  intro j hj
  simp only[C.ids] at hj
  obtain⟨i,hi⟩:=List.getElem?_of_mem hj
  obtain⟨b,_,hb⟩:=hC hcaps hi
  obtain⟨_,h4⟩:=xG hb
  exact (List.getElem?_eq_some_iff.1 (by simpa using h4)).1
 |nilptr=>simp only[C.into,sJ] at hc; subst hc; exact⟨h,by simp[C.ids],sM⟩
 |nilfn=>simp only[C.into,sJ] at hc; subst hc; exact⟨h,by simp[C.ids],sM⟩
 |bfn f x=>simp only[C.into,sJ] at hc; subst hc; obtain⟨u,rfl,hu⟩:=h; exact⟨⟨u,rfl,Rep.recolor hK _ _ hu⟩,by simp[C.ids],sM⟩
 |nilmap=>simp only[C.into,sJ] at hc; subst hc; exact⟨h,by simp[C.ids],sM⟩
 |nilchan=>simp only[C.into,sJ] at hc; subst hc; exact⟨h,by simp[C.ids],sM⟩
 |nilsl _=>simp only[C.into,sJ] at hc; subst hc; exact⟨h,by simp[C.ids],sM⟩
 |full sz xs=>simp only[C.into,sJ] at hc; subst hc; exact⟨⟨Rep.recolor hK (.list sz xs) v h.1,h.2⟩,by simp[C.ids],sM⟩
 |undef=>simp only[C.into,sJ] at hc; subst hc; exact⟨h,by simp[C.ids],sM⟩
theorem back_rep {ids:List Nat} (hK:∀b o,K b o=.ro->K' b o=.ro) (hμ:∀i b,ids[i]?=some b->μ' b=μ i) {c c':C} {v:Value} (hc:C.back ids c=some c') (h:RepC K μ w c v) :
  RepC K' μ' w c' v/\(∀b∈c'.ids,b∈ids)/\(∀sz xs,c'=.own sz xs↔c=.own sz xs):=by
 cases c with
 |d x=>simp only[C.back,sJ] at hc; subst hc; exact⟨Rep.recolor hK x v h,by simp[C.ids],sM⟩
 |own sz xs=>simp only[C.back,sJ] at hc; subst hc; exact⟨Rep.recolor hK (.list sz xs) v h,by simp[C.ids],sM⟩
 |ptr i off=>
  simp only[C.back] at hc
  split at hc
  ·rename_i b hb
   simp only[sJ] at hc; subst hc
   simp only[RepC] at h ⊢
   refine⟨by rw[hμ i b hb]; exact h,?_,sM⟩
   intro j hj
   simp[C.ids] at hj; subst hj
   exact List.mem_of_getElem? hb
  simp at hc
 |arr i n sz=>
  simp only[C.back] at hc
  split at hc
  ·rename_i b hb
   simp only[sJ] at hc; subst hc
   simp only[RepC,AiK] at h ⊢
   refine⟨by rw[hμ i b hb]; exact h,?_,sM⟩
   intro j hj
   simp[C.ids] at hj; subst hj
   exact List.mem_of_getElem? hb
  simp at hc
 |mp i=>
  simp only[C.back] at hc
  split at hc
  ·rename_i b hb
   simp only[sJ] at hc; subst hc
   simp only[RepC] at h ⊢
   refine⟨by rw[hμ i b hb]; exact h,?_,sM⟩
   intro j hj
   simp[C.ids] at hj; subst hj
   exact List.mem_of_getElem? hb
  simp at hc
 |ment kvs=>exact h.elim
 |mdat l=>exact h.elim
 |seq sz ds=>exact h.elim
 |hid=>simp only[C.back,sJ] at hc; subst hc; exact⟨trivial,by simp[C.ids],sM⟩
 |fn f caps=>
  simp only[C.back,Option.map_eq_some_iff] at hc
  obtain⟨caps',hcaps,rfl⟩:=hc
  obtain⟨h1,h2⟩:=kO hcaps
  simp only[RepC] at h ⊢
  refine⟨?_,?_,sM⟩
  ·rw[h]
   congr 2
   apply List.ext_getElem?
   intro i
   simp only[List.getElem?_map]
   cases hi:caps[i]? with
   |none=>
    have:caps'[i]?=none:=by rw[List.getElem?_eq_none_iff] at hi ⊢; omega
    simp[this]
   |some j=>
    obtain⟨b,hb,hb'⟩:=h2 i j hi
    simp[hb',hμ j b hb]
  intro j hj
  simp only[C.ids] at hj
  obtain⟨i,hi⟩:=List.getElem?_of_mem hj
  obtain⟨b,_,hb⟩:=hC hcaps hi
  exact List.mem_of_getElem? hb
 |nilptr=>simp only[C.back,sJ] at hc; subst hc; exact⟨h,by simp[C.ids],sM⟩
 |nilfn=>simp only[C.back,sJ] at hc; subst hc; exact⟨h,by simp[C.ids],sM⟩
 |bfn f x=>simp only[C.back,sJ] at hc; subst hc; obtain⟨u,rfl,hu⟩:=h; exact⟨⟨u,rfl,Rep.recolor hK _ _ hu⟩,by simp[C.ids],sM⟩
 |nilmap=>simp only[C.back,sJ] at hc; subst hc; exact⟨h,by simp[C.ids],sM⟩
 |nilchan=>simp only[C.back,sJ] at hc; subst hc; exact⟨h,by simp[C.ids],sM⟩
 |nilsl _=>simp only[C.back,sJ] at hc; subst hc; exact⟨h,by simp[C.ids],sM⟩
 |full sz xs=>simp only[C.back,sJ] at hc; subst hc; exact⟨⟨Rep.recolor hK (.list sz xs) v h.1,h.2⟩,by simp[C.ids],sM⟩
 |undef=>simp only[C.back,sJ] at hc; subst hc; exact⟨h,by simp[C.ids],sM⟩
theorem AqZ {f:Nat->Option Nat} {Q:Nat->Prop} (hK:∀b o,K b o=.ro->K' b o=.ro) (hf:∀b i,f b=some i->μ' i=μ b/\Q i):∀{kvs kvs':List (D×MV)} {es:List MapEntry},aY (AnY f) kvs=some kvs'->hU K μ w kvs es ->
  hU K' μ' w kvs' es/\∀x∈kvs',∀i∈x.2.ids,Q i
 | [],kvs',es,h,hr=>by
  simp only[aY,sJ] at h; subst h
  exact⟨hr,sM⟩
 |(k,m)::r,kvs',es,h,hr=>by
  simp only[aY] at h
  split at h
  ·rename_i y ys hy hys
   simp only[sJ] at h; subst h
   simp only[hU] at hr
   obtain⟨e,es',rfl,h1,h2,h3⟩:=hr
   obtain⟨g1,g2⟩:=AqZ hK hf hys h3
   simp only[AnY,Option.map_eq_some_iff] at hy
   obtain⟨m',hm',rfl⟩:=hy
   have hmr:RepC K' μ' w m'.toC e.val/\∀i∈m'.ids,Q i:=by
    cases m with
    |d x=>
     simp only[MV.thru,sJ] at hm'; subst hm'
     exact⟨Rep.recolor hK _ _ h2,by simp[MV.ids]⟩
    |fn g caps=>
     simp only[MV.thru,Option.map_eq_some_iff] at hm'
     obtain⟨caps',hc,rfl⟩:=hm'
     obtain⟨q1,q2⟩:=kO hc
     simp only[MV.toC,RepC] at h2 ⊢
     refine⟨?_,?_⟩
     ·rw[h2]
      congr 2
      refine List.ext_getElem? λi=>?_
      simp only[List.getElem?_map]
      cases hi:caps[i]? with
      |none=>
       have:caps'[i]?=none:=by
        rw[List.getElem?_eq_none_iff] at hi ⊢
        omega
       rw[this]; rfl
      |some b=>
       obtain⟨y,hy1,hy2⟩:=q2 i b hi
       rw[hy2]
       simp only[Option.map_some,(hf b y hy1).1]
     intro i hi
     simp only[MV.ids] at hi
     obtain⟨j,hj⟩:=List.getElem?_of_mem hi
     obtain⟨b,_,hb⟩:=hC hc hj
     exact (hf b i hb).2
   simp only[hU]
   refine⟨⟨e,es',rfl,Rep.recolor hK _ _ h1,hmr.1,g1⟩,?_⟩
   intro x hx
   rcases List.mem_cons.1 hx with rfl|hx
   ·exact hmr.2
   exact g2 x hx
  simp at h
theorem At6 {f:C->Option C} {cells cells':List C} (hf:∀c c',f c=some c'->(mapOf [c]).isSome=(mapOf [c']).isSome) (h:aY f cells=some cells'):(mapOf cells).isSome=(mapOf cells').isSome:=by
 match cells,cells',h with
 | [],cells',h=>simp only[aY,sJ] at h; subst h; rfl
 | [c],cells',h=>
  simp only[aY] at h
  split at h
  ·rename_i y ys hy hys
   simp only[sJ] at h hys; subst hys; subst h
   exact hf c y hy
  simp at h
 |c::c2::r,cells',h=>
  simp only[aY] at h
  split at h
  ·rename_i y ys hy hys
   simp only[sJ] at h; subst h
   split at hys
   ·simp only[sJ] at hys; subst hys
    simp[mapOf]
   simp at hys
  simp at h
theorem BcW {ids:List Nat} (c c':C) (h:C.into ids c=some c'):(mapOf [c]).isSome=(mapOf [c']).isSome:=by
 cases c<;>simp only[C.into,sJ,Option.map_eq_some_iff] at h<;>first
  |(subst h; rfl)
  |(obtain⟨_,_,rfl⟩:=h; rfl)
theorem BcA {ids:List Nat} (c c':C) (h:C.back ids c=some c'):(mapOf [c]).isSome=(mapOf [c']).isSome:=by
 cases c<;>simp only[C.back,sJ,Option.map_eq_some_iff] at h<;>first
  |(subst h; rfl)
  |(obtain⟨_,_,rfl⟩:=h; rfl)
  |(split at h<;>first|(simp only[sJ] at h; subst h; rfl)|(simp at h; done))
theorem AyZ (f:Nat->Option Nat):∀l:List (D×D),aY (AnY f) (l.map dmv)=some (l.map dmv)
 | []=>rfl
 |x::r=>by
  have ih:=AyZ f r
  simp only[List.map_cons,aY,ih]
  simp[AnY,dmv,MV.thru]
theorem Ba1 {cs:List C} {kvs:List (D×MV)} (h:mapOf cs=some kvs) (off:Nat):cs[off]?≠some .hid:=by
 rcases iN h with rfl|⟨l,rfl,rfl⟩<;>cases off<;>simp
theorem Ay0 {g:C->Option C} {f:Nat->Option Nat} (h1:∀kvs,g (.ment kvs)=(aY (AnY f) kvs).map .ment) (h2:∀l,g (.mdat l)=some (.mdat l)) {cells cells':List C} {kvs:List (D×MV)} (hm:mapOf cells=some kvs) (h:aY g cells=some cells') :
  ∃kvs',aY (AnY f) kvs=some kvs'/\mapOf cells'=some kvs'/\∀c∈cells',∀j∈c.ids,∃x∈kvs',j∈x.2.ids:=by
 rcases iN hm with rfl|⟨l,rfl,rfl⟩
 ·simp only[aY,h1] at h
  split at h
  ·rename_i y ys hy hys
   simp only[sJ,Option.map_eq_some_iff] at h hy hys
   obtain⟨kvs',hkv,rfl⟩:=hy
   subst hys; subst h
   refine⟨kvs',hkv,rfl,λc hc j hj=>?_⟩
   simp only[List.mem_singleton] at hc; subst hc
   simpa only [C.ids,List.mem_flatMap] using hj
  simp at h
 simp only[aY,h2,sJ] at h
 subst h
 refine⟨_,AyZ f l,rfl,λc hc j hj=>?_⟩
 simp only[List.mem_singleton] at hc; subst hc
 simp[C.ids] at hj
theorem mapM_flat {f:C->Option C} {cells cells':List C} (hd:∀d,f (.d d)=some (.d d)) (hs:∀sz ds,f (.seq sz ds)=some (.seq sz ds)) (hs':∀c sz ds,f c=some (.seq sz ds)->c=.seq sz ds)
  (h:aY f cells=some cells'):aY f (fK cells)=some (fK cells')/\(∀sz ds,cells'=[.seq sz ds]↔cells=[.seq sz ds]):=by
 have hbk:∀sz ds,cells'=[.seq sz ds]↔cells=[.seq sz ds]:=by
  intro sz ds
  constructor
  ·rintro rfl
   match cells,h with
   | [],h=>simp[aY] at h
   | [c],h=>
    simp only[aY] at h
    split at h
    ·rename_i y ys hy hys
     simp only[sJ,List.cons.injEq] at h hys
     rw[h.1] at hy
     rw[hs' _ _ _ hy]
    simp at h
   |c::c2::r,h=>
    simp only[aY] at h
    split at h
    ·rename_i y ys hy hys
     split at hys
     ·simp only[sJ] at hys; subst hys
      simp at h
     simp at hys
    simp at h
  rintro rfl
  simp only[aY,hs,sJ] at h
  exact h.symm
 refine⟨?_,hbk⟩
 by_cases hq:∃sz ds,cells=[.seq sz ds]
 ·obtain⟨sz,ds,rfl⟩:=hq
  rw[(hbk sz ds).2 rfl]
  simp only[fK]
  have:∀l:List D,aY f (l.map C.d)=some (l.map C.d):=by
   intro l
   induction l with
   |nil=>rfl
   |cons x l ih=>simp only[List.map_cons,aY,hd,ih]
  have hfl:fL ds=(ds.flatMap D.cells).map C.d:=by simp[fL,List.map_flatMap]
  rw[hfl]; exact this _
 rw[fD λsz ds e=>hq ⟨sz,ds,e⟩,fD λsz ds e=>hq ⟨sz,ds,(hbk sz ds).1 e⟩]
 exact h
theorem BcV {ids:List Nat} {cells cells':List C} (h:aY (C.into ids) cells=some cells'):aY (C.into ids) (fK cells)=some (fK cells')/\(∀sz ds,cells'=[.seq sz ds]↔cells=[.seq sz ds]):=
 mapM_flat (λ_=>rfl) (λ_ _=>rfl) (λc sz ds e=>by
  cases c<;>simp only[C.into,sJ,Option.map_eq_some_iff,reduceCtorEq,and_false,exists_false] at e ⊢<;>exact e) h
theorem Bc9 {ids:List Nat} {cells cells':List C} (h:aY (C.back ids) cells=some cells'):aY (C.back ids) (fK cells)=some (fK cells')/\(∀sz ds,cells'=[.seq sz ds]↔cells=[.seq sz ds]):=
 mapM_flat (λ_=>rfl) (λ_ _=>rfl) (λc sz ds e=>by
  cases c<;>simp only[C.back,sJ,Option.map_eq_some_iff,reduceCtorEq,and_false,exists_false] at e ⊢<;>first|exact e|(split at e<;>simp at e)) h
theorem Bf7 {ids:List Nat} {cells cells':List C} (h:aY (C.into ids) cells=some cells') {o:Nat} (ho:cells[o]?=some C.hid):cells'[o]?=some C.hid:=by
 have hl:=(kO h).1
 have h2:=(List.getElem?_eq_some_iff.1 ho).1
 have:cells'[o]?=some cells'[o]:=List.getElem?_eq_getElem oM
 obtain⟨c,hc,hcc⟩:=hC h this
 rw[ho,sJ] at hc
 subst hc
 simp only[C.into,sJ] at hcc
 rw[this,←hcc]
theorem Be7 {ids:List Nat} {cells cells':List C} (h:aY (C.back ids) cells=some cells') {o:Nat} (ho:cells[o]?=some C.hid):cells'[o]?=some C.hid:=by
 have hl:=(kO h).1
 have h2:=(List.getElem?_eq_some_iff.1 ho).1
 have:cells'[o]?=some cells'[o]:=List.getElem?_eq_getElem oM
 obtain⟨c,hc,hcc⟩:=hC h this
 rw[ho,sJ] at hc
 subst hc
 simp only[C.back,sJ] at hcc
 rw[this,←hcc]
theorem aZ.mapM {f:C->Option C} {cs cs':List C} {vs:List Value} (hm:aY f cs=some cs') (hr:aZ K μ w cs vs)
  (hf:∀c c' v,f c=some c'->RepC K μ w c v->RepC K' μ' w c' v):aZ K' μ' w cs' vs:=by
 obtain⟨h1,_⟩:=kO hm
 refine aZ.of_get (by rw[h1,hr.length]) λi c' v hc hv=>?_
 obtain⟨c,hci,hcc⟩:=hC hm hc
 obtain⟨u,hu,hru⟩:=hr.get hci
 rw[hv,sJ] at hu
 subst hu
 exact hf c c' v hcc hru
def AkA (K:Col) (μ:Nat->Nat) (w:World) (lh:List (List C)):Prop:=
 ∀i cells,lh[i]?=some cells->(∀c∈cells,∀j∈c.ids,j<lh.length)/\lF K μ w i cells
def lG (v:V):Prop:=(∀sz xs,v≠.c (.own sz xs))/\∀l sz xs,v≠.view l sz xs
def sR (K:Col) (w:World):Prop:=∀blk off,w.heap.size<=blk->K blk off=.other
def pO (P:Program) (f:Nat) (args:List C) (lh:List (List C)) (r:aF):Prop:=
 ∀K μ w vs,aZ K μ w args vs->(∀c∈args,∀b∈c.ids,b<lh.length)->AkA K μ w lh->sR K w->Ak9 K w ->
  Calls P f vs.toArray w λe w'=>∃K' μ',Step iD K w K' w'/\sR K' w'/\(∀i,i<lh.length->μ' i=μ i) /\
   match r with
   |.ret v lh'=>lh.length<=lh'.length/\AkA K' μ' w' lh'/\lG v/\(∀b∈v.ids,b<lh'.length)/\∃u,e=.returned u/\bY K' μ' w' v u
   |.pan d lh'=>lh'.length=lh.length/\AkA K' μ' w' lh'/\∃u,e=.panicked [⟨u,false,false⟩]/\Rep K' w' d u
theorem Ak9.recolor [cU] {K K':Col} {w:World} (hK:∀b o,K b o=.ro->K' b o=.ro) (h:Ak9 K w):Ak9 K' w:=
 fun x hx i v hv=>⟨hK _ _ (h x hx i v hv).1,(h x hx i v hv).2⟩
def iK (ids:List Nat):Tag->Tag
 |.ro=>.ro
 |.other=>.other
 |.blk b=>match idx b ids 0 with
  |some i=>.blk i
  |none=>.other
 |.sp (.cell b o)=>match idx b ids 0 with
  |some i=>.sp (.cell i o)
  |none=>.other
 |.sp (.tmp _)=>.other
def AvK (ids:List Nat):Tag->Tag
 |.ro=>.ro
 |.other=>.other
 |.blk i=>match ids[i]? with
  |some b=>.blk b
  |none=>.other
 |.sp (.cell i o)=>match ids[i]? with
  |some b=>.sp (.cell b o)
  |none=>.other
 |.sp (.tmp _)=>.other
def handed (ids:List Nat) (t:Tag):Prop:=∃b∈ids,t=.blk b\/∃o,t=.sp (.cell b o)
theorem AmT {ids:List Nat} {t:Tag} (h:¬handed ids t):¬iD (iK ids t):=by
 intro hm
 cases t with
 |ro=>exact hm.1 rfl
 |other=>exact hm.2 rfl
 |blk b=>
  simp only[iK] at hm
  split at hm
  ·rename_i i hi; exact h ⟨b,BbA hi,.inl rfl⟩
  exact hm.2 rfl
 |sp l=>
  cases l with
  |tmp t=>exact hm.2 rfl
  |cell b o=>
   simp only[iK] at hm
   split at hm
   ·rename_i i hi; exact h ⟨b,BbA hi,.inr ⟨o,rfl⟩⟩
   exact hm.2 rfl
theorem BfX {ids:List Nat} {t:Tag}:iK ids t=.ro↔t=.ro:=by
 cases t with
 |ro=>simp[iK]
 |other=>simp[iK]
 |blk b=>simp only[iK]; split<;>simp
 |sp l=>cases l with
  |tmp t=>simp[iK]
  |cell b o=>simp only[iK]; split<;>simp
def wW (ids:List Nat) (K Kc Kc':Col) (n:Nat):Col:=λb o=>
 if b<n/\Kc b o=.other then K b o else AvK ids (Kc' b o)
theorem AdE {ids:List Nat} {Kc Kc':Col} (hst:Step iD Kc w Kc' w') {b o:Nat} (h:Kc' b o≠.other) :
  wW ids K Kc Kc' w.heap.size b o=AvK ids (Kc' b o):=by
 simp only[wW]
 rw[if_neg]
 rintro⟨h1,h2⟩
 exact h ((hst.cell b o h1 (by rw[h2]; exact λhm=>hm.2 rfl)).2.2.trans h2)
theorem Ap6 {ids:List Nat} {Kc Kc':Col} (hst:Step iD Kc w Kc' w') (b o:Nat) (h:Kc' b o=.ro):wW ids K Kc Kc' w.heap.size b o=.ro:=by
 rw[AdE hst (by rw[h]; simp),h]; rfl
theorem BdH {ids ids':List Nat} {Kc':Col} (hst:Step iD (λb o=>iK ids (K b o)) w Kc' w') :
  Step (handed ids) K w (wW ids' K (λb o=>iK ids (K b o)) Kc' w.heap.size) w':=by
 refine⟨hst.os,hst.tape,hst.output,hst.size,λb hb hn=>hst.block b hb λoff=>AmT (hn off),λb o hb hn=>?_,hst.ex⟩
 have h1:=hst.cell b o hb (AmT hn)
 refine⟨h1.1,h1.2.1,?_⟩
 by_cases hro:K b o=.ro
 ·rw[Ap6 hst b o (by rw[h1.2.2,hro]; rfl),hro]
 simp only[wW]
 rw[if_pos]
 refine⟨hb,?_⟩
 have hm:=AmT hn
 have h2:iK ids (K b o)≠.ro:=λe=>hro (BfX.1 e)
 by_cases h3:iK ids (K b o)=.other
 ·exact h3
 exact absurd ⟨h2,h3⟩ hm
end
end Go.AM
namespace Go.AM
open Go
variable [cU]
theorem nO {b:Nat}:∀{ids:List Nat} {cs:List (List C)} {h:List (Nat×List C)},b∉ids->look b (dT ids cs h)=look b h
 | [],_,_,_=>by simp[dT]
 |_::_,[],_,_=>by simp[dT]
 |x::ids,c::cs,h,hb=>by
  simp only[List.mem_cons,not_or] at hb
  simp only[dT]
  rw[nO hb.2,cW hb.1]
theorem AfH {b:Nat} {c:List C}:∀{ids:List Nat} {cs:List (List C)} {h:List (Nat×List C)} {i:Nat},ids.Nodup->ids[i]?=some b->cs[i]?=some c->look b (dT ids cs h)=some c
 | [],_,_,i,_,hi,_=>by simp at hi
 |_::_,[],_,i,_,_,hc=>by simp at hc
 |x::ids,e::cs,h,0,hn,hi,hc=>by
  simp at hi hc; subst hi; subst hc
  rw[List.nodup_cons] at hn
  simp only[dT]
  rw[nO hn.1,cM]
 |x::ids,e::cs,h,i+1,hn,hi,hc=>by
  rw[List.nodup_cons] at hn
  simp only[dT]
  exact AfH hn.2 (by simpa using hi) (by simpa using hc)
theorem wJ:∀{n k b:Nat},b∈bD n k↔n<=b/\b<n+k
 |n,0,b=>by simp[bD]
 |n,k+1,b=>by simp only[bD,List.mem_cons,wJ]; omega
theorem xF:∀n k:Nat,(bD n k).length=k
 |_,0=>rfl
 |n,k+1=>by simp[bD,xF (n+1) k]
theorem AnM:∀{n k i:Nat},i<k->(bD n k)[i]?=some (n+i)
 |n,0,i,h=>by omega
 |n,k+1,0,_=>by simp[bD]
 |n,k+1,i+1,h=>by simp only[bD,List.getElem?_cons_succ]; rw[AnM oM]; congr 1; omega
theorem AdJ:∀n k:Nat,(bD n k).Nodup
 |_,0=>by simp[bD]
 |n,k+1=>by
  simp only[bD,List.nodup_cons]
  exact⟨by rw[wJ]; omega,AdJ (n+1) k⟩
theorem sA (ids:List Nat) (k:Nat):∀tm:List (Nat×V),look k (unviewIn ids tm)=(look k tm).map λv=>match v with
  |.view (.cell b off) sz xs=>if b∈ids then .d (.list sz xs) else .view (.cell b off) sz xs
  |v=>v
 | []=>rfl
 |(j,v)::r=>by
  have ih:=sA ids k r
  by_cases hj:j=k
  ·subst hj
   cases v with
   |view l sz xs=>cases l<;>simp[unviewIn,look]
   |_=>simp[unviewIn,look]
  cases v with
  |view l sz xs=>cases l<;>simp[unviewIn,look,hj,ih]
  |_=>simp[unviewIn,look,hj,ih]
section
variable {P:Program} {K K':Col} {μ μ':Nat->Nat} {w w':World} {s:St} {a:Act}
theorem rY {ids:List Nat} {t:Nat} {v:V} (h:look t (unviewIn ids s.tmps)=some v) :
  ∃v',look t s.tmps=some v'/\(v=v'\/∃b off sz xs,v'=.view (.cell b off) sz xs/\v=.d (.list sz xs))/\∀b off sz xs,v=.view (.cell b off) sz xs->b∉ids:=by
 rw[sA] at h
 simp only[Option.map_eq_some_iff] at h
 obtain⟨v',h1,rfl⟩:=h
 refine⟨v',h1,?_,?_⟩
 ·cases v' with
  |view l sz xs=>
   cases l with
   |tmp t=>simp
   |cell b off=>by_cases hb:b∈ids<;>simp[hb]
  |_=>simp
 intro b off sz xs e
 cases v' with
 |view l sz' xs'=>
  cases l with
  |tmp t=>simp at e
  |cell b' off'=>
   by_cases hb:b'∈ids
   ·simp[hb] at e
   simp only[hb,if_false,V.view.injEq,Loc.cell.injEq] at e
   rw[←e.1.1]; exact hb
 |_=>simp at e
theorem At0 (hs:Sim K μ s a w) {ids:List Nat} (hn:ids.Nodup) {lh:List (List C)} (hlh:pG s.heap ids=some lh) :
  AkA (λb o=>iK ids (K b o)) (λi=>μ (ids.getD i 0)) w lh/\lh.length=ids.length:=by
 obtain⟨h1,_⟩:=kO hlh
 refine⟨λi cells hi=>?_,h1⟩
 obtain⟨b,hb,hbc⟩:=hC hlh hi
 rw[Option.bind_eq_some_iff] at hbc
 obtain⟨cs,hcs,hmap⟩:=hbc
 obtain⟨k1,k2,k34⟩:=hs.heap b cs hcs
 rcases k34 with hnr|⟨k3,k4,k50⟩
 ·obtain⟨sz,rfl,h0⟩:=mP hnr
  simp only[aY,C.into,sJ] at hmap
  subst hmap
  refine⟨λc hc j hj=>?_,.inl (.mk sz h0)⟩
  simp only[List.mem_singleton] at hc
  subst hc; simp[C.ids] at hj
 have hib:idx b ids 0=some i:=by simpa using AuS (n:=0) hn hb
 have hgd:ids.getD i 0=b:=by simp[List.getD,hb]
 have hro:∀b o,K b o=.ro->iK ids (K b o)=.ro:=λb o h=>by rw[h]; rfl
 have hμ:∀i b,ids[i]?=some b->μ (ids.getD i 0)=μ b:=λi b h=>by simp[List.getD,h]
 have hment:=At6 BcW hmap
 obtain⟨hmapF,hsq⟩:=BcV hmap
 rcases k50 with ⟨hm0,k5,k6⟩|⟨kvs,hm0,es,clk,ho1,ho2,ho3⟩
 ·refine⟨?_,.inr ⟨?_,by simp only[hgd]; exact k4,.inl ⟨?_,?_,?_⟩⟩⟩
  ·intro c' hc' j hj
   by_cases hqq:∃sz ds,cells=[.seq sz ds]
   ·obtain⟨sz,ds,rfl⟩:=hqq
    simp only[List.mem_singleton] at hc'; subst hc'
    simp[C.ids] at hj
   rw[←fD λsz ds e=>hqq ⟨sz,ds,e⟩] at hc'
   obtain⟨q,hq⟩:=List.getElem?_of_mem hc'
   obtain⟨c,hc,hcc⟩:=hC hmapF hq
   by_cases hch:c=.hid
   ·subst hch; simp only[C.into,sJ] at hcc; subst hcc; simp[C.ids] at hj
   obtain⟨v,_,_,_,hr,_⟩:=k5 q c hc hch
   have:=(into_rep (K':=λb o=>iK ids (K b o)) (μ':=λi=>μ (ids.getD i 0)) hro hμ hcc hr).2.1 j hj
   rw[h1]; exact this
  ·intro off ho
   have e:=k3 off (λe=>ho (Bf7 hmap e))
   simp only[hgd,e,iK,hib]
  ·rw[hm0] at hment
   cases hq:mapOf cells with
   |none=>rfl
   |some _=>rw[hq] at hment; simp at hment
  rotate_left
  ·intro sz ds e
   exact k6 sz ds ((hsq sz ds).1 e)
  intro q c' hc' hnh
  obtain⟨c,hc,hcc⟩:=hC hmapF hc'
  obtain⟨v,hv,hv1,hv2,hr,hsp⟩:=k5 q c hc (by rintro rfl; simp only[C.into,sJ] at hcc; exact hnh hcc.symm)
  obtain⟨r1,r2,r3⟩:=into_rep (K':=λb o=>iK ids (K b o)) (μ':=λi=>μ (ids.getD i 0)) hro hμ hcc hr
  refine⟨v,by simp only[hgd]; exact hv,hv1,by simp only[hgd]; exact hv2,r1,λsz xs e=>?_⟩
  rcases hsp sz xs ((r3 sz xs).1 e) with e0|⟨blk,off,len,cap,e1,e2,e3⟩
  ·exact .inl e0
  refine .inr ⟨blk,off,len,cap,e1,e2,λj hj hj'=>?_⟩
  obtain⟨t1,t2,t3⟩:=e3 j hj hj'
  exact⟨by simp only[t1,iK,hib],t2,t3⟩
 obtain⟨kvs',hkv,hm1,hci⟩:=Ay0 (g:=C.into ids) (f:=λb=>idx b ids 0) (λ_=>rfl) (λ_=>rfl) hm0 hmap
 obtain⟨g1,g2⟩:=AqZ (K':=λb o=>iK ids (K b o)) (μ':=λi=>μ (ids.getD i 0)) (Q:=λi=>i<ids.length) hro (λb i hbi=>by
  obtain⟨_,hx⟩:=xG hbi
  have hx':ids[i]?=some b:=by simpa using hx
  exact⟨by simp[List.getD,hx'],(List.getElem?_eq_some_iff.1 hx').1⟩) hkv ho2
 refine⟨?_,.inr ⟨?_,by simp only[hgd]; exact k4,.inr ⟨kvs',hm1,es,clk,by simp only[hgd]; exact ho1,g1,ho3⟩⟩⟩
 ·intro c' hc' j hj
  obtain⟨x,hx,hj⟩:=hci c' hc' j hj
  rw[h1]; exact g2 x hx j hj
 intro off ho
 have e:=k3 off (Ba1 hm0 off)
 simp only[hgd,e,iK,hib]
theorem AyR (hs:Sim K μ s a w) {ids:List Nat} (hn:ids.Nodup) (hin:∀b∈ids,b<s.nid) {Kc':Col} {k:Nat} {lh' lh'':List (List C)}
  (hst:Step iD (λb o=>iK ids (K b o)) w Kc' w') (hbd:sR Kc' w') (hμ:∀i,i<ids.length->μ' i=μ (ids.getD i 0)) (hh:AkA Kc' μ' w' lh')
  (hlen:lh'.length=ids.length+k) (hback:aY (aY (C.back (ids++bD s.nid k))) lh'=some lh'') :
  ∃K₂ μ₂,Step (handed ids) K w K₂ w'/\(∀b,b<s.nid->μ₂ b=μ b)/\(∀b o,Kc' b o=.ro->K₂ b o=.ro) /\
   (∀i b,(ids++bD s.nid k)[i]?=some b->μ₂ b=μ' i) /\
   Sim K₂ μ₂ { s with tmps:=unviewIn (ids++bD s.nid k) s.tmps,heap:=dT (ids++bD s.nid k) lh'' s.heap,nid:=s.nid+k } a w':=by
 generalize hids':ids++bD s.nid k=ids' at *
 have hlt':∀b∈ids',b<s.nid+k:=by
  intro b hb
  rw[←hids'] at hb
  rcases List.mem_append.1 hb with hb|hb
  ·have:=hin b hb; omega
  exact (wJ.1 hb).2
 have hn':ids'.Nodup:=by
  rw[←hids',List.nodup_append]
  refine⟨hn,AdJ _ _,λx hx y hy e=>?_⟩
  subst e
  have:=hin x hx
  have:=(wJ.1 hy).1
  omega
 have hold:∀b,b<s.nid->b∈ids'->b∈ids:=by
  intro b hb hm
  rw[←hids'] at hm
  rcases List.mem_append.1 hm with hm|hm
  ·exact hm
  have:=(wJ.1 hm).1; omega
 have hlen':ids'.length=lh'.length:=by rw[←hids',List.length_append,xF,hlen]
 obtain⟨hl1,_⟩:=kO hback
 let μ₂:Nat->Nat:=λb=>match idx b ids' 0 with|some i=>μ' i|none=>μ b
 have hμ₂in:∀i b,ids'[i]?=some b->μ₂ b=μ' i:=by
  intro i b hb
  have:=AuS (n:=0) hn' hb
  simp only[Nat.zero_add] at this
  simp only[μ₂,this]
 have hμ₂:∀b,b<s.nid->μ₂ b=μ b:=by
  intro b hb
  by_cases hm:b∈ids'
  ·have hm':=hold b hb hm
   obtain⟨i,hi⟩:=List.getElem?_of_mem hm'
   have hi':ids'[i]?=some b:=by
    rw[←hids',List.getElem?_append_left (List.getElem?_eq_some_iff.1 hi).1]; exact hi
   rw[hμ₂in i b hi',hμ i (List.getElem?_eq_some_iff.1 hi).1]
   simp[List.getD,hi]
  simp only[μ₂,AlB hm]
 have hstep:Step (handed ids) K w (wW ids' K (λb o=>iK ids (K b o)) Kc' w.heap.size) w':=BdH hst
 have hro:¬handed ids .ro:=by rintro⟨b,_,h|⟨o,h⟩⟩<;>simp at h
 have hrec:∀b o,Kc' b o=.ro->wW ids' K (λb o=>iK ids (K b o)) Kc' w.heap.size b o=.ro:=Ap6 hst
 refine⟨_,μ₂,hstep,hμ₂,hrec,hμ₂in,?_⟩
 refine⟨?_,?_,?_,?_,?_,?_,?_,?_,hs.glob.step hstep (by simp[handed])⟩
 ·intro t V ht
  obtain⟨v',h1,h2,_⟩:=rY ht
  refine⟨(hs.tm t v' h1).1,?_⟩
  have hr:bY (wW ids' K (λb o=>iK ids (K b o)) Kc' w.heap.size) μ₂ w' v' (a.tmps.getD t Go.undef):=
   ((hs.tm t v' h1).2.step hstep hro).mu λb hb=>hμ₂ b (hs.tids t v' h1 b hb)
  rcases h2 with rfl|⟨b,off,sz,xs,rfl,rfl⟩
  ·exact hr
  exact hr
 ·intro t V ht b hb
  obtain⟨v',h1,h2,_⟩:=rY ht
  rcases h2 with rfl|⟨b',off,sz,xs,rfl,rfl⟩
  ·have:=hs.tids t _ h1 b hb
   show b<s.nid+k
   omega
  simp[Go.AM.V.ids,C.ids] at hb
 ·intro t sz xs ht
  obtain⟨v',h1,h2,_⟩:=rY ht
  rcases h2 with rfl|⟨b',off,sz',xs',rfl,e⟩
  ·exact (hs.own t sz xs h1).step hstep (by rintro⟨b,_,h|⟨o,h⟩⟩<;>simp at h)
  simp at e
 ·intro t l sz xs ht
  obtain⟨v',h1,h2,h3⟩:=rY ht
  rcases h2 with rfl|⟨b',off,sz',xs',rfl,e⟩
  ·have hv:=hs.view t l sz xs h1
   cases l with
   |tmp u=>
    intro z ys hu
    obtain⟨v'',h4,h5,_⟩:=rY hu
    rcases h5 with rfl|⟨_,_,_,_,rfl,e⟩
    ·exact hv z ys h4
    simp at e
   |cell b off=>
    have hb:=h3 b off sz xs rfl
    intro cells z ys hc hcc
    rw[show look b ({ s with tmps:=unviewIn ids' s.tmps,heap:=dT ids' lh'' s.heap,nid:=s.nid+k }:St).heap=look b (dT ids' lh'' s.heap) from rfl,nO hb] at hc
    obtain⟨q0,_,q12⟩:=hs.heap b cells hc
    obtain⟨q1,q2,_⟩:=q12.old (yS hcc sM)
    rw[hμ₂ b q0]
    rw[(hstep.cell (μ b) off q2 (by
     rw[(hs.heap b cells hc).2.2.tag (yS hcc sM) (by rw[hcc]; simp)]
     rintro⟨b',hb',h|⟨o,h⟩⟩
     ·simp only[Tag.blk.injEq] at h; subst h
      exact hb (by rw[←hids']; exact List.mem_append.2 (.inl hb'))
     simp at h)).1]
    exact hv cells z ys hc hcc
  simp at e
 ·intro b cells hb
  by_cases hm:b∈ids'
  ·obtain⟨i,hi⟩:=List.getElem?_of_mem hm
   have hi2:i<lh''.length:=by rw[hl1,←hlen']; exact (List.getElem?_eq_some_iff.1 hi).1
   have hl2:lh''[i]?=some lh''[i]:=by simp[hi2]
   rw[show look b ({ s with tmps:=unviewIn ids' s.tmps,heap:=dT ids' lh'' s.heap,nid:=s.nid+k }:St).heap=look b (dT ids' lh'' s.heap) from rfl,AfH hn' hi hl2,sJ] at hb
   subst hb
   obtain⟨cs,hcs,hmap⟩:=hC hback hl2
   obtain⟨g1,g234⟩:=hh i cs hcs
   rcases g234 with hnr|⟨g2,g3,g40⟩
   ·obtain⟨sz,rfl,h0⟩:=mP hnr
    simp only[aY,C.back,sJ] at hmap
    rw[←hmap]
    refine⟨hlt' b hm,λc hc j hj=>?_,.inl (.mk sz h0)⟩
    simp only[List.mem_singleton] at hc
    subst hc; simp[C.ids] at hj
   have hbm:=hμ₂in i b hi
   have hment:=At6 BcA hmap
   have hcol:∀off,lh''[i][off]?≠some C.hid->wW ids' K (λb o=>iK ids (K b o)) Kc' w.heap.size (μ₂ b) off=.blk b:=by
    intro off ho
    have e:=g2 off (λe=>ho (Be7 hmap e))
    rw[hbm,AdE hst (by rw[e]; simp),e]
    simp only[AvK,hi]
   obtain⟨hmapF,hsq⟩:=Bc9 hmap
   rcases g40 with ⟨hm0,g4,g5⟩|⟨kvs,hm0,es,clk,ho1,ho2,ho3⟩
   ·refine⟨hlt' b hm,?_,.inr ⟨hcol,by rw[hbm]; exact g3,.inl ⟨?_,?_,λsz ds e=>g5 sz ds ((hsq sz ds).1 e)⟩⟩⟩
    ·intro c' hc' j hj
     by_cases hqq:∃sz ds,lh''[i]=[.seq sz ds]
     ·obtain⟨sz,ds,e⟩:=hqq
      rw[e] at hc'
      simp only[List.mem_singleton] at hc'; subst hc'
      simp[C.ids] at hj
     rw[←fD λsz ds e=>hqq ⟨sz,ds,e⟩] at hc'
     obtain⟨q,hq⟩:=List.getElem?_of_mem hc'
     obtain⟨c,hc,hcc⟩:=hC hmapF hq
     by_cases hch:c=.hid
     ·subst hch; simp only[C.back,sJ] at hcc; subst hcc; simp[C.ids] at hj
     obtain⟨v,_,_,_,hr,_⟩:=g4 q c hc hch
     exact hlt' j ((back_rep (μ':=μ₂) hrec hμ₂in hcc hr).2.1 j hj)
    ·rw[hm0] at hment
     cases hq:mapOf lh''[i] with
     |none=>rfl
     |some _=>rw[hq] at hment; simp at hment
    ·intro q c' hc' hnh
     obtain⟨c,hc,hcc⟩:=hC hmapF hc'
     obtain⟨v,hv,hv1,hv2,hr,hsp⟩:=g4 q c hc (by rintro rfl; simp only[C.back,sJ] at hcc; exact hnh hcc.symm)
     obtain⟨r1,r2,r3⟩:=back_rep (μ':=μ₂) hrec hμ₂in hcc hr
     rw[hbm]
     refine⟨v,hv,hv1,hv2,r1,λsz xs e=>?_⟩
     rcases hsp sz xs ((r3 sz xs).1 e) with e0|⟨blk,off,len,cap,e1,e2,e3⟩
     ·exact .inl e0
     refine .inr ⟨blk,off,len,cap,e1,e2,λj hj hj'=>?_⟩
     obtain⟨t1,t2,t3⟩:=e3 j hj hj'
     refine⟨?_,t2,t3⟩
     rw[AdE hst (by rw[t1]; simp),t1]
     simp only[AvK,hi]
   obtain⟨kvs',hkv,hm1,hci⟩:=Ay0 (g:=C.back ids') (f:=λ(i:Nat)=>ids'[i]?) (λ_=>rfl) (λ_=>rfl) hm0 hmap
   obtain⟨q1,q2⟩:=AqZ (K':=wW ids' K (λb o=>iK ids (K b o)) Kc' w.heap.size) (μ':=μ₂) (Q:=λi=>i<s.nid+k) hrec (λj i' hij=>⟨hμ₂in j i' hij,hlt' i' (List.mem_of_getElem? hij)⟩) hkv ho2
   refine⟨hlt' b hm,?_,.inr ⟨hcol,by rw[hbm]; exact g3,.inr ⟨kvs',hm1,es,clk,by rw[hbm]; exact ho1,q1,ho3⟩⟩⟩
   intro c' hc' j hj
   obtain⟨x,hx,hj⟩:=hci c' hc' j hj
   exact q2 x hx j hj
  rw[show look b ({ s with tmps:=unviewIn ids' s.tmps,heap:=dT ids' lh'' s.heap,nid:=s.nid+k }:St).heap=look b (dT ids' lh'' s.heap) from rfl,nO hm] at hb
  obtain⟨k1,k2,k3⟩:=hs.heap b cells hb
  have hbn:b∉ids:=λh=>hm (by rw[←hids']; exact List.mem_append.2 (.inl h))
  refine⟨by show b<s.nid+k; omega,λc hc i hi=>by have:=k2 c hc i hi; show i<s.nid+k; omega,?_⟩
  have h1:=k3.step hstep hro (by
    rintro⟨b',hb',h|⟨o,h⟩⟩
    ·simp only[Tag.blk.injEq] at h; subst h; exact hbn hb'
    ·simp at h) (by
    rintro off sz xs _ ⟨b',hb',h|⟨o,h⟩⟩
    ·simp at h
    simp only[Tag.sp.injEq,Loc.cell.injEq] at h; rw[h.1] at hbn; exact hbn hb')
  exact h1.mu (hμ₂ b k1) λc hc j hj=>hμ₂ j (k2 c hc j hj)
 ·intro blk off hl
  simp only[wW]
  rw[if_neg (by have:=hst.size; omega),hbd blk off hl]
  rfl
 ·show a.defers=s.defers.map (AbE μ₂)
  rw[hs.defs]
  refine List.map_congr_left λx hx=>?_
  unfold AbE
  congr 3
  refine List.map_congr_left λb hb=>?_
  rw[hμ₂ b (hs.dids x hx b hb)]
 intro x hx b hb
 have:=hs.dids x hx b hb
 show b<s.nid+k
 omega
end
end Go.AM
