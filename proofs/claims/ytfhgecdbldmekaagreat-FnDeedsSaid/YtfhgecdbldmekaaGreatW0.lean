/- A by-value reading of the model, and its soundness, part 0. -/
import Derived.Calls
import Derived.Orders
import Derived.Below
import Derived.Deep.Draws
import Derived.Deep.AppendSrc
import Derived.Laws.StructEq
import Derived.Great.BuildSlice
import Derived.Laws.Tables
import Derived.Laws.MakeOwn
import Derived.Lib.ConvBytes
import Derived.IntWalk
import Derived.Laws.BytesString
set_option linter.unusedVariables false
set_option linter.unusedSimpArgs false
set_option maxHeartbeats 2000000
/- Definitions: a by-value interpreter of the model's code (kinds, rows, leaves, entries, operations, code). -/
namespace Go.Abs

inductive Kd where
 | int (k:IntKind) | bool | str | fn | sl (ks:List Kd)

mutual
def Kd.T:Kd->Type
 | .int _=>Int
 | .bool=>Bool
 | .str=>ByteArray
 | .fn=>Nat
 | .sl ks=>List (Row ks)
def Row:List Kd->Type
 | []=>Unit
 | k::ks=>k.T×Row ks
end

mutual
def Kd.dec:(a b:Kd)->Decidable (a=b)
 | .int j,.int k=>if h:j=k then .isTrue (by rw[h])else .isFalse (by intro e;cases e;exact h rfl)
 | .bool,.bool=> .isTrue rfl
 | .str,.str=> .isTrue rfl
 | .fn,.fn=> .isTrue rfl
 | .sl as,.sl bs=>match Kd.decs as bs with
  | .isTrue h=> .isTrue (by rw[h])
  | .isFalse h=> .isFalse (by intro e;cases e;exact h rfl)
 | .int _,.bool | .int _,.str | .int _,.fn | .int _,.sl _=> .isFalse (by intro e;cases e)
 | .bool,.int _ | .bool,.str | .bool,.fn | .bool,.sl _=> .isFalse (by intro e;cases e)
 | .str,.int _ | .str,.bool | .str,.fn | .str,.sl _=> .isFalse (by intro e;cases e)
 | .fn,.int _ | .fn,.bool | .fn,.str | .fn,.sl _=> .isFalse (by intro e;cases e)
 | .sl _,.int _ | .sl _,.bool | .sl _,.str | .sl _,.fn=> .isFalse (by intro e;cases e)
def Kd.decs:(as bs:List Kd)->Decidable (as=bs)
 | [],[]=> .isTrue rfl
 | a::as,b::bs=>match Kd.dec a b,Kd.decs as bs with
  | .isTrue h,.isTrue h'=> .isTrue (by rw[h,h'])
  | .isFalse h,_=> .isFalse (by intro e;cases e;exact h rfl)
  | _,.isFalse h=> .isFalse (by intro e;cases e;exact h rfl)
 | [],_::_=> .isFalse (by intro e;cases e)
 | _::_,[]=> .isFalse (by intro e;cases e)
end
instance:DecidableEq Kd:=Kd.dec
instance:DecidableEq (List Kd):=Kd.decs

/-- A value cast to another kind, where the two are one. -/
def kR(k k':Kd)(x:k.T):Option k'.T:=if h:k=k' then some (h▸x)else none
def tX(ks ks':List Kd)(xs:List (Row ks)):Option (List (Row ks')):=if h:ks=ks' then some (h▸xs)else none
def nR(ks ks':List Kd)(x:Row ks):Option (Row ks'):=if h:ks=ks' then some (h▸x)else none

inductive Leaf where
 | v (k:Kd) (x:k.T)
 | nil
 | own (id:Nat)
 | ptr (id off:Nat)
 | eptr (id i off:Nat)
 | psl (id i off:Nat)
 | pptr (id i off wd j o:Nat)
 | vw (id l h:Nat)
 | rptr (ks:List Kd) (row:Row ks) (off:Nat)
 | any
 | hdr (n:Nat)

inductive AVal where
 | one (l:Leaf)
 | agg (ls:List Leaf)
 | tup (vs:List AVal)
 | undef
 | anyv

inductive Ent where
 | none
 | dead
 | var (ls:List Leaf)
 | arr (ks:List Kd) (xs:List (Row ks)) (deep opn:Bool)
 | pin (ks:List Kd) (xs:List (Row ks))

structure CRow where
 ks:List Kd
 row:Row ks

structure St where
 tm:List (Nat×AVal)
 mem:List (Nat×Ent)

def gC{α:Type}(d:α)(i:Nat):List (Nat×α)->α
 | []=>d
 | (j,x)::r=>bif Nat.beq i j then x else gC d i r
def St.t(s:St)(i:Nat):AVal:=gC .anyv i s.tm
def St.m(s:St)(i:Nat):Ent:=gC .none i s.mem
/-- An entry of a list is replaced where it stands, else put in front. -/
def GL{α:Type}(i:Nat)(x:α):List (Nat×α)->List (Nat×α)
 | []=>[(i,x)]
 | (j,y)::r=>bif Nat.beq i j then(i,x)::r else(j,y)::GL i x r
def St.put(s:St)(d:Option Nat)(x:AVal):St:=
 match d with
 | some i=>{ s with tm:=(i,x)::s.tm }
 | none=>s
def St.sets(s:St):List (Nat×Ent)->St
 | []=>s
 | (i,e)::r=>St.sets { s with mem:=GL i e s.mem } r

/-- What is told of a type: its cells' kinds (of a value that is told by value), its fields' places, its elements' type. -/
inductive Tag where
 | struct | slice | string | int (k:IntKind) | bool | ptr | other
structure TyI where
 tag:Tag
 size:Nat
 bytes:Nat
 kinds:List Kd
 fields:List (Nat×Nat)
 elem:Nat
abbrev Ti:=Nat->Option TyI
def TyI.agg(i:TyI):Bool:=match i.tag with | .struct=>true | _=>false

def TyI.plain(i:TyI):Bool:=match i.tag with | .ptr | .other=>false | _=>true

inductive Arg where
 | val (agg:Bool) (r:CRow)
 | ref (r:CRow)
 | own (agg:Bool) (r:CRow)
structure Out where
 res:List CRow
 refs:List CRow

inductive Q (α:Type):Type 1 where
 | ret (a:α)
 | fail
 | get (id:Nat) (k:Ent->Q α)
 | ite (b:Bool) (x y:Q α)
 | opt {β:Type} (o:Option β) (k:β->Q α)
def Q.bind{α β:Type}:Q α->(α->Q β)->Q β
 | .ret a,f=>f a
 | .fail,_=> .fail
 | .get id k,f=> .get id λe=>(k e).bind f
 | .ite b x y,f=> .ite b (x.bind f) (y.bind f)
 | .opt o k,f=> .opt o λx=>(k x).bind f
def Q.run{α ρ:Type}(mem:Nat->Ent):Q α->(α->List Nat->Option ρ)->List Nat->Option ρ
 | .ret a,K,tr=>K a tr
 | .fail,_,_=>none
 | .get id k,K,tr=>(k (mem id)).run mem K (id::tr)
 | .ite b x y,K,tr=>bif b then x.run mem K tr else y.run mem K tr
 | .opt o k,K,tr=>o.bind λx=>(k x).run mem K tr

def at?{α:Type}(xs:List α)(i:Nat):Option α:=xs[i]?
def gW(a b:Int):Bool:=a==b
def nD(a b:Bool):Bool:=a==b
def RZ(a b:ByteArray):Bool:=a==b
structure Eff where
 v:AVal
 wr:List (Nat×Ent)

def BG(i:Nat):List (Nat×Ent)->Option Ent
 | []=>none
 | (j,e)::r=>bif Nat.beq i j then some e else BG i r
/-- A query where some entries are told otherwise. -/
def Q.over{α:Type}(W:List (Nat×Ent)):Q α->Q α
 | .ret a=> .ret a
 | .fail=> .fail
 | .get id k=>match BG id W with
  | some e=>(k e).over W
  | none=> .get id λe=>(k e).over W
 | .ite b x y=> .ite b (x.over W) (y.over W)
 | .opt o k=> .opt o λx=>(k x).over W
def wA(id:Nat):Bool:=Nat.blt id 100000||Nat.ble 200000 id
/-- Pinned rows that are given up as pinned. -/
def rR{α:Type}:List Nat->(List (Nat×Ent)->Q α)->Q α
 | [],k=>k []
 | id::r,k=> .get id λe=>match e with
  | .pin ks xs=>bif wA id then rR r λW=>k ((id,.arr ks xs true true)::W)else rR r k
  | _=>rR r k
def KR(ids:List Nat)(q:Q Eff):Q Eff:=rR ids λW=>(q.over W).bind λe=> .ret ⟨e.v,W++e.wr⟩
def JS:Leaf->List Nat
 | .own i=>[i]
 | .eptr i _ _=>[i]
 | .psl i _ _=>[i]
 | .pptr i _ _ _ _ _=>[i]
 | .vw i _ _=>[i]
 | _=>[]
def LT:AVal->List Nat
 | .one l=>JS l
 | .agg ls=>ls.flatMap JS
 | _=>[]
def iC(i:Nat):List Nat->Bool
 | []=>false
 | j::r=>Nat.beq i j||iC i r
-- leaves and rows
def aI:(ks:List Kd)->Row ks->List Leaf
 | [],_=>[]
 | k::ks,r=> .v k r.1::aI ks r.2
def T1:(k:Kd)->k.T
 | .int _=>(0:Int)
 | .bool=>false
 | .str=>(⟨#[]⟩:ByteArray)
 | .fn=>(0:Nat)
 | .sl _=>[]
def fH:(ks:List Kd)->Row ks
 | []=>()
 | k::ks=>(T1 k,fH ks)
def uU:Kd->Leaf
 | .sl _=> .nil
 | k=> .v k (T1 k)
def cP(ks:List Kd):Bool:=ks.any λk=>match k with | .sl _=>true | _=>false

/-- A leaf by value, at a kind; the entries that it takes in; whether what it takes in is its own. -/
def leafAt(k:Kd)(l:Leaf):Q (k.T×List (Nat×Ent)×Bool):=
 match l with
 | .v k' x=> .opt (kR k' k x) λy=> .ret (y,[],match k with | .sl _=>false | _=>true)
 | .nil=>match k with
  | .sl _=> .ret ([],[],true)
  | _=> .fail
 | .own id=>match k with
  | .sl ks=> .get id λe=>match e with
   | .arr ks' xs deep opn=> .opt (kR (.sl ks') (.sl ks) xs) λy=> .ret (y,[(id,.arr ks' xs deep false)],deep&&opn)
   | _=> .fail
  | _=> .fail
 | _=> .fail
def j0(i:Nat):List (Nat×Ent)->Bool
 | []=>false
 | (j,_)::r=>Nat.beq i j||j0 i r
def xG:List (Nat×Ent)->List (Nat×Ent)->Bool
 | [],_=>true
 | (i,_)::r,ys=> !j0 i ys&&xG r ys
def rowAt:(ks:List Kd)->List Leaf->Q (Row ks×List (Nat×Ent)×Bool)
 | [],[]=> .ret ((),[],true)
 | k::ks,l::ls=>(leafAt k l).bind fun(x,a,p)=>(rowAt ks ls).bind fun(r,b,q)=> .ret ((x,r),a++b,p&&q&&xG a b)
 | _,_=> .fail
def rowsAt(ks:List Kd):List (List Leaf)->Q (List (Row ks)×List (Nat×Ent)×Bool)
 | []=> .ret ([],[],true)
 | l::ls=>(rowAt ks l).bind fun(x,a,p)=>(rowsAt ks ls).bind fun(r,b,q)=> .ret (x::r,a++b,p&&q&&xG a b)
def AVal.leaves:AVal->Option (List Leaf)
 | .one l=>some [l]
 | .agg ls=>some ls
 | _=>none
def AVal.isAgg:AVal->Bool
 | .agg _=>true
 | _=>false
def rH(agg:Bool)(ls:List Leaf):Option AVal:=
 if agg then some (.agg ls)else match ls with | [l]=>some (.one l) | _=>none
/-- A part of a list of leaves is replaced. -/
def DA(ls:List Leaf)(off:Nat)(new:List Leaf):List Leaf:=ls.take off++new++ls.drop (off+new.length)
/-- A part of a row is replaced by what leaves tell. -/
def setRow:(ks:List Kd)->Row ks->(off:Nat)->List Leaf->Q (Row ks×List (Nat×Ent)×Bool)
 | ks,r,_,[]=> .ret (r,[],true)
 | [],_,_,_::_=> .fail
 | k::ks,r,0,l::ls=>(leafAt k l).bind fun(x,a,p)=>(setRow ks r.2 0 ls).bind fun(r',b,q)=> .ret ((x,r'),a++b,p&&q&&xG a b)
 | k::ks,r,o+1,l::ls=>(setRow ks r.2 o (l::ls)).bind fun(r',b,q)=> .ret ((r.1,r'),b,q)

def pH:Value->Option Leaf
 | .int k n=>some (.v (.int k) n)
 | .bool b=>some (.v .bool b)
 | .string s=>some (.v .str s)
 | .slice none 0 0=>some .nil
 | .func (.func g) first captured=>if first.isEmpty&&captured.isEmpty then some (.v .fn g)else none
 | _=>none
def j8:List Value->Option (List Leaf)
 | []=>some []
 | v::vs=>(pH v).bind λl=>(j8 vs).bind λls=>some (l::ls)
def wE:Value->AVal
 | .agg cs=>((j8 cs.toList).map AVal.agg).getD .anyv
 | v=>((pH v).map AVal.one).getD .anyv
def St.eval(s:St):Operand->AVal
 | .tmp t=>s.t t
 | .const v=>wE v
 | .func g=> .one (.v .fn g)
 | .global _=> .anyv

/-- Which functions hand back memory that is all their own; where a cut takes its slice over; how a loop's head is set in order; which functions are run in place. -/
structure Norm where
 temps:List Nat
 ids:List Nat
 moves:List (Option Nat×Nat×Nat×Nat)
structure Hints where
 fresh:Bool
 cut:List Nat
 loops:List (Nat×Norm)
 pin:Bool:=false
 own:Bool:=false
 inl:List (Nat×Nat×Norm×Hints):=[]
 unp:List Nat:=[]
 adp:List (Nat×List Nat):=[]
 reg:List (Nat×List (Option Nat×Nat×Nat×Nat)):=[]

structure Env where
 ti:Ti
 n:Nat
 call:Nat->List Arg->Option Out
 fresh:Nat->Bool
 owns:Nat->Bool
 h:Hints
 base:Nat:=0

def bound:Nat:=4294967296
def j7:Kd->Bool
 | .sl _=>false
 | _=>true
/-- A cell of a row. -/
def kH:(ks:List Kd)->Row ks->Nat->(k:Kd)->Option k.T
 | [],_,_,_=>none
 | k'::_,r,0,k=>kR k' k r.1
 | _::ks,r,o+1,k=>kH ks r.2 o k
def hO:(ks:List Kd)->Row ks->Nat->(k:Kd)->k.T->Option (Row ks)
 | [],_,_,_,_=>none
 | k'::_,r,0,k,x=>(kR k k' x).map λy=>(y,r.2)
 | _::ks,r,o+1,k,x=>(hO ks r.2 o k x).map λy=>(r.1,y)
/-- The leaves of an element of a row that is pinned: its slices are told by their place. -/
def oS(id j:Nat):Nat->(ks:List Kd)->Row ks->List Leaf
 | _,[],_=>[]
 | o,.sl _::ks,r=> .psl id j o::oS id j (o+1) ks r.2
 | o,k::ks,r=> .v k r.1::oS id j (o+1) ks r.2

/-- The cells of a pinned element from a place on, stored one after another: a slice only where it lies already. -/
def pinSet(ks:List Kd)(id j:Nat):Row ks->Nat->List Leaf->Q (Row ks)
 | r,_,[]=> .ret r
 | r,off,.v k x::ls=>if j7 k then .opt (hO ks r off k x) λr'=>pinSet ks id j r' (off+1) ls else .fail
 | r,off,.psl id' j' o'::ls=>if Nat.beq id' id&&Nat.beq o' off then .ite (decide (j'=j)) (match ks[off]? with
  | some (.sl _)=>pinSet ks id j r (off+1) ls
  | _=> .fail) .fail else .fail
 | _,_,_=> .fail

section ops
variable (E:Env)

def ty{α:Type}(t:Nat)(k:TyI->Q α):Q α:=match E.ti t with | some i=>k i | none=> .fail
def eY{α:Type}(x:AVal)(k:List Leaf->Q α):Q α:=match x.leaves with | some ls=>k ls | none=> .fail
def val{α:Type}(agg:Bool)(ls:List Leaf)(k:AVal->Q α):Q α:=match rH agg ls with | some v=>k v | none=> .fail
def wI{α:Type}(x:AVal)(f:IntKind->Int->Q α):Q α:=match x with | .one (.v (.int k) n)=>f k n | _=> .fail
def asBool{α:Type}(x:AVal)(f:Bool->Q α):Q α:=match x with | .one (.v .bool b)=>f b | _=> .fail
def fresh{α:Type}(id:Nat)(k:Q α):Q α:= .get id λe=>match e with | .none=>k | _=> .fail
def BM(n:Int):AVal:= .one (.v (.int .i64) n)
def iA(b:Bool):AVal:= .one (.v .bool b)

/-- A place: the leaves that lie there, from an offset on. -/
def DL(i:TyI)(a:AVal):Q Eff:=
 let take (off:Nat) (ls:List Leaf):Q Eff:=
  if off+i.size<=ls.length then val i.agg ((ls.drop off).take i.size) λv=> .ret ⟨v,[]⟩else .fail
 match a with
 | .one (.ptr id off)=> .get id λe=>match e with
  | .var ls=>take off ls
  | _=> .fail
 | .one (.eptr id j off)=> .get id λe=>match e with
  | .arr ks xs _ _=> .opt (at? xs j) λr=>take off (aI ks r)
  | .pin ks xs=> .opt (at? xs j) λr=>take off (oS id j 0 ks r)
  | _=> .fail
 | .one (.rptr ks r off)=>take off (aI ks r)
 | .one (.pptr id p off wd j o)=>if i.size=1/\i.agg=false then .get id λe=>match e with
  | .pin ks xs=> .opt (at? xs p) λr=>match ks[off]? with
   | some (.sl ks')=> .opt (kH ks r off (.sl ks')) λys=> .opt (at? ys j) λr'=>match ks'[o]? with
    | some k=>if ks'.length=wd/\j7 k then .opt (kH ks' r' o k) λx=> .ret ⟨.one (.v k x),[]⟩else .fail
    | none=> .fail
   | _=> .fail
  | _=> .fail else .fail
 | _=> .fail
def IM(i:TyI)(a x:AVal):Q Eff:=
 eY x λnew=>if new.length=i.size/\0<i.size then
  match a with
  | .one (.ptr id off)=> .get id λe=>match e with
   | .var ls=>if off+new.length<=ls.length then .ret ⟨.undef,[(id,.var (DA ls off new))]⟩else .fail
   | _=> .fail
  | .one (.eptr id j off)=> .get id λe=>match e with
   | .arr ks xs deep true=> .opt (at? xs j) λr=>(setRow ks r off new).bind fun(r',w,p)=>
     if j0 id w then .fail else .ret ⟨.undef,w++[(id,.arr ks (xs.set j r') (deep&&p) true)]⟩
   | .pin ks xs=>match new with
    | [.v k x]=>if j7 k then .opt (at? xs j) λr=> .opt (hO ks r off k x) λr'=> .ret ⟨.undef,[(id,.pin ks (xs.set j r'))]⟩else .fail
    | _=> .opt (at? xs j) λr=>(pinSet ks id j r off new).bind λr'=> .ret ⟨.undef,[(id,.pin ks (xs.set j r'))]⟩
   | _=> .fail
  | .one (.pptr id p off wd j o)=> .get id λe=>match e,new with
   | .pin ks xs,[.v k x]=>if j7 k then .opt (at? xs p) λr=>match ks[off]? with
    | some (.sl ks')=>if ks'.length=wd then .opt (kH ks r off (.sl ks')) λys=> .opt (at? ys j) λr'=> .opt (hO ks' r' o k x) λr2=> .opt (hO ks r off (.sl ks') (List.set ys j r2)) λr1=>
      .ret ⟨.undef,[(id,.pin ks (xs.set p r1))]⟩else .fail
    | _=> .fail
    else .fail
   | _,_=> .fail
  | _=> .fail
 else .fail
def BZ(t:Nat)(a:AVal)(f:Nat):Q Eff:=
 ty E t λi=>match i.tag with
  | .struct=>match i.fields[f]? with
   | some (o,_)=>match a with
    | .one (.ptr id off)=> .ret ⟨.one (.ptr id (off+o)),[]⟩
    | .one (.eptr id j off)=> .ret ⟨.one (.eptr id j (off+o)),[]⟩
    | .one (.rptr ks r off)=> .ret ⟨.one (.rptr ks r (off+o)),[]⟩
    | _=> .fail
   | none=> .fail
  | _=> .fail
def RD(t:Nat)(a:AVal)(f:Nat):Q Eff:=
 ty E t λi=>match i.tag with
  | .struct=>match i.fields[f]? with
   | some (o,u)=>ty E u λj=>match a with
    | .agg ls=>if o+j.size<=ls.length then val j.agg ((ls.drop o).take j.size) λv=> .ret ⟨v,[]⟩else .fail
    | _=> .fail
   | none=> .fail
  | _=> .fail
/-- The elements of a slice. -/
def elems{α:Type}(ks:List Kd)(x:AVal)(k:List (Row ks)->Q α):Q α:=
 match x with
 | .one .nil=>k []
 | .one (.v (.sl ks') xs)=> .opt (tX ks' ks xs) k
 | .one (.own id)=> .get id λe=>match e with
  | .arr ks' xs _ _=> .opt (tX ks' ks xs) k
  | _=> .fail
 | _=> .fail
def BN(t:Nat)(x ix:AVal):Q Eff:=
 ty E t λi=>match i.tag with
  | .slice=>ty E i.elem λj=>wI ix λ_ n=> .ite (decide (0<=n)) (match x with
   | .one (.v (.sl ks) xs)=>if ks.length=j.size then .opt (at? xs n.toNat) λr=> .ret ⟨.one (.rptr ks r 0),[]⟩else .fail
   | .one (.own id)=> .get id λe=>match e with
    | .arr ks xs _ _=>if ks.length=j.size then .opt (at? xs n.toNat) λ_=> .ret ⟨.one (.eptr id n.toNat 0),[]⟩else .fail
    | .pin ks xs=>if ks.length=j.size then .opt (at? xs n.toNat) λ_=> .ret ⟨.one (.eptr id n.toNat 0),[]⟩else .fail
    | _=> .fail
   | .one (.psl id p off)=> .get id λe=>match e with
    | .pin ks xs=> .opt (at? xs p) λr=>match ks[off]? with
     | some (.sl ks')=>if ks'.length=j.size then .opt (kH ks r off (.sl ks')) λys=> .opt (at? ys n.toNat) λ_=> .ret ⟨.one (.pptr id p off ks'.length n.toNat 0),[]⟩else .fail
     | _=> .fail
    | _=> .fail
   | _=> .fail) .fail
  | _=> .fail
def QW(t:Nat)(x ix:AVal):Q Eff:=
 ty E t λi=>match i.tag,x with
  | .string,.one (.v .str s)=>wI ix λ_ n=> .ite (decide (0<=n)) (.opt s.data.toList[n.toNat]? λb=> .ret ⟨.one (.v (.int .u8) (b.toNat:Int)),[]⟩) .fail
  | _,_=> .fail
def LY(i:TyI):List Leaf->List (Nat×AVal)->Q (List Leaf)
 | ls,[]=> .ret ls
 | ls,(f,x)::r=>match i.fields[f]? with
  | some (o,u)=>ty E u λj=>eY x λnew=>if new.length=j.size/\o+new.length<=ls.length then LY i (DA ls o new) r else .fail
  | none=> .fail
def KK(t:Nat)(parts:List (Nat×AVal)):Q Eff:=
 ty E t λi=>match i.tag with
  | .struct=>(LY E i (i.kinds.map uU) parts).bind λls=> .ret ⟨.agg ls,[]⟩
  | _=> .fail
/-- The parts of a literal, all there and in order. -/
def v8:Nat->List (Nat×AVal)->Option (List (List Leaf))
 | _,[]=>some []
 | n,(i,x)::r=>bif Nat.beq i n then x.leaves.bind λl=>(v8 (n+1) r).bind λls=>some (l::ls)else none
def y4(d:Nat)(t len:Nat)(parts:List (Nat×AVal)):Q Eff:=
 ty E t λi=>match i.tag with
  | .slice=>ty E i.elem λj=>if j.plain then match v8 0 parts with
   | some ls=>if parts.length=len/\len<=1024/\0<j.size/\j.size<=1024 then
     fresh (d*32) ((rowsAt j.kinds ls).bind fun(xs,w,p)=>if j0 (d*32) w then .fail else .ret ⟨.one (.own (d*32)),w++[(d*32,.arr j.kinds xs p true)]⟩)
    else .fail
   | none=> .fail
   else .fail
  | _=> .fail
def BC(d:Nat)(t:Nat)(len cap:AVal):Q Eff:=
 ty E t λi=>match i.tag with
  | .slice=>ty E i.elem λj=>if j.plain then wI len λk n=>wI cap λ_ m=> .ite (decide (0<=n)&&decide (n<=(bound:Int))&&decide (m=n))
    (fresh (d*32) (.ret ⟨.one (.own (d*32)),[(d*32,.arr j.kinds (List.replicate n.toNat (fH j.kinds)) true true)]⟩)) .fail
   else .fail
  | _=> .fail
def tP{α:Type}(n:Nat)(lo hi:Option AVal)(k:Nat->Nat->Q α):Q α:=
 let low (h:Nat):Q α:=match lo with
  | none=>k 0 h
  | some x=>wI x λ_ l=> .ite (decide (0<=l)&&decide (l<=(h:Int))) (k l.toNat h) .fail
 match hi with
 | none=>low n
 | some x=>wI x λ_ h=> .ite (decide (0<=h)&&decide (h<=(n:Int))) (low h.toNat) .fail
def PC(d:Nat)(t:Nat)(x:AVal)(lo hi:Option AVal):Q Eff:=
 ty E t λi=>match i.tag,x with
  | .string,.one (.v .str s)=>tP s.size lo hi λl h=> .ret ⟨.one (.v .str (s.extract l h)),[]⟩
  | .slice,.one (.v (.sl ks) xs)=>ty E i.elem λj=>if ks.length=j.size then tP xs.length lo hi λl h=> .ret ⟨.one (.v (.sl ks) ((xs.take h).drop l)),[]⟩else .fail
  | .slice,.one .nil=>ty E i.elem λj=>tP 0 lo hi λ_ _=> .ret ⟨.one .nil,[]⟩
  | .slice,.one (.own id)=>ty E i.elem λj=> .get id λe=>match e with
   | .arr ks xs deep opn=>if ks.length=j.size then tP xs.length lo hi λl h=>
     if opn&&E.h.cut.contains (d - E.base)then fresh (d*32) (.ret ⟨.one (.own (d*32)),[(id,.dead),(d*32,.arr ks ((xs.take h).drop l) deep true)]⟩)
     else if E.h.cut.contains (d - E.base+1000000)then .ret ⟨.one (.vw id l h),[]⟩
     else .ret ⟨.one (.v (.sl ks) ((xs.take h).drop l)),[(id,.arr ks xs deep false)]⟩
    else .fail
   | _=> .fail
  | _,_=> .fail
def fE(s:ByteArray):List (Row [.int .u8]):=s.data.toList.map λb=>((b.toNat:Int),())
def cQ(xs:List (Row [.int .u8])):ByteArray:=⟨(xs.map λr=>UInt8.ofNat (Int.toNat r.1)).toArray⟩
def HW(d:Nat)(src dst:Nat)(x:AVal):Q Eff:=
 ty E src λi=>ty E dst λj=>match i.tag,j.tag,x with
  | .int _,.int k,.one (.v (.int _) n)=> .ret ⟨.one (.v (.int k) (k.wrap n)),[]⟩
  | .string,.slice,.one (.v .str s)=>ty E j.elem λe=>match e.tag with
   | .int .u8=>fresh (d*32) (.ret ⟨.one (.own (d*32)),[(d*32,.arr [.int .u8] (fE s) true true)]⟩)
   | _=> .fail
  | .slice,.slice,.one (.own id)=>ty E j.elem λe=>match e.tag with
   | .int .u8=>if src=dst then .get id λen=>match en with
    | .arr ks xs true true=> .ite (decide (0<List.length xs)) (.ret ⟨.one (.own id),[(id,.arr ks xs true true)]⟩) .fail
    | _=> .fail else .fail
   | _=> .fail
  | .slice,.string,x=>ty E i.elem λe=>match e.tag with
   | .int .u8=>elems [.int .u8] x λxs=> .ret ⟨.one (.v .str (cQ xs)),[]⟩
   | _=> .fail
  | _,_,_=> .fail
def QU(op:BinOp)(k:IntKind)(a b:Int):Q AVal:=
 match op with
 | .add=> .ret (.one (.v (.int k) (k.wrap (a+b))))
 | .sub=> .ret (.one (.v (.int k) (k.wrap (a - b))))
 | .mul=> .ret (.one (.v (.int k) (k.wrap (a*b))))
 | .quo=> .ite (decide (b=0)) .fail (.ret (.one (.v (.int k) (k.wrap (a.tdiv b)))))
 | .rem=> .ite (decide (b=0)) .fail (.ret (.one (.v (.int k) (a.tmod b))))
 | .and=> .ret (.one (.v (.int k) (k.wrap (BitVec.ofInt k.bits a&&& BitVec.ofInt k.bits b).toNat)))
 | .or=> .ret (.one (.v (.int k) (k.wrap (BitVec.ofInt k.bits a||| BitVec.ofInt k.bits b).toNat)))
 | .xor=> .ret (.one (.v (.int k) (k.wrap (BitVec.ofInt k.bits a ^^^ BitVec.ofInt k.bits b).toNat)))
 | .eql=> .ret (iA (a==b))
 | .neq=> .ret (iA (a != b))
 | .lss=> .ret (iA (decide (a<b)))
 | .leq=> .ret (iA (decide (a<=b)))
 | .gtr=> .ret (iA (decide (a>b)))
 | .geq=> .ret (iA (decide (a>=b)))
 | _=> .fail
def UV(op:BinOp)(j:IntKind)(a b:Int):Q AVal:=
 match op with
 | .shl=> .ite (decide (b<0)) .fail (.ret (.one (.v (.int j) (j.wrap (a*2 ^ (min b.toNat j.bits))))))
 | _=> .ite (decide (b<0)) .fail (.ret (.one (.v (.int j) (a.fdiv (2 ^ (min b.toNat j.bits))))))
def V4(k:IntKind)(n:Int):AVal:= .one (.v (.int k) (k.wrap (0 - n)))
def mxI(mx:Bool)(a b:Int):Int:=if mx then(if b>a then b else a)else(if b<a then b else a)
def O9(op:BinOp)(a b:ByteArray):Q AVal:=
 match op with
 | .add=> .ite (decide (a.size+b.size<=bound)) (.ret (.one (.v .str (a++b)))) .fail
 | .eql=> .ret (iA (a.toList==b.toList))
 | .neq=> .ret (iA (!(a.toList==b.toList)))
 | .lss=> .ret (iA (Op.bytesLess a.toList b.toList))
 | .leq=> .ret (iA (Op.bytesLess a.toList b.toList||a.toList==b.toList))
 | .gtr=> .ret (iA (!(Op.bytesLess a.toList b.toList||a.toList==b.toList)))
 | .geq=> .ret (iA (!Op.bytesLess a.toList b.toList))
 | _=> .fail
def JJ:Tag->Leaf->Leaf->Option Bool
 | .int _,.v (.int j) a,.v (.int k) b=>if j=k then some (gW a b)else none
 | .bool,.v .bool a,.v .bool b=>some (nD a b)
 | .string,.v .str a,.v .str b=>some (RZ a b)
 | _,_,_=>none
def QL:Tag->List Leaf->List Leaf->Option Bool
 | tag,[l],[l']=>JJ tag l l'
 | _,_,_=>none
def VZ(ls:List Leaf)(o n:Nat):List Leaf:=(ls.drop o).take n
def TS(f:Nat->List Leaf->List Leaf->Option Bool):List (Nat×Nat)->List Leaf->List Leaf->Option Bool
 | [],_,_=>some true
 | (o,u)::r,ls,ls'=>match E.ti u with
  | some j=>if o+j.size<=ls.length/\o+j.size<=ls'.length then
    (f u (VZ ls o j.size) (VZ ls' o j.size)).bind λp=>(TS f r ls ls').bind λq=>some (p&&q)else none
  | none=>none
/-- Structs of plain cells (numbers, bools, strings), however nested, are compared field by field. -/
def N4:Nat->Nat->List Leaf->List Leaf->Option Bool
 | 0,_,_,_=>none
 | d+1,t,ls,ls'=>match E.ti t with
  | some i=>match i.tag with
   | .struct=>TS E (N4 d) i.fields ls ls'
   | .int _ | .bool | .string=>QL i.tag ls ls'
   | _=>none
  | none=>none
def VM(op:BinOp)(t:Nat)(x y:AVal):Q AVal:=
 match x,y with
 | .one (.v (.int j) a),.one (.v (.int k) b)=>
  match op with
  | .shl | .shr=>UV op j a b
  | _=>if j=k then QU op j a b else .fail
 | .one (.v .str a),.one (.v .str b)=>O9 op a b
 | .one (.v .bool a),.one (.v .bool b)=>ty E t λi=>match i.tag,op with
  | .bool,.eql=> .ret (iA (nD a b))
  | .bool,.neq=> .ret (iA (!(nD a b)))
  | _,_=> .fail
 | .agg as,.agg bs=>ty E t λi=>match i.tag,N4 E 8 t as bs,op with
  | .struct,some r,.eql=> .ret (iA r)
  | .struct,some r,.neq=> .ret (iA (!r))
  | _,_,_=> .fail
 | _,_=> .fail
def unQ(op:UnOp)(x:AVal):Q AVal:=
 match op,x with
 | .not,.one (.v .bool b)=> .ret (iA (!b))
 | .neg,.one (.v (.int k) n)=> .ret (V4 k n)
 | _,_=> .fail
/-- What is appended. -/
def UU(ks:List Kd)(tag:Tag)(y:AVal):Q (List (Row ks)×List (Nat×Ent)×Bool):=
 match tag,y with
 | .string,.one (.v .str s)=> .opt (tX [.int .u8] ks (fE s)) λys=> .ret (ys,[],true)
 | .slice,.one .nil=> .ret ([],[],true)
 | .slice,.one (.v (.sl ks') ys)=> .opt (tX ks' ks ys) λys=> .ret (ys,[], !cP ks)
 | .slice,.one (.own id)=> .get id λe=>match e with
  | .arr ks' ys deep opn=> .opt (tX ks' ks ys) λys'=>
    .ret (ys',if cP ks then[(id,.arr ks' ys deep false)] else[],if cP ks then deep&&opn else true)
  | _=> .fail
 | .slice,.one (.vw id l h)=>if cP ks then .fail else .get id λe=>match e with
  | .arr ks' ys _ _=> .opt (tX ks' ks ys) λys'=> .ret ((ys'.take h).drop l,[],true)
  | _=> .fail
 | _,_=> .fail
/-- An append: the base is handed over. -/
def H3(d:Nat)(t u:Nat)(x y:AVal):Q Eff:=
 ty E t λi=>ty E u λi2=>match i.tag with
  | .slice=>ty E i.elem λj=>if j.plain then
    (UU j.kinds i2.tag y).bind fun(ys,w,p)=>fresh (d*32) (if j0 (d*32) w then .fail else match x with
     | .one .nil=> .ite (decide (ys.length<=bound)) (.ret ⟨.one (.own (d*32)),w++[(d*32,.arr j.kinds ys p true)]⟩) .fail
     | .one (.own b)=>if j0 b w then .fail else .get b λe=>match e with
      | .arr ks xs deep true=> .opt (tX ks j.kinds xs) λxs'=> .ite (decide (xs'.length+ys.length<=bound))
        (.ret ⟨.one (.own (d*32)),w++[(b,.dead),(d*32,.arr j.kinds (xs'++ys) (deep&&p) true)]⟩) .fail
      | _=> .fail
     | _=> .fail)
   else .fail
  | _=> .fail
/-- A part of a row of one's own behind an earlier part of it: the row itself gets shorter. -/
def L3(d:Nat)(t u id l h:Nat)(y:AVal):Q Eff:=
 ty E t λi=>ty E u λi2=>match i.tag,i2.tag,y with
  | .slice,.slice,.one (.vw id' l' h')=>if Nat.beq id' id&&Nat.beq l 0 then ty E i.elem λj=>if j.plain then
    fresh (d*32) (.get id λe=>match e with
     | .arr ks xs true true=> .opt (tX ks j.kinds xs) λxs'=> .ite (decide (h<=l')&&(decide (l'<=xs'.length)&&(decide (h'=xs'.length)&&decide (xs'.length<=bound))))
       (.ret ⟨.one (.own (d*32)),[(id,.dead),(d*32,.arr j.kinds (xs'.take h++xs'.drop l') true true)]⟩) .fail
     | _=> .fail)
    else .fail
   else .fail
  | _,_,_=> .fail
def FV(d:Nat)(t u:Nat)(x y:AVal):Q Eff:=
 match x with
 | .one (.vw id l h)=>L3 E d t u id l h y
 | _=>H3 E d t u x y
def JG(x:AVal):Q Eff:=
 match x with
 | .one (.v .str s)=> .ret ⟨BM (ByteArray.size s),[]⟩
 | _=> .fail
def U9(x:AVal):Q Eff:=
 match x with
 | .one .nil=> .ret ⟨BM 0,[]⟩
 | .one (.v (.sl _) xs)=> .ret ⟨BM xs.length,[]⟩
 | .one (.own id)=> .get id λe=>match e with
  | .arr _ xs _ _=> .ret ⟨BM xs.length,[]⟩
  | .pin _ xs=> .ret ⟨BM xs.length,[]⟩
  | _=> .fail
 | .one (.hdr n)=> .ret ⟨BM n,[]⟩
 | .one (.psl id p off)=> .get id λe=>match e with
  | .pin ks xs=> .opt (at? xs p) λr=>match ks[off]? with
   | some (.sl ks')=> .opt (kH ks r off (.sl ks')) λys=> .ret ⟨BM (List.length ys),[]⟩
   | _=> .fail
  | _=> .fail
 | _=> .fail
def QE(mx:Bool):AVal->List AVal->Q Eff
 | x,[]=> .ret ⟨x,[]⟩
 | .one (.v (.int k) a),.one (.v (.int _) b)::r=>QE mx (.one (.v (.int k) (mxI mx a b))) r
 | _,_=> .fail
def H1(d:Nat)(b:Builtin)(ts:List Nat)(xs:List AVal):Q Eff:=
 match b,xs with
 | .len,[x]=>match ts with
  | [t]=>ty E t λi=>match i.tag with
   | .string=>JG x
   | .slice=>U9 x
   | _=> .fail
  | _=> .fail
 | .append,[x,y]=>match ts with
  | [t,u]=>FV E d t u x y
  | _=> .fail
 | .max,x::r=>QE true x r
 | .min,x::r=>QE false x r
 | _,_=> .fail
/-- The arguments by value; the entries that they take in, each closed; the variables behind pointers. -/
def y6:List Nat->List AVal->Q (List Arg×List (Nat×Ent)×List (Nat×List Kd))
 | [],[]=> .ret ([],[],[])
 | t::ts,x::xs=>ty E t λi=>match i.tag with
  | .ptr=>match x with
   | .one (.ptr id 0)=> .get id λe=>match e with
    | .var ls=>ty E i.elem λj=>(rowAt j.kinds ls).bind fun(r,w,_)=>(y6 ts xs).bind fun(as,w',ps)=>
      if ps.any (λp=>Nat.beq p.1 id)then .fail else .ret (.ref ⟨j.kinds,r⟩::as,w++w',(id,j.kinds)::ps)
    | _=> .fail
   | _=> .fail
  | _=>eY x λls=>(rowAt i.kinds ls).bind fun(r,w,_)=>(y6 ts xs).bind fun(as,w',ps)=> .ret (.val x.isAgg ⟨i.kinds,r⟩::as,w++w',ps)
 | _,_=> .fail
/-- A result's leaves; where it is all its own, its slices become entries. -/
def gX(fr:Bool):(id:Nat)->(ks:List Kd)->Row ks->List Leaf×List (Nat×Ent)
 | _,[],_=>([],[])
 | id,.sl ks::r,x=>let (ls,w):=gX fr (id+1) r x.2
  if fr then(.own id::ls,(id,.arr ks x.1 true true)::w)else(.v (.sl ks) x.1::ls,w)
 | id,k::r,x=>let (ls,w):=gX fr (id+1) r x.2;(.v k x.1::ls,w)
/-- Rows of known kinds. -/
def Rows:List (List Kd)->Type
 | []=>Unit
 | ks::r=>Row ks×Rows r
def f7:(kss:List (List Kd))->List CRow->Option (Rows kss)
 | [],[]=>some ()
 | ks::r,c::cs=>(nR c.ks ks c.row).bind λx=>(f7 r cs).bind λxs=>some (x,xs)
 | _,_=>none
def dE(rks pks:List (List Kd))(o:Out):Option (Rows rks×Rows pks):=
 (f7 rks o.res).bind λx=>(f7 pks o.refs).bind λy=>some (x,y)
def lY(fr:Bool):(id:Nat)->(ts:List (Bool×List Kd))->Rows (ts.map (·.2))->Option (List AVal×List (Nat×Ent))
  | _,[],_=>some ([],[])
  | id,(agg,ks)::ts,x=>
    (let (ls,w):=gX fr id ks x.1
     (rH agg ls).bind λv=>(lY fr (id+ks.length) ts x.2).bind fun(vs,w')=>some (v::vs,w++w'))
def lK:(ps:List (Nat×List Kd))->Rows (ps.map (·.2))->List (Nat×Ent)
 | [],_=>[]
 | (id,ks)::ps,x=>(id,.var (gX false 0 ks x.1).1)::lK ps x.2
def pB{α:Type}:List (Nat×Ent)->Q α->Q α
 | [],k=>k
 | (id,_)::r,k=>fresh id (pB r k)
def dI:List Nat->Option (List (Bool×List Kd))
 | []=>some []
 | t::ts=>(E.ti t).bind λi=>(dI ts).bind λr=>some ((i.agg,i.kinds)::r)
def RV(d:Nat)(rts:Nat->Option (List Nat))(g:Nat)(ts:List Nat)(xs:List AVal):Q Eff:=
 match (rts g).bind (dI E)with
 | none=> .fail
 | some rt=>(y6 E ts xs).bind fun(as,w,ps)=> .opt ((E.call g as).bind (dE (rt.map (·.2)) (ps.map (·.2)))) λo=>
   match lY (E.fresh g) (d*32) rt o.1 with
   | some (vs,w2)=>
    if ps.any (λp=>j0 p.1 w||j0 p.1 w2)then .fail else
    pB w2 (.ret ⟨match vs with | [v]=>v | _=> .tup vs,(if E.fresh g&&ps.isEmpty then[] else w)++lK ps o.2++w2⟩)
   | _=> .fail
/-- Where a slice that is handed over for writing lies. -/
inductive Pth where
 | top (id:Nat)
 | sub (id i off:Nat)
def pinAt(own:Bool)(k:Kd)(l:Leaf):Q (k.T×Option Pth):=
 match l with
 | .v k' x=>if own&& !j7 k then .fail else .opt (kR k' k x) λy=> .ret (y,none)
 | .nil=>match k with
  | .sl _=> .ret ([],none)
  | _=> .fail
 | .own id=>match k with
  | .sl ks=> .get id λe=>match e with
   | .pin ks' xs=> .opt (kR (.sl ks') (.sl ks) xs) λy=> .ret (y,some (.top id))
   | .arr ks' xs _ _=>if own then .fail else .opt (kR (.sl ks') (.sl ks) xs) λy=> .ret (y,none)
   | _=> .fail
  | _=> .fail
 | .psl id i off=>match k with
  | .sl ks=> .get id λe=>match e with
   | .pin ks' xs=> .opt (at? xs i) λr=> .opt (kH ks' r off (.sl ks)) λy=> .ret (y,some (.sub id i off))
   | _=> .fail
  | _=> .fail
 | _=> .fail
def pinRow(own:Bool):(ks:List Kd)->List Leaf->Q (Row ks×List (Option Pth))
 | [],[]=> .ret ((),[])
 | k::ks,l::ls=>(pinAt own k l).bind fun(x,p)=>(pinRow own ks ls).bind fun(r,ps)=> .ret ((x,r),p::ps)
 | _,_=> .fail
/-- The arguments by value; those that hold slices are handed over for writing. -/
def s8(own:Bool):List Nat->List AVal->Q (List Arg×List (List Kd×List (Option Pth)))
 | [],[]=> .ret ([],[])
 | t::ts,x::xs=>ty E t λi=>eY x λls=>(pinRow own i.kinds ls).bind fun(r,p)=>(s8 own ts xs).bind fun(as,ps)=>
   if own&&cP i.kinds then .ret (.own x.isAgg ⟨i.kinds,r⟩::as,(i.kinds,p)::ps)else .ret (.val x.isAgg ⟨i.kinds,r⟩::as,ps)
 | _,_=> .fail
def nL:(ks:List Kd)->Row ks->List (Option Pth)->Q (List (Nat×Ent))
 | [],_,[]=> .ret []
 | .sl ks'::ks,r,some (.top id)::ps=>(nL ks r.2 ps).bind λw=> .ret ((id,.pin ks' r.1)::w)
 | .sl ks'::ks,r,some (.sub id i off)::ps=> .get id λe=>match e with
  | .pin ks0 xs=> .opt (at? xs i) λr0=> .opt (hO ks0 r0 off (.sl ks') r.1) λr1=>(nL ks r.2 ps).bind λw=> .ret ((id,.pin ks0 (xs.set i r1))::w)
  | _=> .fail
 | _::ks,r,none::ps=>nL ks r.2 ps
 | _,_,_=> .fail
def CV:(ps:List (List Kd×List (Option Pth)))->Rows (ps.map (·.1))->Q (List (Nat×Ent))
 | [],_=> .ret []
 | (ks,p)::ps,x=>(nL ks x.1 p).bind λw=>(CV ps x.2).bind λw'=> .ret (w++w')
def kI:List (Nat×Ent)->Bool
 | []=>true
 | (i,_)::r=> !j0 i r&&kI r
def toPin(p:Nat×Ent):Nat×Ent:=(p.1,match p.2 with | .arr ks xs _ _=> .pin ks xs | e=>e)
def y9(vs:List AVal):AVal:=match vs with | [v]=>v | _=> .tup vs
def EE(p:Nat×Ent):Nat×Ent:=(p.1,match p.2 with | .arr ks xs _ _=> .arr ks xs false true | e=>e)
/-- A call whose results' slices are its own, but not what lies behind their cells. -/
def KE(d:Nat)(rts:Nat->Option (List Nat))(g:Nat)(ts:List Nat)(xs:List AVal):Q Eff:=
 match (rts g).bind (dI E)with
 | none=> .fail
 | some rt=>(y6 E ts xs).bind fun(as,w,ps)=>if ps.isEmpty then .opt ((E.call g as).bind (dE (rt.map (·.2)) [])) λo=>
   match lY true (d*32) rt o.1 with
   | some (vs,w2)=>pB w2 (.ret ⟨y9 vs,w++w2.map EE⟩)
   | none=> .fail
  else .fail
def noOwn:List Arg->Bool
 | []=>true
 | .own _ _::_=>false
 | _::as=>noOwn as
/-- A call where slices are pinned: the callee hands back memory that is all its own. -/
def KG(d:Nat)(rts:Nat->Option (List Nat))(g:Nat)(ts:List Nat)(xs:List AVal):Q Eff:=
 match (rts g).bind (dI E)with
 | none=> .fail
 | some rt=>if E.fresh g then(if E.owns g then
   (s8 E true ts xs).bind fun(as,ps)=> .opt ((E.call g as).bind (dE (rt.map (·.2)) (ps.map (·.1)))) λo=>
    if noOwn as then .fail else match lY false (d*32) rt o.1 with
    | some (vs,_)=>(CV ps o.2).bind λw=>if kI w then .ret ⟨y9 vs,w⟩else .fail
    | none=> .fail
  else(s8 E false ts xs).bind fun(as,_)=> .opt ((E.call g as).bind (dE (rt.map (·.2)) [])) λo=>
    match lY true (d*32) rt o.1 with
    | some (vs,w2)=>pB w2 (.ret ⟨y9 vs,w2.map toPin⟩)
    | none=> .fail)else .fail
/-- A call whose results are all its own; some of them come in as pinned. -/
def KI(d:Nat)(sl:List Nat)(rts:Nat->Option (List Nat))(g:Nat)(ts:List Nat)(xs:List AVal):Q Eff:=
 match (rts g).bind (dI E)with
 | none=> .fail
 | some rt=>if E.fresh g then(s8 E false ts xs).bind fun(as,_)=> .opt ((E.call g as).bind (dE (rt.map (·.2)) [])) λo=>
   match lY true (d*32) rt o.1 with
   | some (vs,w2)=>if w2.all (λp=>wA p.1)then pB w2 (.ret ⟨y9 vs,w2.map toPin++w2.filter λp=> !iC (p.1 - d*32) sl⟩)else .fail
   | none=> .fail
  else .fail
end ops
end Go.Abs
/- Definitions, second part: steps, regions, code, functions. -/
namespace Go.Abs
section run
variable (E:Env) (rts:Nat->Option (List Nat))

def look?{α:Type}(i:Nat):List (Nat×α)->Option α
 | []=>none
 | (j,x)::r=>bif Nat.beq i j then some x else look? i r
/-- With the base told as it is, whatever else the surroundings hold: what is made of it holds no variable. -/
def OV{α:Type 1}(E:Env)(k:Nat->α):α:=match E with
 | ⟨_,_,_,_,_,_,b⟩=>k b
def opD(d:Nat)(o:Oper)(ev:Operand->AVal):Q Eff:=
 match o.op with
 | .move x | .assign x=> .ret ⟨ev x,[]⟩
 | .pick c a b=>asBool (ev c) λt=> .ite t (.ret ⟨ev a,[]⟩) (.ret ⟨ev b,[]⟩)
 | .alloc t=>ty E t λi=>if i.plain then fresh (d*32) (.ret ⟨.one (.ptr (d*32) 0),[(d*32,.var (i.kinds.map uU))]⟩)else .fail
 | .box t x=>ty E t λi=>eY (ev x) λls=>fresh (d*32) (.ret ⟨.one (.ptr (d*32) 0),[(d*32,.var ls)]⟩)
 | .build t ps=>KK E t (ps.toList.map λp=>(p.1,ev p.2))
 | .buildSlice t n ps=>y4 E d t n (ps.toList.map λp=>(p.1,ev p.2))
 | .load t a=>ty E t λi=>DL i (ev a)
 | .store t a x=>ty E t λi=>IM i (ev a) (ev x)
 | .nilCheck x=>match ev x with
  | .one (.ptr id off)=> .ret ⟨.one (.ptr id off),[]⟩
  | .one (.eptr id j off)=> .ret ⟨.one (.eptr id j off),[]⟩
  | .one (.pptr id p off wd j q)=> .ret ⟨.one (.pptr id p off wd j q),[]⟩
  | .one (.rptr ks r off)=> .ret ⟨.one (.rptr ks r off),[]⟩
  | _=> .fail
 | .binOp op t x y _=>(VM E op t (ev x) (ev y)).bind λv=> .ret ⟨v,[]⟩
 | .unOp op _ x=>(unQ op (ev x)).bind λv=> .ret ⟨v,[]⟩
 | .convert s t x=>HW E d s t (ev x)
 | .makeSlice t l c=>BC E d t (ev l) (ev c)
 | .slice t x lo hi mx=>if mx.isSome then .fail else PC E d t (ev x) (lo.map ev) (hi.map ev)
 | .fieldAddr t x f=>BZ E t (ev x) f
 | .field t x f=>RD E t (ev x) f
 | .indexAddr t x ix=>BN E t (ev x) (ev ix)
 | .index t x ix=>QW E t (ev x) (ev ix)
 | .extract t n=>match ev t with
  | .tup vs=>match vs[n]? with
   | some v=> .ret ⟨v,[]⟩
   | none=> .fail
  | _=> .fail
 | .call c=>match c.callee with
  | .builtin b=>H1 E d b c.argTypes.toList (c.args.toList.map ev)
  | .value f=>match ev f with
   | .one (.v .fn g)=>match look? (o.dst.getD 99999) E.h.adp with
    | some sl=>KI E d sl rts g c.argTypes.toList (c.args.toList.map ev)
    | none=>if E.h.pin&& !iC (o.dst.getD 99999) E.h.unp then KG E d rts g c.argTypes.toList (c.args.toList.map ev)else if E.fresh (Nat.add g 1000000)then RV E d rts g c.argTypes.toList (c.args.toList.map ev)else KE E d rts g c.argTypes.toList (c.args.toList.map ev)
   | _=> .fail
  | _=> .fail
 | _=> .fail
def opR(o:Oper)(ev:Operand->AVal):Q Eff:=OV E λb=>opD E rts (b+o.dst.getD 99999) o ev
theorem I3(o:Oper)(ev:Operand->AVal):opR E rts o ev=opD E rts (E.base+o.dst.getD 99999) o ev:=rfl
def LG(o:Oper)(ev:Operand->AVal):List Nat:=o.op.operands.toList.flatMap λx=>LT (ev x)
def opQ(o:Oper)(ev:Operand->AVal):Q Eff:=bif iC (o.dst.getD 99999) E.h.unp then KR (LG o ev) (opR E rts o ev)else opR E rts o ev
abbrev mC:=List Nat×List (Nat×Ent)
variable {ρ:Type}

def y2(o:Oper):Bool:=match o.dst with
 | some d=>Nat.blt d E.n
 | none=>true
def t7(l:List Oper)(o:Oper)(s:St)(K:St->mC->Option ρ):Option ρ:=
 let exec (s:St):=(opQ E rts o s.eval).run s.m (λe tr=>K ((s.sets e.wr).put o.dst e.v) (tr,e.wr)) []
 let skip (s:St):=K (s.put o.dst .undef) ([],[])
 bif !y2 E o then none else match o.guard with
 | none=>exec s
 | some (j,want)=>match (l[j]?).bind (·.dst)with
  | some d=>match s.t d with
   | .one (.v .bool b)=>bif b then(if want then exec (s.put (some d) (iA true))else skip (s.put (some d) (iA true)))
     else(if want then skip (s.put (some d) (iA false))else exec (s.put (some d) (iA false)))
   | .undef=>skip s
   | _=>none
  | none=>none
/-- How a function is run in place: its number, the base of its names, its hints, its arguments, the state; and what goes on with its result. -/
abbrev nI:=(ρ:Type)->Nat->Nat->Hints->List AVal->St->(AVal->St->Option ρ)->Option ρ
def VE(o:Oper)(g:Nat):Nat:=match o.dst with
 | some d=>d
 | none=>100000+g
/-- Whether a call is to be run in place. -/
def QV(s:St)(o:Oper):Option (Nat×List AVal×Nat×Norm×Hints):=
 match E.h.inl with
 | []=>none
 | x::r=>match o.guard,o.op with
  | none,.call c=>match c.callee with
   | .value f=>match s.eval f with
    | .one (.v .fn g)=>(look? (VE o g) (x::r)).map λi=>(g,c.args.toList.map s.eval,i)
    | _=>none
   | _=>none
  | _,_=>none
def pW(l:List Oper):List Oper->St->List mC->(St->List mC->Option ρ)->Option ρ
 | [],s,acc,K=>K s acc.reverse
 | o::r,s,acc,K=>t7 E rts l o s λs' tr=>pW l r s' (tr::acc) K

/-- What each operation comes behind, by the edges that bind. -/
def fP:List Oper->List (List Nat)->List (List Nat)
 | [],acc=>acc
 | o::r,acc=>
  let es:=o.after.toList.filterMap λe=>if Region.binds .any e then some e.on else none
  fP r (acc++[es.foldl (λs j=>(j::(acc[j]?).getD []).foldl (λs x=>if iC x s then s else x::s) s) []])
def wM(l:List Oper)(o:Oper):List Nat:=
 (o.op.operands.toList.filterMap fun | .tmp t=>some t | _=>none)++(match o.guard with | some (j,_)=>((l[j]?).bind (·.dst)).toList | none=>[])
def E7(xs ys:List Nat):Bool:=xs.all λx=> !iC x ys
def nW(l:List Oper)(x y:Oper)(tx ty:mC):Bool:=
 (match x.dst with | some d=> !iC d (wM l y)&&(match y.dst with | some d'=> !Nat.beq d d' | none=>true) | none=>true)&&
 (match y.dst with | some d=> !iC d (wM l x) | none=>true)&&
 E7 (tx.2.map (·.1)) ty.1&&E7 (ty.2.map (·.1)) tx.1&&E7 (tx.2.map (·.1)) (ty.2.map (·.1))
def zL(l:List Oper):Nat->List (Oper×mC×List Nat)->List (Oper×mC)->Bool
 | _,[],_=>true
 | k,(o,tr,bs)::r,seen=>(o.after.toList.all λe=> !Region.binds .any e||Nat.blt e.on k)&&(seen.zipIdx.all fun((o',tr'),i)=>iC i bs||nW l o' o tr' tr)&&zL l (k+1) r (seen++[(o,tr)])
def E5(l:List Oper)(trs:List mC):Bool:=zL l 0 (l.zip (trs.zip (fP l []))) []

inductive Ex where
 | normal | exit (id:Nat) | ret

def qV:Code->Option Nat
 | .region id _ _=>some id
 | .seq a b=>match qV a with
  | some i=>some i
  | none=>qV b
 | .cond _ a b=>match qV a with
  | some i=>some i
  | none=>qV b
 | .block _ c=>qV c
 | .loop c=>qV c
 | _=>none

def inK(lo:Nat)(ids:List Nat)(i:Nat):Bool:=iC i ids||(Nat.blt i lo||Nat.ble (lo+100000) i)
def uO(p:Nat->Bool):Leaf->Leaf
 | .own i=>bif p i then .own i else .any
 | .ptr i o=>bif p i then .ptr i o else .any
 | .eptr i j o=>bif p i then .eptr i j o else .any
 | .psl i j o=>bif p i then .psl i j o else .any
 | .pptr i q f d j o=>bif p i then .pptr i q f d j o else .any
 | .vw i l h=>bif p i then .vw i l h else .any
 | l=>l
def FO(p:Nat->Bool):AVal->AVal
 | .one l=> .one (uO p l)
 | .agg ls=> .agg (ls.map (uO p))
 | .tup _=> .anyv
 | v=>v
def FP(p:Nat->Bool):AVal->AVal
 | .tup vs=> .tup (vs.map (FO p))
 | v=>FO p v
def xI(p:Nat->Bool):Ent->Ent
 | .var ls=> .var (ls.map (uO p))
 | e=>e
def pA(p:Nat->Bool)(temps:List Nat)(s:St):St:=
 { tm:=temps.map λt=>(t,FP p (s.t t)),mem:=(s.mem.filter λq=>p q.1).map λq=>(q.1,xI p q.2) }
def NU(x:Nat×Ent):List (Nat×Ent)->List (Nat×Ent)
 | []=>[x]
 | y::r=>bif Nat.ble x.1 y.1 then x::y::r else y::NU x r
/-- Entries in the order of their names. -/
def F9:List (Nat×Ent)->List (Nat×Ent)
 | []=>[]
 | x::r=>NU x (F9 r)
theorem DH(i:Nat)(x:Nat×Ent):∀ l,gC .none i (NU x l)=gC .none i (x::l)
 | []=>rfl
 | y::r=>by
  unfold NU
  cases h:Nat.ble x.1 y.1 with
  | true=>rfl
  | false=>
   have ih:=DH i x r
   have hlt:y.1<x.1:=by
    rcases Nat.lt_or_ge y.1 x.1 with h' | h'
    ·omega
    ·rw[Nat.ble_eq_true_of_le h'] at h;grind
   show(bif Nat.beq i y.1 then y.2 else gC .none i (NU x r))=bif Nat.beq i x.1 then x.2 else bif Nat.beq i y.1 then y.2 else gC .none i r
   rw[ih]
   show(bif Nat.beq i y.1 then y.2 else bif Nat.beq i x.1 then x.2 else gC .none i r)=_
   cases h1:Nat.beq i y.1 with
   | false=>rfl
   | true=>
    cases h2:Nat.beq i x.1 with
    | false=>rfl
    | true=>simp_all
theorem BE(i:Nat):∀ l,gC .none i (F9 l)=gC .none i l
 | []=>rfl
 | x::r=>by
  show gC .none i (NU x (F9 r))=_
  rw[DH]
  show(bif Nat.beq i x.1 then x.2 else gC .none i (F9 r))=bif Nat.beq i x.1 then x.2 else gC .none i r
  rw[BE i r]
def keep(lo:Nat)(h:Norm)(s:St):St:=⟨(pA (inK lo h.ids) h.temps s).tm,F9 (pA (inK lo h.ids) h.temps s).mem⟩
theorem VC(lo:Nat)(h:Norm)(s:St):(keep lo h s).m=(pA (inK lo h.ids) h.temps s).m:=funext λi=>BE i _
theorem VB(lo:Nat)(h:Norm)(s:St):(keep lo h s).t=(pA (inK lo h.ids) h.temps s).t:=rfl
def holds(s:St)(i:Nat):Option Nat->Nat->Bool
 | none,t=>match s.t t with
  | .one (.own j)=>Nat.beq j i
  | _=>false
 | some v,c=>match s.m v with
  | .var ls=>match ls[c]? with
   | some (.own j)=>Nat.beq j i
   | _=>false
  | _=>false
/-- A name that a move is about to give again, and that its place does not hold. -/
def UA(s:St)(i:Nat):List (Option Nat×Nat×Nat×Nat)->Bool
 | []=>false
 | (v,c,nid,_)::r=>(Nat.beq i nid&& !holds s i v c)||UA s i r
def UK(lo:Nat)(h:Norm)(s:St)(i:Nat):Bool:=(Nat.blt i lo||Nat.ble (lo+100000) i)||match s.m i with | .none=>false | .dead=>false | _=> !UA s i h.moves
def UR(lo:Nat)(h:Norm)(s:St):St:=pA (UK lo h s) h.temps s
def setL:List Leaf->Nat->Leaf->List Leaf
 | [],_,_=>[]
 | _::r,0,l=>l::r
 | x::r,n+1,l=>x::setL r n l
/-- A slice gets a name of its own at a loop's head; a nil one becomes an entry without elements. -/
def sM(ti:Ti)(l:Leaf)(nid t:Nat)(s:St):Option (Leaf×List (Nat×Ent)):=
 bif Nat.beq nid 0 then(match l with
 | .own id=>match s.m id with
  | .arr ks xs deep _=>some (.v (.sl ks) xs,[(id,.arr ks xs deep false)])
  | _=>none
 | .nil=>match ti t with
  | some i=>some (.v (.sl i.kinds) ([]:List (Row i.kinds)),[])
  | none=>none
 | .v k x=>some (.v k x,[])
 | _=>none)else bif Nat.beq nid 1 then(match l with
 | .own id=>match s.m id with
  | .arr ks xs _ opn=>some (.own id,[(id,.arr ks xs false opn)])
  | _=>none
 | .nil=>some (.nil,[])
 | .v k x=>some (.v k x,[])
 | _=>none)else bif Nat.beq nid 2 then(match l with
 | .own id=>match s.m id with
  | .arr _ xs _ _=>some (.hdr xs.length,[])
  | _=>none
 | .nil=>some (.hdr 0,[])
 | .hdr n=>some (.hdr n,[])
 | _=>none)else match l with
 | .own id=>bif Nat.beq id nid then some (.own id,[])else match s.m id,s.m nid with
  | .arr ks xs deep true,.none=>some (.own nid,[(id,.dead),(nid,.arr ks xs deep true)])
  | .pin ks xs,.none=>bif wA id&&wA nid then some (.own nid,[(id,.dead),(nid,.pin ks xs)])else none
  | _,_=>none
 | .nil=>match ti t,s.m nid with
  | some i,.none=>some (.own nid,[(nid,.arr i.kinds [] true true)])
  | _,_=>none
 | _=>none
def moves(ti:Ti):List (Option Nat×Nat×Nat×Nat)->St->Option St
 | [],s=>some s
 | (none,t,nid,e)::r,s=>bif Nat.ble 1000000 t then(match s.t (t % 1000000)with
  | .agg ls=>(ls[t / 1000000 - 1]?).bind λl=>(sM ti l nid e s).bind fun(l',w)=>moves ti r ((s.sets w).put (some (t % 1000000)) (.agg (setL ls (t / 1000000 - 1) l')))
  | _=>none)else match s.t t with
  | .one l=>(sM ti l nid e s).bind fun(l',w)=>moves ti r ((s.sets w).put (some t) (.one l'))
  | _=>none
 | (some v,c,nid,e)::r,s=>match s.m v with
  | .var ls=>(ls[c]?).bind λl=>(sM ti l nid e s).bind fun(l',w)=>moves ti r ((s.sets w).sets [(v,.var (setL ls c l'))])
  | _=>none
def vZ(ti:Ti)(lo:Nat)(n:Norm)(s:St):Option St:=(moves ti n.moves (UR lo n s)).bind λs=>some (keep lo n s)
def TD(ti:Ti)(lo:Nat)(h:Hints)(c:Code)(s:St):Option St:=
 match (qV c).bind λi=>look? i h.loops with
 | some n=>vZ ti lo n s
 | none=>none
/-- What is moved ahead of a region. -/
def pre(E:Env)(id:Nat)(s:St):Option St:=match look? id E.h.reg with
 | some ms=>moves E.ti ms s
 | none=>some s
/-- Some of the temps alone. -/
def J7(temps:List Nat)(s:St):St:={ s with tm:=temps.map λt=>(t,s.t t) }
section inl
variable (J:nI)
def pX(l:List Oper):List Oper->St->(St->Option ρ)->Option ρ
 | [],s,K=>K s
 | o::r,s,K=>match QV E s o with
  | none=>t7 E rts l o s λs' _=>pX l r s' K
  | some (g,xs,b,n,h)=>bif y2 E o then J ρ g b h xs (J7 n.temps s) λv s'=>(vZ E.ti (b*32) n (s'.put o.dst v)).bind λs2=>pX l r s2 K else none

def rounds(step:St->(St->Option ρ)->Option ρ):Nat->St->Option ρ
 | 0,_=>none
 | n+1,s=>step s (rounds step n)
def ST(f:St->Option ρ)(K:Ex->St->Option ρ):Ex->St->Option ρ
 | .normal,s=>f s
 | .exit i,s=>K (.exit i) s
 | .ret,s=>K .ret s
def FQ(id:Nat)(K:Ex->St->Option ρ):Ex->St->Option ρ
 | .normal,s=>K .normal s
 | .exit i,s=>bif Nat.beq i id then K .normal s else K (.exit i) s
 | .ret,s=>K .ret s
def tU(c:Code)(rec:St->Option ρ)(K:Ex->St->Option ρ):Ex->St->Option ρ
 | .normal,s=>(TD E.ti (E.base*32) E.h c s).bind rec
 | .exit i,s=>K (.exit i) s
 | .ret,s=>K .ret s
def kG(aA:Nat):Code->St->(Ex->St->Option ρ)->Option ρ
 | .skip,s,K=>K .normal s
 | .region id ops draw,s,K=>(pre E id s).bind λs=>
  bif draw then pW E rts ops.toList ops.toList s [] λs' trs=>bif E5 ops.toList trs then K .normal s' else none
  else pX E rts J ops.toList ops.toList s (K .normal)
 | .seq a b,s,K=>kG aA a s (ST (λs'=>kG aA b s' K) K)
 | .cond c a b,s,K=>match s.eval c with
  | .one (.v .bool t)=>bif t then kG aA a s K else kG aA b s K
  | _=>none
 | .block id c,s,K=>kG aA c s (FQ id K)
 | .loop c,s,K=>(TD E.ti (E.base*32) E.h c s).bind (rounds (λs rec=>kG aA c s (tU E c rec K)) aA)
 | .exit id,s,K=>K (.exit id) s
 | .ret,s,K=>K .ret s
 | _,_,_=>none
/-- The round of the loop that stands at a path. -/
def jR(aA:Nat):List Nat->Code->(Ex->St->Option ρ)->St->(St->Option ρ)->Option ρ
 | [],.loop c,K=>λs rec=>kG E rts J aA c s (tU E c rec K)
 | 0::p,.seq a b,K=>jR aA p a (ST (λs'=>kG E rts J aA b s' K) K)
 | 1::p,.seq _ b,K=>jR aA p b K
 | 0::p,.cond _ a _,K=>jR aA p a K
 | 1::p,.cond _ _ b,K=>jR aA p b K
 | p,.block id c,K=>jR aA p c (FQ id K)
 | _,_,_=>λ_ _=>none
end inl
/-- The body of the loop at a path. -/
def nC:List Nat->Code->Code
 | [],.loop c=>c
 | 0::p,.seq a _=>nC p a
 | 1::p,.seq _ b=>nC p b
 | 0::p,.cond _ a _=>nC p a
 | 1::p,.cond _ _ b=>nC p b
 | p,.block _ c=>nC p c
 | _,c=>c
def iter{σ:Type}(c:(σ->Option ρ)->σ->Option ρ):Nat->σ->Option ρ
 | 0,_=>none
 | n+1,v=>c (iter c n) v
theorem bR {σ:Type} {step:St->(St->Option ρ)->Option ρ} (st:σ->St) (c:(σ->Option ρ)->σ->Option ρ)
  (h:∀ rec v,step (st v) rec=c (λv'=>rec (st v')) v):∀ n v,rounds step n (st v)=iter c n v
 | 0,_=>rfl
 | n+1,v=>by
  have ih:(λv'=>rounds step n (st v'))=iter c n:=funext λv'=>bR st c h n v'
  show step (st v) (rounds step n)=c (iter c n) v
  rw[h,ih]
end run

def xC(ti:Ti):Nat->List Nat->List Arg->Option St
 | _,[],[]=>some ⟨[],[]⟩
 | p,t::ts,.val agg c::as=>match ti t with
  | some i=>if i.kinds=c.ks/\i.agg=agg then(rH i.agg (gX false 0 c.ks c.row).1).bind λv=>(xC ti (p+1) ts as).bind λs=>some { s with tm:=(p,v)::s.tm } else none
  | none=>none
 | p,t::ts,.ref c::as=>match ti t with
  | some i=>match i.tag,ti i.elem with
   | .ptr,some j=>if j.kinds=c.ks then(xC ti (p+1) ts as).bind λs=>some ⟨(p,.one (.ptr (100000+p) 0))::s.tm,(100000+p,.var (gX false 0 c.ks c.row).1)::s.mem⟩else none
   | _,_=>none
  | none=>none
 | _,_,_=>none
/-- Where a function's arguments come for writing: each slice is an entry. -/
def gV:(id:Nat)->(ks:List Kd)->Row ks->List Leaf×List (Nat×Ent)
 | _,[],_=>([],[])
 | id,.sl ks::r,x=>(.own id::(gV (id+1) r x.2).1,(id,.pin ks x.1)::(gV (id+1) r x.2).2)
 | id,k::r,x=>(.v k x.1::(gV (id+1) r x.2).1,(gV (id+1) r x.2).2)
def xD(ti:Ti):Nat->Nat->List Nat->List Arg->Option St
 | _,_,[],[]=>some ⟨[],[]⟩
 | p,id,t::ts,.val agg c::as=>match ti t with
  | some i=>if i.kinds=c.ks/\i.agg=agg/\cP c.ks=false then(rH i.agg (gX false 0 c.ks c.row).1).bind λv=>(xD ti (p+1) id ts as).bind λs=>some { s with tm:=(p,v)::s.tm } else none
  | none=>none
 | p,id,t::ts,.own agg c::as=>match ti t with
  | some i=>if i.kinds=c.ks/\i.agg=agg/\id+c.ks.length<=200000 then(rH i.agg (gV id c.ks c.row).1).bind λv=>(xD ti (p+1) (id+c.ks.length) ts as).bind λs=>some ⟨(p,v)::s.tm,(gV id c.ks c.row).2++s.mem⟩else none
  | none=>none
 | _,_,_,_=>none
/-- What the pinned entries hold in the end. -/
def sF(m:Nat->Ent):(id:Nat)->(ks:List Kd)->Row ks->Option (Row ks)
 | _,[],_=>some ()
 | id,.sl ks::r,x=>(match m id with
  | .pin ks' xs=>kR (.sl ks') (.sl ks) xs
  | _=>none).bind λy=>(sF m (id+1) r x.2).map λz=>(y,z)
 | id,k::r,x=>(sF m (id+1) r x.2).map λz=>(x.1,z)
def vW(m:Nat->Ent):Nat->List Arg->Option (List CRow)
 | _,[]=>some []
 | id,.val _ _::as=>vW m id as
 | id,.own _ c::as=>(sF m id c.ks c.row).bind λr=>(vW m (id+c.ks.length) as).map λrs=>⟨c.ks,r⟩::rs
 | _,_=>none
def AO(E:Env)(s:St):ResultVar->Q AVal
 | .tmp t=> .ret (s.t t)
 | .cell a t=>match s.t a with
  | .one (.ptr id off)=>match E.ti t with
   | some i=>(DL i (.one (.ptr id off))).bind λe=> .ret e.v
   | none=> .fail
  | _=> .fail
def pZ(E:Env)(s:St):List ResultVar->List Nat->Q (List CRow×List (Nat×Ent)×Bool)
 | [],[]=> .ret ([],[],true)
 | r::rs,t::ts=>match E.ti t with
  | some i=>(AO E s r).bind λv=>if v.isAgg=i.agg then eY v λls=>(rowAt i.kinds ls).bind fun(x,w,p)=>(pZ E s rs ts).bind fun(xs,w',q)=>
    .ret (⟨i.kinds,x⟩::xs,w++w',p&&q&&xG w w')
   else .fail
  | none=> .fail
 | _,_=> .fail
def zF:Nat->List Arg->Q (List CRow×List (Nat×Ent))
 | _,[]=> .ret ([],[])
 | p,.val _ _::as=>zF (p+1) as
 | _,.own _ _::_=> .fail
 | p,.ref c::as=> .get (100000+p) λe=>match e with
  | .var ls=>(rowAt c.ks ls).bind fun(r,w,_)=>(zF (p+1) as).bind fun(rs,w')=> .ret (⟨c.ks,r⟩::rs,w++w')
  | _=> .fail
/-- Is a leaf's slice the function's own? -/
def shLeaf:Kd->Leaf->Q Bool
 | .sl _,.nil=> .ret true
 | .sl _,.own id=> .get id λe=>match e with
  | .arr _ _ _ o=> .ret o
  | _=> .ret false
 | .sl _,_=> .ret false
 | _,_=> .ret true
def shRow:List Kd->List Leaf->Q Bool
 | k::ks,l::ls=>(shLeaf k l).bind λb=>(shRow ks ls).bind λc=> .ret (b&&c)
 | _,_=> .ret true
def EQ(E:Env)(s:St):List ResultVar->List Nat->Q Bool
 | r::rs,t::ts=>match E.ti t with
  | some i=>(AO E s r).bind λv=>eY v λls=>(shRow i.kinds ls).bind λb=>(EQ E s rs ts).bind λc=> .ret (b&&c)
  | none=> .fail
 | _,_=> .ret true
def FF(E:Env)(fr:Bool)(fn:Func)(args:List Arg)(s:St):Q Out:=
 (pZ E s fn.results.toList fn.resultTypes.toList).bind fun(xs,w,p)=>(zF 0 args).bind fun(rs,w')=>if fr&& !(p&&xG w w')then .fail else match iC 7777777 E.h.cut with
  | false=> .ret ⟨xs,rs⟩
  | true=>(EQ E s fn.results.toList fn.resultTypes.toList).bind λb=>if b&&kI w&&rs.isEmpty then .ret ⟨xs,rs⟩else .fail
/-- What a function that writes its arguments hands back: plain cells. -/
def JI(E:Env)(fn:Func)(args:List Arg)(s:St):Q Out:=
 (pZ E s fn.results.toList fn.resultTypes.toList).bind fun(xs,_,_)=>if xs.any λc=>cP c.ks then .fail else .opt (vW s.m 100000 args) λrs=> .ret ⟨xs,rs⟩
def WP(E:Env)(fn:Func)(args:List Arg):Ex->St->Option Out
 | .exit _,_=>none
 | _,s=>(JI E fn args s).run s.m (λo _=>some o) []
/-- The names that a function's results speak of. -/
def EX(s:St):List ResultVar->List Nat
 | []=>[]
 | .tmp t::rs=>LT (s.t t)++EX s rs
 | .cell a _::rs=>(match s.t a with
  | .one (.ptr id _)=>match s.m id with
   | .var ls=>ls.flatMap JS
   | _=>[]
  | _=>[])++EX s rs
def xF(E:Env)(fn:Func)(args:List Arg):Ex->St->Option Out
 | .exit _,_=>none
 | _,s=>(rR (EX s fn.results.toList) λW=>(FF E E.h.fresh fn args s).over W).run s.m (λo _=>some o) []
def dR(fn:Func):Code:=match fn.body with
 | some c=>c
 | none=> .refuse ""
def DR(E:Env)(rts:Nat->Option (List Nat))(J:nI)(aA:Nat)(fn:Func)(args:List Arg):Option Out:=
 bif E.h.pin&&Nat.beq E.base 0 then(xD E.ti 0 100000 fn.params.toList args).bind λs=>kG E rts J aA (dR fn) s (WP E fn args)else none
def DQ(E:Env)(rts:Nat->Option (List Nat))(J:nI)(aA:Nat)(fn:Func)(args:List Arg):Option Out:=
 bif Nat.beq E.base 0 then(xC E.ti 0 fn.params.toList args).bind λs=>kG E rts J aA (dR fn) s (xF E fn args)else none
def w9(E:Env)(rts:Nat->Option (List Nat))(J:nI)(aA:Nat)(fn:Func)(args:List Arg):Option Out:=
 bif noOwn args then DQ E rts J aA fn args else DR E rts J aA fn args

def B5:Nat->List AVal->List (Nat×AVal)
 | _,[]=>[]
 | i,x::xs=>(i,x)::B5 (i+1) xs
/-- The values that a function run in place hands back. -/
def vP(E:Env)(s:St):List ResultVar->Option (List AVal)
 | []=>some []
 | r::rs=>(AO E s r).run s.m (λv _=>match v with | .tup _=>none | v=>(vP E s rs).map λvs=>v::vs) []
def D3(lo:Nat):List (Nat×Ent)->Bool
 | []=>true
 | (i,_)::r=>Nat.blt i lo&&D3 lo r
/-- What goes on where a function run in place ends. -/
def HH{ρ:Type}(E:Env)(fn:Func)(tm:List (Nat×AVal))(K:AVal->St->Option ρ):Ex->St->Option ρ
 | .exit _,_=>none
 | _,s'=>(vP E s' fn.results.toList).bind λvs=>K (y9 vs) ⟨tm,s'.mem⟩
def jV(fns:Nat->Option Func)(E:Env)(rts:Nat->Option (List Nat))(aA:Nat):Nat->nI
 | 0=>λ_ _ _ _ _ _ _=>none
 | k+1=>λρ g b h xs s K=>match fns g with
  | some fn=>bif D3 (b*32) s.mem&& !h.pin then kG { E with n:=fn.ntmps,h:=h,base:=b } rts (jV fns E rts aA k) aA (dR fn) ⟨B5 0 xs,s.mem⟩ (HH { E with n:=fn.ntmps,h:=h,base:=b } fn s.tm K)else none
  | none=>none
open Classical in
noncomputable def lim{α:Type}(f:Nat->Option α):Option α:=if h:∃ n r,f n=some r then some h.choose_spec.choose else none
theorem U8{α:Type}{f:Nat->Option α}{r:α}(h:lim f=some r):∃ n,f n=some r:=by
 unfold lim at h
 split at h
 ·grind
 simp_all

/-- The program's functions: what is told of them. -/
structure Prg where
 ti:Ti
 fn:Nat->Option Func
 hint:Nat->Hints
 own:Nat->Option (List Arg->Option Out)
def Prg.rts(p:Prg)(g:Nat):Option (List Nat):=(p.fn g).map λf=>f.resultTypes.toList
noncomputable def aJ(p:Prg):Nat->Nat->List Arg->Option Out
 | 0,_,_=>none
 | n+1,g,as=>match p.own g with
  | some F=>F as
  | none=>match p.fn g with
   | some fn=>lim λaA=>w9 { ti:=p.ti,n:=fn.ntmps,call:=aJ p n,fresh:=λg=>(p.hint g).fresh,owns:=λg=>(p.hint g).own,h:=p.hint g } p.rts (jV p.fn { ti:=p.ti,n:=fn.ntmps,call:=aJ p n,fresh:=λg=>(p.hint g).fresh,owns:=λg=>(p.hint g).own,h:=p.hint g } p.rts aA 3) aA fn as
   | none=>none
end Go.Abs
/- What the interpreter's values and states say of the machine's memory; what keeps it. -/
namespace Go.Abs
open Go

/-! ### by value -/
def SLR{α:Type}(w:World)(R:α->List Value->List Nat->Prop)(n:Nat)(xs:List α)(v:Value)(bs:List Nat):Prop:=
 ∃ A cap,v= .slice A xs.length cap/\xs.length<=cap/\
  ((xs=[]/\bs=[])\/∃ b off bss,A=some ⟨b,off,none⟩/\bss.length=xs.length/\bs=b::List.flatten bss/\
   ∀ i r bb,xs[i]? =some r->bss[i]? =some bb->∃ us,R r us bb/\us.length=n/\∀ j u,us[j]? =some u->w.cell? ⟨b,off+i*n+j,none⟩=some u)
mutual
def TR(w:World):(k:Kd)->k.T->Value->List Nat->Prop
 | .int k,x,v,bs=>v= .int k x/\bs=[]
 | .bool,x,v,bs=>v= .bool x/\bs=[]
 | .str,x,v,bs=>v= .string x/\bs=[]
 | .fn,x,v,bs=>v= .func (.func x) #[] #[]/\bs=[]
 | .sl ks,xs,v,bs=>SLR w (RR w ks) ks.length xs v bs
def RR(w:World):(ks:List Kd)->Row ks->List Value->List Nat->Prop
 | [],_,us,bs=>us=[]/\bs=[]
 | k::ks,r,us,bs=>∃ u us' b b',us=u::us'/\bs=b++b'/\TR w k r.1 u b/\RR w ks r.2 us' b'
end

theorem SLR.mono {α:Type} {w w':World} {R R':α->List Value->List Nat->Prop} {n:Nat} {xs:List α} {v:Value} {bs:List Nat}
  (h:SLR w R n xs v bs) (hb:∀ b∈bs,w'.heap[b]? =w.heap[b]?) (hR:∀ r us bb,(∀ b∈bb,b∈bs)->R r us bb->R' r us bb):SLR w' R' n xs v bs:=by
 obtain⟨A,cap,rfl,hc,h'⟩:=h
 refine⟨A,cap,rfl,hc,h'.imp id ?_⟩
 rintro ⟨b,off,bss,rfl,hl,rfl,hk⟩
 refine⟨b,off,bss,rfl,hl,rfl,λi r bb hi hbb=>?_⟩
 obtain⟨us,hr,hn,hu⟩:=hk i r bb hi hbb
 refine⟨us,hR r us bb ?_ hr,hn,λj u hj=>?_⟩
 ·intro x hx
  exact List.mem_cons_of_mem _ (List.mem_flatten.2 ⟨bb,List.mem_of_getElem? hbb,hx⟩)
 ·rw[World.cell?_of_block (w:=w) (hb b (List.mem_cons_self ..))];simp_all
mutual
theorem TR.mono{w w':World}:∀ (k:Kd) (x:k.T) (v:Value) (bs:List Nat),(∀ b∈bs,w'.heap[b]? =w.heap[b]?)->TR w k x v bs->TR w' k x v bs
 | .int _,_,_,_,_,h=>h
 | .bool,_,_,_,_,h=>h
 | .str,_,_,_,_,h=>h
 | .fn,_,_,_,_,h=>h
 | .sl ks,xs,v,bs,hb,h=>SLR.mono h hb λr us bb hs hr=>RR.mono ks r us bb (λb hx=>hb b (hs b hx)) hr
theorem RR.mono{w w':World}:∀ (ks:List Kd) (r:Row ks) (us:List Value) (bs:List Nat),(∀ b∈bs,w'.heap[b]? =w.heap[b]?)->RR w ks r us bs->RR w' ks r us bs
 | [],_,_,_,_,h=>h
 | k::ks,r,us,bs,hb,⟨u,us',b,b',e1,e2,h1,h2⟩=>
  ⟨u,us',b,b',e1,e2,TR.mono k r.1 u b (λx hx=>hb x (by rw[e2];simp_all)) h1,
   RR.mono ks r.2 us' b' (λx hx=>hb x (by rw[e2];simp_all)) h2⟩
end
theorem RR.length{w:World}:∀ (ks:List Kd) (r:Row ks) (us:List Value) (bs:List Nat),RR w ks r us bs->us.length=ks.length
 | [],_,_,_,h=>by rw[h.1];rfl
 | k::ks,r,us,bs,⟨u,us',b,b',e1,e2,h1,h2⟩=>by rw[e1];simp[RR.length ks r.2 us' b' h2]

/-! ### places and entries -/
inductive Loc where
 | nil
 | at_ (b off cap:Nat)
 | pin (hv:Value) (hd:Nat->Nat->Value) (bl:List Nat)
def Loc.val:Loc->Nat->Value
 | .nil,_=> .slice none 0 0
 | .at_ b off cap,n=> .slice (some ⟨b,off,none⟩) n cap
 | .pin hv _ _,_=>bif hv.oneCell' then hv else .slice none 0 0
def Loc.blk:Loc->Option Nat
 | .nil=>none
 | .at_ b _ _=>some b
 | .pin _ _ _=>none
/-- The blocks that are an entry's. -/
def Loc.has:Loc->Nat->Prop
 | .nil,_=>False
 | .at_ b _ _,x=>b=x
 | .pin _ _ bl,x=>x∈bl

/-- A row of elements that lies in a block of its own. -/
def OwnAt(w:World)(ks:List Kd)(xs:List (Row ks)):Loc->List (List Nat)->Prop
 | .pin _ _ _,_=>False
 | .nil,bss=>xs=[]/\bss=[]
 | .at_ b off cap,bss=>∃ cs T fz,w.heap[b]? =some (.cells cs T fz)/\(fz.1=fz.2\/cs.size<=fz.1)/\off+cap*ks.length<=cs.size/\
   xs.length<=cap/\bss.length=xs.length/\
   ∀ i r bb,xs[i]? =some r->bss[i]? =some bb->∃ us,RR w ks r us bb/\∀ j u,us[j]? =some u->cs[off+i*ks.length+j]? =some u

theorem OwnAt.blk{w:World}{ks:List Kd}{xs:List (Row ks)}{l:Loc}{bss:List (List Nat)}(h:OwnAt w ks xs l bss)(b:Nat):l.has b↔l.blk=some b:=by
 cases l with
 | nil=>exact⟨λh=>h.elim,λh=>by cases h⟩
 | at_ b' o c=>exact⟨λh=>by cases h;rfl,λh=>by cases h;rfl⟩
 | pin _ _ _=>exact h.elim
/-- A block whose cells may be written. -/
def cO(w:World)(b:Nat):Prop:=∃ cs T fz,w.heap[b]? =some (.cells cs T fz)/\(fz.1=fz.2\/cs.size<=fz.1)
/-- The slices that lie in the elements' cells. -/
def D5(w:World)(ks:List Kd)(n:Nat)(hv:Value)(hd:Nat->Nat->Value):Prop:=
 ∀ b o l c,hv= .slice (some ⟨b,o,none⟩) l c->∀ i j ks',i<n->ks[j]? =some (.sl ks')->w.cell? ⟨b,o+i*ks.length+j,none⟩=some (hd i j)
def dU:Ent->Bool
 | .var _=>true
 | .pin _ _=>true
 | .arr _ _ _ o=>o
 | _=>false
abbrev Mem:=Nat->Ent
def Mut(m:Mem)(loc:Nat->Loc)(b:Nat):Prop:=∃ id,dU (m id)=true/\(loc id).has b
def Ok(n0:Nat)(ab:Nat->Prop)(m:Mem)(loc:Nat->Loc)(w:World)(b:Nat):Prop:=
 b<w.heap.size/\¬ Mut m loc b/\(n0<=b\/ab b)

/-- A part of a slice. -/
def RK:Value->Nat->Nat->Nat->Value
 | .slice A _ cap,wd,l,h=> .slice (if cap=l then A else A.map (·.add (l*wd))) (h - l) (cap - l)
 | _,_,_,_=> .slice none 0 0
theorem RJ(v:Value)(wd l h:Nat):(RK v wd l h).oneCell'=true:=by cases v<;>rfl
def LR(m:Mem)(loc:Nat->Loc)(ok:Nat->Prop)(w:World):Leaf->Value->Prop
 | .v k x,u=>∃ bs,TR w k x u bs/\∀ b∈bs,ok b
 | .nil,u=>u= .slice none 0 0
 | .own id,u=>match m id with
  | .arr _ xs _ _=>u=(loc id).val xs.length
  | .pin _ xs=>u=(loc id).val xs.length
  | .dead=>u.oneCell'=true
  | _=>False
 | .ptr id off,u=>match m id with
  | .var _=>∃ b,loc id= .at_ b 0 0/\u= .pointer (some ⟨b,off,none⟩)
  | _=>False
 | .eptr id i off,u=>match m id with
  | .arr ks xs _ _=>i<xs.length/\∃ b o c,loc id= .at_ b o c/\u= .pointer (some ⟨b,o+i*ks.length+off,none⟩)
  | .pin ks xs=>i<xs.length/\∃ b o n c hd bl,loc id= .pin (.slice (some ⟨b,o,none⟩) n c) hd bl/\u= .pointer (some ⟨b,o+i*ks.length+off,none⟩)
  | .dead=>∃ b o,u= .pointer (some ⟨b,o,none⟩)
  | _=>False
 | .psl id i off,u=>match m id with
  | .pin _ _=>(∃ hv hd bl,loc id= .pin hv hd bl/\u=hd i off)/\u.oneCell'=true
  | .arr _ _ _ _=>u.oneCell'=true
  | .dead=>u.oneCell'=true
  | _=>False
 | .pptr id i off wd j o,u=>match m id with
  | .pin _ _=>∃ hv hd bl b o2 n c,loc id= .pin hv hd bl/\hd i off= .slice (some ⟨b,o2,none⟩) n c/\u= .pointer (some ⟨b,o2+j*wd+o,none⟩)
  | .arr _ _ _ _=>∃ b o,u= .pointer (some ⟨b,o,none⟩)
  | .dead=>∃ b o,u= .pointer (some ⟨b,o,none⟩)
  | _=>False
 | .vw id l h,u=>match m id with
  | .arr ks xs _ _=>l<=h/\h<=xs.length/\u=RK ((loc id).val xs.length) ks.length l h
  | .dead=>u.oneCell'=true
  | _=>False
 | .rptr ks r off,u=>∃ b o us bs,u= .pointer (some ⟨b,o+off,none⟩)/\RR w ks r us bs/\(∀ x∈bs,ok x)/\ok b/\∀ j x,us[j]? =some x->w.cell? ⟨b,o+j,none⟩=some x
 | .any,u=>u.oneCell'=true
 | .hdr n,u=>∃ A cap,u= .slice A n cap
theorem TR.one{w:World}:∀ (k:Kd) (x:k.T) (u:Value) (bs:List Nat),TR w k x u bs->u.oneCell'=true
 | .int _,_,_,_,h=>by rw[h.1];rfl
 | .bool,_,_,_,h=>by rw[h.1];rfl
 | .str,_,_,_,h=>by rw[h.1];rfl
 | .fn,_,_,_,h=>by rw[h.1];rfl
 | .sl ks,xs,u,bs,⟨A,c,e,_⟩=>by rw[e];rfl
theorem Loc.val_one(l:Loc)(n:Nat):(l.val n).oneCell'=true:=by
 cases l with
 | pin hv _ _=>
  show(bif hv.oneCell' then hv else .slice none 0 0:Value).oneCell'=true
  cases h:hv.oneCell' with
  | true=>grind
  | false=>rfl
 | _=>rfl
theorem Loc.val_pin{hv:Value}(h:hv.oneCell'=true)(hd:Nat->Nat->Value)(bl:List Nat)(n:Nat):(Loc.pin hv hd bl).val n=hv:=by
 show(bif hv.oneCell' then hv else .slice none 0 0:Value)=hv
 rw[h];rfl
theorem LR.cell{m:Mem}{loc:Nat->Loc}{ok:Nat->Prop}{w:World}:∀ (l:Leaf) (u:Value),LR m loc ok w l u->u.oneCell'=true
 | .v k x,u,⟨bs,h,_⟩=>TR.one k x u bs h
 | .nil,u,h=>by rw[h];rfl
 | .own id,u,h=>by
  simp only[LR] at h
  cases hm:m id with
  | none=>simp_all
  | dead=>simp_all
  | var ls=>simp_all
  | arr ks xs d o=>simp only[hm] at h;rw[h];exact Loc.val_one _ _
  | pin ks xs=>simp only[hm] at h;rw[h];exact Loc.val_one _ _
 | .ptr id off,u,h=>by
  simp only[LR] at h
  cases hm:m id with
  | none=>simp_all
  | dead=>simp_all
  | arr ks xs d o=>simp_all
  | pin ks xs=>simp_all
  | var ls=>simp only[hm] at h;obtain⟨b,_,e⟩:=h;rw[e];rfl
 | .eptr id i off,u,h=>by
  simp only[LR] at h
  cases hm:m id with
  | none=>simp_all
  | dead=>simp only[hm] at h;obtain⟨b,o,e⟩:=h;rw[e];rfl
  | var ls=>simp_all
  | arr ks xs d o=>simp only[hm] at h;obtain⟨_,b,o,c,_,e⟩:=h;rw[e];rfl
  | pin ks xs=>simp only[hm] at h;obtain⟨_,b,o,n,c,hd,bl,_,e⟩:=h;rw[e];rfl
 | .psl id i off,u,h=>by
  simp only[LR] at h
  grind
 | .pptr id i off wd j o,u,h=>by
  simp only[LR] at h
  cases hm:m id with
  | pin ks xs=>simp only[hm] at h;obtain⟨_,_,_,b,o2,n,c,_,_,e⟩:=h;rw[e];rfl
  | arr ks xs d o=>simp only[hm] at h;obtain⟨b,o,e⟩:=h;rw[e];rfl
  | dead=>simp only[hm] at h;obtain⟨b,o,e⟩:=h;rw[e];rfl
  | _=>simp_all
 | .vw id l h,u,hh=>by
  simp only[LR] at hh
  cases hm:m id with
  | arr ks xs d o=>simp only[hm] at hh;obtain⟨_,_,e⟩:=hh;rw[e];exact RJ _ _ _ _
  | dead=>simp_all
  | _=>simp_all
 | .rptr ks r off,u,⟨b,o,us,bs,e,_⟩=>by rw[e];rfl
 | .any,u,h=>h
 | .hdr n,u,⟨A,c,e⟩=>by rw[e];rfl
def LRs(m:Mem)(loc:Nat->Loc)(ok:Nat->Prop)(w:World):List Leaf->List Value->Prop
 | [],us=>us=[]
 | l::ls,us=>∃ u us',us=u::us'/\LR m loc ok w l u/\LRs m loc ok w ls us'
def VR1(m:Mem)(loc:Nat->Loc)(ok:Nat->Prop)(w:World):AVal->Value->Prop
 | .one l,u=>LR m loc ok w l u
 | .agg ls,u=>∃ us,u= .agg us.toArray/\LRs m loc ok w ls us
 | .tup _,_=>False
 | .undef,u=>u=undef
 | .anyv,_=>True
def VR(m:Mem)(loc:Nat->Loc)(ok:Nat->Prop)(w:World):AVal->Value->Prop
 | .tup vs,u=>∃ us:List Value,u= .tuple us.toArray/\us.length=vs.length/\∀ (i:Nat) (x:AVal) (y:Value),vs[i]? =some x->us[i]? =some y->VR1 m loc ok w x y
 | v,u=>VR1 m loc ok w v u

def PinR(w:World)(ks:List Kd)(xs:List (Row ks))(hv:Value)(hd:Nat->Nat->Value)(bl:List Nat):Prop:=
 TR w (.sl ks) xs hv bl/\D5 w ks xs.length hv hd/\bl.Nodup/\∀ b∈bl,cO w b
theorem PinR.mono{w w':World}{ks:List Kd}{xs:List (Row ks)}{hv:Value}{hd:Nat->Nat->Value}{bl:List Nat}(hb:∀ b∈bl,w'.heap[b]? =w.heap[b]?)(h:PinR w ks xs hv hd bl):PinR w' ks xs hv hd bl:=by
 obtain⟨h1,h2,h3,h4⟩:=h
 refine⟨TR.mono _ _ _ _ hb h1,λb o l c e i j ks' hi hj=>?_,h3,λb hx=>?_⟩
 ·obtain⟨A,cap,e',hc,h'⟩:=h1
  rcases h' with ⟨rfl,_⟩ | ⟨b',off,bss,rfl,_,rfl,_⟩
  ·grind
  ·rw[e] at e'
   cases e'
   rw[World.cell?_of_block (w:=w) (hb b (List.mem_cons_self ..))]
   exact h2 b o _ _ e i j ks' hi hj
 ·obtain⟨cs,T,fz,k1,k2⟩:=h4 b hx
  exact⟨cs,T,fz,(hb b hx).trans k1,k2⟩
def EntR(n0:Nat)(ok:Nat->Prop)(m:Mem)(loc:Nat->Loc)(ow:Nat->Option Nat)(w:World)(id:Nat):Prop:=
 match m id with
 | .none=>True
 | .dead=>True
 | .var ls=>∃ b cs T fz,loc id= .at_ b 0 0/\w.heap[b]? =some (.cells cs T fz)/\(fz.1=fz.2\/cs.size<=fz.1)/\LRs m loc ok w ls cs.toList/\ow b=some id
 | .pin ks xs=>∃ hv hd bl,loc id= .pin hv hd bl/\PinR w ks xs hv hd bl/\∀ b∈bl,ow b=some id
 | .arr ks xs deep opn=>∃ bss,OwnAt w ks xs (loc id) bss/\(∀ bb∈bss,∀ b∈bb,ok b)/\
   (∀ b,(loc id).has b->n0<=b/\b<w.heap.size/\(opn=true->ow b=some id)/\(opn=false->ok b))/\
   (deep=true->opn=true->(∀ bb∈bss,∀ b∈bb,ow b=some id/\n0<=b)/\(List.flatten bss).Nodup/\∀ b,(loc id).has b->b∉List.flatten bss)

/-- Memory is kept, but for new blocks and the blocks that came in for writing. -/
structure Keep (rb:Nat->Prop) (w0 w:World):Prop where
 os:w.os=w0.os
 tape:w.tape=w0.tape
 output:w.output=w0.output
 size:w0.heap.size<=w.heap.size
 block:∀ b,b<w0.heap.size->¬ rb b->w.heap[b]? =w0.heap[b]?

/-- How many temps there are; where the variables lie that came in by pointer. -/
structure Fix where
 n:Nat
 pins:List (Nat×Nat)
 op:List (Nat×List Kd×Loc):=[]
 held:List ((Nat->AVal)×Array Value):=[]
 lo:Nat:=0
def fM:Ent->Bool
 | .pin _ _=>true
 | _=>false
/-- A name that is not one of those under which a function's own arguments come in. -/
def tQ(id:Nat):Prop:=id<100000\/200000<=id
/-- The names a function never drops: those outside its own window. -/
def lV(lo id:Nat):Prop:=id<lo\/lo+100000<=id
def idL(p:Nat->Prop):Leaf->Prop
 | .own i=>p i
 | .ptr i _=>p i
 | .eptr i _ _=>p i
 | .psl i _ _=>p i
 | .pptr i _ _ _ _ _=>p i
 | .vw i _ _=>p i
 | _=>True
def TL(p:Nat->Prop):AVal->Prop
 | .one l=>idL p l
 | .agg ls=>∀ l∈ls,idL p l
 | _=>True
def idV(p:Nat->Prop):AVal->Prop
 | .tup vs=>∀ v∈vs,TL p v
 | v=>TL p v
/-- The room that a pinned row has. -/
def UM(w:World)(n:Nat)(hv:Value)(bl:List Nat):Prop:=
 hv= .slice none 0 0\/∃ b off l cap,hv= .slice (some ⟨b,off,none⟩) l cap/\b∈bl/\∃ cs T fz,w.heap[b]? =some (.cells cs T fz)/\off+cap*n<=cs.size
def OJ(w:World):Ent->Loc->Prop
 | .pin ks _,.pin hv _ bl=>UM w ks.length hv bl
 | _,_=>True
def SizeLe(w w':World)(b:Nat):Prop:=∀ cs T fz,w.heap[b]? =some (.cells cs T fz)->∃ cs' T' fz',w'.heap[b]? =some (.cells cs' T' fz')/\cs.size<=cs'.size
theorem SizeLe.trans{w w' w'':World}{b:Nat}(h:SizeLe w w' b)(h':SizeLe w' w'' b):SizeLe w w'' b:=λcs T fz hc=>by
 obtain⟨cs',T',fz',h1,h2⟩:=h cs T fz hc
 obtain⟨cs2,T2,fz2,h3,h4⟩:=h' cs' T' fz' h1
 grind
theorem SizeLe.same{w w':World}{b:Nat}(h:w'.heap[b]? =w.heap[b]?):SizeLe w w' b:=λcs T fz hc=>⟨cs,T,fz,h.trans hc,Nat.le_refl _⟩
structure Rel (n0:Nat) (ab rb:Nat->Prop) (w0:World) (N:Fix) (t:Nat->AVal) (m:Mem) (a:Act) (w:World) (loc:Nat->Loc) (ow:Nat->Option Nat):Prop where
 defers:a.defers=[]
 size:a.tmps.size=N.n
 hn0:n0=w0.heap.size
 keep:Keep rb w0 w
 hab:∀ b,ab b->b<n0
 temps:∀ i,VR m loc (Ok n0 ab m loc w) w (t i) (a.tmps.getD i undef)
 ents:∀ id,EntR n0 (Ok n0 ab m loc w) m loc ow w id
 owlt:∀ b id,ow b=some id->b<w.heap.size
 mutrb:∀ id b,dU (m id)=true->(loc id).has b->n0<=b\/rb b
 free:∀ b,n0<=b->b<w.heap.size->cO w b
 pin:∀ q∈N.pins,lV N.lo q.1/\(∃ ls,m q.1= .var ls)/\loc q.1= .at_ q.2 0 0
 opin:∀ q∈N.op,(lV N.lo q.1/\¬ tQ q.1)/\(∃ xs,m q.1= .pin q.2.1 xs)/\loc q.1=q.2.2
 held:∀ q∈N.held,∀ i,idV (lV N.lo) (q.1 i)/\VR m loc (Ok n0 ab m loc w) w (q.1 i) (q.2.getD i undef)
 npin:∀ id,tQ id->fM (m id)=true->∀ b,(loc id).has b->n0<=b
 pcap:∀ id,tQ id->fM (m id)=true->OJ w (m id) (loc id)
 szk:∀ b,b<w0.heap.size->SizeLe w0 w b

/-! ### what keeps it -/
/-- A pinned row's place, read as a row's own. -/
def Unp(l l':Loc)(n:Nat):Prop:=
 match l with
 | .pin hv _ _=>(hv= .slice none 0 0/\n=0/\l'= .nil)\/∃ b o c,hv= .slice (some ⟨b,o,none⟩) n c/\l'= .at_ b o c
 | _=>False
theorem Unp.val{l l':Loc}{n:Nat}(h:Unp l l' n):l'.val n=l.val n:=by
 cases l with
 | pin hv hd bl=>
  rcases h with ⟨rfl,rfl,rfl⟩ | ⟨b,o,c,rfl,rfl⟩
  ·rfl
  ·rfl
 | nil=>exact h.elim
 | at_ _ _ _=>exact h.elim
/-- An entry may become another one, and what is said of it elsewhere stays true. -/
def Goes(e e':Ent)(l l':Loc):Prop:=
 match e with
 | .none=>True
 | .dead=>e'= .dead
 | .var _=>(∃ ls,e'= .var ls)/\l'=l
 | .pin ks xs=>e'= .dead\/(∃ xs' d o,e'= .arr ks xs' d o/\xs'.length=xs.length/\Unp l l' xs.length)\/(∃ xs',e'= .pin ks xs'/\xs'.length=xs.length)/\l'=l
 | .arr ks xs _ _=>e'= .dead\/(∃ xs' d o,e'= .arr ks xs' d o/\xs'.length=xs.length)/\l'=l
theorem Goes.refl(e:Ent)(l:Loc):Goes e e l l:=by
 cases e with
 | none=>trivial
 | dead=>rfl
 | var ls=>exact⟨⟨ls,rfl⟩,rfl⟩
 | arr ks xs d o=>exact .inr ⟨⟨xs,d,o,rfl,rfl⟩,rfl⟩
 | pin ks xs=>exact .inr (.inr ⟨⟨xs,rfl,rfl⟩,rfl⟩)
section mono
variable {m m':Mem} {loc loc':Nat->Loc} {ok ok':Nat->Prop} {w w':World}
 (h1:∀ b,ok b->ok' b/\w'.heap[b]? =w.heap[b]?) (h2:∀ id,Goes (m id) (m' id) (loc id) (loc' id))
include h1 h2
theorem LR.mono:∀ (l:Leaf) (u:Value),LR m loc ok w l u->LR m' loc' ok' w' l u
 | .v k x,u,⟨bs,h,hb⟩=>⟨bs,TR.mono k x u bs (λb hx=>(h1 b (hb b hx)).2) h,λb hx=>(h1 b (hb b hx)).1⟩
 | .nil,u,h=>h
 | .own id,u,h=>by
  have hcell:=LR.cell _ u h
  simp only[LR] at h ⊢
  have g:=h2 id
  cases hm:m id with
  | none=>simp_all
  | dead=>simp only[hm,Goes] at g;simp_all
  | var ls=>simp_all
  | arr ks xs d o=>
   simp only[hm,Goes] at g h
   grind
  | pin ks xs=>
   simp only[hm,Goes] at g h
   rcases g with g | ⟨xs',d,o,g,hl,hu⟩ | ⟨⟨xs',g,hl⟩,e⟩
   ·simp_all
   ·simp only[g,hl];rw[h];exact hu.val.symm
   simp_all
 | .ptr id off,u,h=>by
  simp only[LR] at h ⊢
  have g:=h2 id
  cases hm:m id with
  | none=>simp_all
  | dead=>simp_all
  | arr ks xs d o=>simp_all
  | pin ks xs=>simp_all
  | var ls=>
   simp only[hm,Goes] at g h
   grind
 | .eptr id i off,u,h=>by
  simp only[LR] at h ⊢
  have g:=h2 id
  cases hm:m id with
  | none=>simp_all
  | dead=>simp only[hm,Goes] at g h;simp_all
  | var ls=>simp_all
  | arr ks xs d o=>
   simp only[hm,Goes] at g h
   grind
  | pin ks xs=>
   simp only[hm,Goes] at g h
   rcases g with g | ⟨xs',d,o',g,hl,hu⟩ | ⟨⟨xs',g,hl⟩,e⟩
   ·grind
   ·simp only[g]
    obtain⟨h3,b,o,n,c,hd,bl,h4,h5⟩:=h
    refine⟨by omega,b,o,c,?_,h5⟩
    rw[h4] at hu
    rcases hu with ⟨e,_⟩ | ⟨b',o2,c',e,e2⟩
    ·omega
    simp_all
   simp_all
 | .psl id i off,u,h=>by
  have hcell:=LR.cell _ u h
  simp only[LR] at h ⊢
  have g:=h2 id
  cases hm:m id with
  | pin ks xs=>
   simp only[hm,Goes] at g h
   grind
  | arr ks xs d o=>
   simp only[hm,Goes] at g h
   grind
  | dead=>simp only[hm,Goes] at g h;simp_all
  | _=>simp_all
 | .pptr id i off wd j o,u,h=>by
  simp only[LR] at h ⊢
  have g:=h2 id
  cases hm:m id with
  | pin ks xs=>
   simp only[hm,Goes] at g h
   grind
  | arr ks xs d o=>
   simp only[hm,Goes] at g h
   grind
  | dead=>simp only[hm,Goes] at g h;simp_all
  | _=>simp_all
 | .vw id l hh,u,h=>by
  have hcell:=LR.cell _ u h
  simp only[LR] at h ⊢
  have g:=h2 id
  cases hm:m id with
  | arr ks xs d o=>
   simp only[hm,Goes] at g h
   grind
  | dead=>simp only[hm,Goes] at g h;simp_all
  | _=>simp_all
 | .rptr ks r off,u,⟨b,o,us,bs,e,h,hb,hk,hc⟩=>
  ⟨b,o,us,bs,e,RR.mono ks r us bs (λb hx=>(h1 b (hb b hx)).2) h,λb hx=>(h1 b (hb b hx)).1,(h1 b hk).1,λj x hj=>by
   rw[World.cell?_of_block (w:=w) (h1 b hk).2];simp_all⟩
 | .any,_,h=>h
 | .hdr _,_,h=>h
theorem LRs.mono:∀ (ls:List Leaf) (us:List Value),LRs m loc ok w ls us->LRs m' loc' ok' w' ls us
 | [],us,h=>h
 | l::ls,us,⟨u,us',e,h,hs⟩=>⟨u,us',e,LR.mono h1 h2 l u h,LRs.mono ls us' hs⟩
theorem VR1.mono:∀ (v:AVal) (u:Value),VR1 m loc ok w v u->VR1 m' loc' ok' w' v u
 | .one l,u,h=>LR.mono h1 h2 l u h
 | .agg ls,u,⟨us,e,h⟩=>⟨us,e,LRs.mono h1 h2 ls us h⟩
 | .tup _,_,h=>h
 | .undef,_,h=>h
 | .anyv,_,_=>trivial
theorem VR.mono:∀ (v:AVal) (u:Value),VR m loc ok w v u->VR m' loc' ok' w' v u
 | .one l,u,h=>VR1.mono h1 h2 (.one l) u h
 | .agg ls,u,h=>VR1.mono h1 h2 (.agg ls) u h
 | .tup vs,u,⟨us,e,hl,h⟩=>⟨us,e,hl,λi x y hx hy=>VR1.mono h1 h2 x y (h i x y hx hy)⟩
 | .undef,_,h=>h
 | .anyv,_,_=>trivial
end mono
theorem OwnAt.mono {w w':World} {ks:List Kd} {xs:List (Row ks)} {l:Loc} {bss:List (List Nat)} (h:OwnAt w ks xs l bss)
  (hb:∀ b,l.has b->w'.heap[b]? =w.heap[b]?) (hr:∀ bb∈bss,∀ b∈bb,w'.heap[b]? =w.heap[b]?):OwnAt w' ks xs l bss:=by
 cases l with
 | nil=>exact h
 | pin _ _ _=>exact h.elim
 | at_ b off cap=>
  obtain⟨cs,T,fz,hh,hf,hs,hc,hl,h⟩:=h
  refine⟨cs,T,fz,(hb b rfl).trans hh,hf,hs,hc,hl,λi r bb hi hbb=>?_⟩
  obtain⟨us,hrr,hu⟩:=h i r bb hi hbb
  exact⟨us,RR.mono ks r us bb (hr bb (List.mem_of_getElem? hbb)) hrr,hu⟩
theorem LRs.length{m:Mem}{loc:Nat->Loc}{ok:Nat->Prop}{w:World}:∀ (ls:List Leaf) (us:List Value),LRs m loc ok w ls us->us.length=ls.length
 | [],_,h=>by rw[h];rfl
 | l::ls,us,⟨u,us',e,h,hs⟩=>by rw[e];simp[LRs.length ls us' hs]
/-- An entry that is as it was stays told. -/
theorem EntR.mono {n0:Nat} {m m':Mem} {loc loc':Nat->Loc} {ok ok':Nat->Prop} {w w':World} {ow ow':Nat->Option Nat} {id:Nat}
  (h1:∀ b,ok b->ok' b/\w'.heap[b]? =w.heap[b]?) (h2:∀ id,Goes (m id) (m' id) (loc id) (loc' id)) (hsz:w.heap.size<=w'.heap.size)
  (hm:m' id=m id) (hl:loc' id=loc id) (hmut:∀ b,dU (m id)=true->(loc id).has b->w'.heap[b]? =w.heap[b]?)
  (ho:dU (m id)=true->∀ b,ow b=some id->ow' b=some id) (h:EntR n0 ok m loc ow w id):EntR n0 ok' m' loc' ow' w' id:=by
 unfold EntR at*
 rw[hm,hl]
 cases he:m id with
 | none=>simp
 | dead=>simp
 | var ls=>
  rw[he] at h hmut ho
  obtain⟨b,cs,T,fz,e,hh,hf,hs,hw⟩:=h
  exact⟨b,cs,T,fz,e,(hmut b rfl (by rw[e];rfl)).trans hh,hf,LRs.mono h1 h2 ls _ hs,ho rfl b hw⟩
 | pin ks xs=>
  rw[he] at h hmut ho
  obtain⟨hv,hd,bl,e,hp,hw⟩:=h
  exact⟨hv,hd,bl,e,hp.mono λb hb=>hmut b rfl (by rw[e];exact hb),λb hb=>ho rfl b (hw b hb)⟩
 | arr ks xs deep opn=>
  rw[he] at h hmut ho
  obtain⟨bss,hown,hok,hb,hd⟩:=h
  refine⟨bss,hown.mono ?_ (λbb hx b hy=>(h1 b (hok bb hx b hy)).2),λbb hx b hy=>(h1 b (hok bb hx b hy)).1,?_,?_⟩
  ·intro b hbl
   cases ho':opn with
   | true=>rw[ho'] at hmut;exact hmut b rfl hbl
   | false=>simp_all
  ·intro b hbl
   obtain⟨p,q,r,s⟩:=hb b hbl
   exact⟨p,Nat.lt_of_lt_of_le q hsz,λhx=>ho hx b (r hx),λhx=>(h1 b (s hx)).1⟩
  ·intro hdp hop
   obtain⟨p,q,r⟩:=hd hdp hop
   exact⟨λbb hx b hy=>⟨ho hop b (p bb hx b hy).1,(p bb hx b hy).2⟩,q,r⟩
end Go.Abs
/- What an operation of the interpreter does; the types' table; how a state changes. -/
namespace Go.Abs
open Go

/-! ### what a query does -/
def Does{α:Type}(m:Mem):Q α->α->List Nat->Prop
 | .ret a,a',tr=>a'=a/\tr=[]
 | .fail,_,_=>False
 | .get id k,a,tr=>∃ tr',tr=id::tr'/\Does m (k (m id)) a tr'
 | .ite b x y,a,tr=>(b=true/\Does m x a tr)\/(b=false/\Does m y a tr)
 | .opt o k,a,tr=>∃ x,o=some x/\Does m (k x) a tr
theorem Does.run{α ρ:Type}{m:Mem}{r:ρ}:∀ (q:Q α) (K:α->List Nat->Option ρ) (tr0:List Nat),q.run m K tr0=some r->
  ∃ a tr,Does m q a tr/\K a (tr.reverse++tr0)=some r
 | .ret a,K,tr0,h=>⟨a,[],⟨rfl,rfl⟩,h⟩
 | .fail,K,tr0,h=>by cases h
 | .get id k,K,tr0,h=>by
  obtain⟨a,tr,hd,hk⟩:=Does.run (k (m id)) K (id::tr0) h
  exact⟨a,id::tr,⟨tr,rfl,hd⟩,by simp_all⟩
 | .ite b x y,K,tr0,h=>by
  cases b with
  | true=>obtain⟨a,tr,hd,hk⟩:=Does.run x K tr0 h;exact⟨a,tr,.inl ⟨rfl,hd⟩,hk⟩
  | false=>obtain⟨a,tr,hd,hk⟩:=Does.run y K tr0 h;exact⟨a,tr,.inr ⟨rfl,hd⟩,hk⟩
 | .opt o k,K,tr0,h=>by
  cases o with
  | none=>cases h
  | some x=>obtain⟨a,tr,hd,hk⟩:=Does.run (k x) K tr0 h;exact⟨a,tr,⟨x,rfl,hd⟩,hk⟩
theorem Does.bind{α β:Type}{m:Mem}{f:α->Q β}{b:β}:∀ (q:Q α) (tr:List Nat),Does m (q.bind f) b tr->∃ a t1 t2,tr=t1++t2/\Does m q a t1/\Does m (f a) b t2
 | .ret a,tr,h=>⟨a,[],tr,rfl,⟨rfl,rfl⟩,h⟩
 | .fail,tr,h=>h.elim
 | .get id k,tr,⟨tr',e,h⟩=>by
  obtain⟨a,t1,t2,e2,h1,h2⟩:=Does.bind (k (m id)) tr' h
  exact⟨a,id::t1,t2,by rw[e,e2];rfl,⟨t1,rfl,h1⟩,h2⟩
 | .ite c x y,tr,h=>by
  rcases h with ⟨e,h⟩ | ⟨e,h⟩
  ·obtain⟨a,t1,t2,e2,h1,h2⟩:=Does.bind x tr h;exact⟨a,t1,t2,e2,.inl ⟨e,h1⟩,h2⟩
  ·obtain⟨a,t1,t2,e2,h1,h2⟩:=Does.bind y tr h;exact⟨a,t1,t2,e2,.inr ⟨e,h1⟩,h2⟩
 | .opt o k,tr,⟨x,e,h⟩=>by
  obtain⟨a,t1,t2,e2,h1,h2⟩:=Does.bind (k x) tr h
  exact⟨a,t1,t2,e2,⟨x,e,h1⟩,h2⟩
/-- A query asks no more than its trace says. -/
theorem Does.frame{α:Type}{m m':Mem}{a:α}:∀ (q:Q α) (tr:List Nat),(∀ id∈tr,m' id=m id)->Does m q a tr->Does m' q a tr
 | .ret _,_,_,h=>h
 | .fail,_,_,h=>h
 | .get id k,tr,hm,⟨tr',e,h⟩=>⟨tr',e,by
   subst e;rw[hm id (List.mem_cons_self ..)];exact Does.frame (k (m id)) tr' (λi hi=>hm i (List.mem_cons_of_mem _ hi)) h⟩
 | .ite c x y,tr,hm,h=>h.imp (fun⟨e,h⟩=>⟨e,Does.frame x tr hm h⟩) (fun⟨e,h⟩=>⟨e,Does.frame y tr hm h⟩)
 | .opt o k,tr,hm,⟨x,e,h⟩=>⟨x,e,Does.frame (k x) tr hm h⟩
theorem Does.one{α:Type}{m:Mem}{a b:α}:∀ (q:Q α) (t1 t2:List Nat),Does m q a t1->Does m q b t2->a=b/\t1=t2
 | .ret _,_,_,⟨h1,h2⟩,⟨h3,h4⟩=>⟨h1.trans h3.symm,h2.trans h4.symm⟩
 | .fail,_,_,h,_=>h.elim
 | .get id k,_,_,⟨t1,e1,h1⟩,⟨t2,e2,h2⟩=>by
  obtain⟨p,q⟩:=Does.one (k (m id)) t1 t2 h1 h2
  simp_all
 | .ite c x y,t1,t2,h1,h2=>by
  rcases h1 with ⟨e,h1⟩ | ⟨e,h1⟩<;>rcases h2 with ⟨e',h2⟩ | ⟨e',h2⟩
  ·exact Does.one x t1 t2 h1 h2
  ·rw[e] at e';grind
  ·rw[e] at e';grind
  ·exact Does.one y t1 t2 h1 h2
 | .opt o k,t1,t2,⟨x,e,h1⟩,⟨y,e',h2⟩=>by
  rw[e] at e';cases e';exact Does.one (k x) t1 t2 h1 h2

/-! ### the table of the types -/
def nK:Kd->Option Value
 | .int k=>some (.int k 0)
 | .bool=>some (.bool false)
 | .str=>some (.string ⟨#[]⟩)
 | .sl _=>some (.slice none 0 0)
 | .fn=>none
structure TyOk (P:Program) (t:Nat) (i:TyI):Prop where
 info:∃ inf,P.info? t=some inf/\inf.size=i.size/\inf.bytes=i.bytes/\
  ((match i.tag with | .ptr | .other=>False | _=>True)->∃ z us,inf.zero=some z/\i.kinds.mapM nK=some us/\z=(if i.agg then .agg us.toArray else us.headD undef)/\i.kinds.length=i.size/\(i.agg=false->i.size=1))
 und:match i.tag with
  | .struct=>∃ fs,P.underlying t=some (.struct fs)/\fs.toList.map (λf=>(f.offset,f.type))=i.fields/\P.stoodInHeld t=false/\∀ f∈fs.toList,f.name≠ "_" /\∃ inf,P.info? f.type=some inf/\inf.size≠0
  | .slice=>P.underlying t=some (.slice i.elem)
  | .string=>P.underlying t=some .string
  | .int k=>P.underlying t=some (.int k)
  | .bool=>P.underlying t=some .bool
  | .ptr=>P.underlying t=some (.pointer i.elem)/\i.size=1
  | .other=>(∃ d,P.underlying t=some d/\∀ fs n e,d≠ .struct fs/\d≠ .array n e)/\i.size=1
 fit:i.bytes<=4096
def TOk(P:Program)(ti:Ti):Prop:=∀ t i,ti t=some i->TyOk P t i

/-! ### a state's changes -/
theorem kJ{i j:Nat}(h:i≠j):Nat.beq i j=false:=by
 cases hh:Nat.beq i j with
 | false=>rfl
 | true=>simp_all
def bQ(m:Mem):List (Nat×Ent)->Mem
 | []=>m
 | (i,e)::r=>bQ (λj=>if j=i then e else m j) r
theorem DF{α:Type}(d:α)(i j:Nat)(x:α):∀ l:List (Nat×α),gC d j (GL i x l)=if j=i then x else gC d j l
 | []=>by
  by_cases h:j=i
  ·subst h;simp[GL,gC,Nat.beq_refl]
  ·have:Nat.beq j i=false:=kJ h
   simp[GL,gC,this,h]
 | (k,y)::r=>by
  have ih:=DF d i j x r
  by_cases hk:i=k
  ·subst hk
   by_cases h:j=i
   ·subst h;simp[GL,gC,Nat.beq_refl]
   ·have:Nat.beq j i=false:=kJ h
    simp[GL,gC,this,h,Nat.beq_refl]
  ·have h1:Nat.beq i k=false:=kJ hk
   simp only[GL,h1,cond_false,gC]
   grind
theorem wR:∀ (wr:List (Nat×Ent)) (s:St),(s.sets wr).m=bQ s.m wr
 | [],s=>rfl
 | (i,e)::r,s=>by
  rw[St.sets,wR r,bQ]
  congr 1
  funext j
  exact DF .none i j e s.mem
theorem wQ:∀ (wr:List (Nat×Ent)) (s:St),(s.sets wr).t=s.t
 | [],s=>rfl
 | (i,e)::r,s=>by rw[St.sets,wQ r];rfl
def n7(t:Nat->AVal):Option Nat->AVal->Nat->AVal
 | some d,v=>λi=>if i=d then v else t i
 | none,_=>t
theorem C8(s:St)(d:Option Nat)(v:AVal):(s.put d v).t=n7 s.t d v:=by
 cases d with
 | none=>rfl
 | some d=>
  funext i
  show gC .anyv i ((d,v)::s.tm)=if i=d then v else gC .anyv i s.tm
  by_cases h:i=d
  ·subst h;simp[gC,Nat.beq_refl]
  ·have:Nat.beq i d=false:=kJ h
   simp[gC,this,h]
theorem vU(s:St)(d:Option Nat)(v:AVal):(s.put d v).m=s.m:=by cases d<;>rfl
def cA(t:Nat->AVal):Operand->AVal
 | .tmp i=>t i
 | .const v=>wE v
 | .func g=> .one (.v .fn g)
 | .global _=> .anyv
theorem St.eval_eq(s:St):s.eval=cA s.t:=by funext x;cases x<;>rfl

theorem LR.const{m:Mem}{loc:Nat->Loc}{ok:Nat->Prop}{w:World}{v:Value}{l:Leaf}(h:pH v=some l):LR m loc ok w l v:=by
 unfold pH at h
 split at h
 ·cases h;exact⟨[],⟨rfl,rfl⟩,by simp⟩
 ·cases h;exact⟨[],⟨rfl,rfl⟩,by simp⟩
 ·cases h;exact⟨[],⟨rfl,rfl⟩,by simp⟩
 ·cases h;rfl
 ·split at h
  ·rename_i g first captured hc
   cases h
   simp only[Bool.and_eq_true,Array.isEmpty_iff] at hc
   exact⟨[],⟨by rw[hc.1,hc.2],rfl⟩,by simp⟩
  simp_all
 simp_all
theorem LRs.const{m:Mem}{loc:Nat->Loc}{ok:Nat->Prop}{w:World}:∀ (vs:List Value) (ls:List Leaf),j8 vs=some ls->LRs m loc ok w ls vs
 | [],ls,h=>by simp[j8] at h;subst h;rfl
 | v::vs,ls,h=>by
  simp only[j8,Option.bind_eq_some_iff] at h
  obtain⟨l,hl,ls',hls,h⟩:=h
  cases h
  exact⟨v,vs,rfl,LR.const hl,LRs.const vs ls' hls⟩
theorem VR.const{m:Mem}{loc:Nat->Loc}{ok:Nat->Prop}{w:World}(v:Value):VR m loc ok w (wE v) v:=by
 unfold wE
 split
 ·rename_i cs
  cases h:j8 cs.toList with
  | none=>simp only[Option.map_none,Option.getD_none];trivial
  | some ls=>simp only[Option.map_some,Option.getD_some];exact⟨cs.toList,by simp,LRs.const _ _ h⟩
 ·cases h:pH v with
  | none=>simp only[Option.map_none,Option.getD_none];trivial
  | some l=>simp only[Option.map_some,Option.getD_some];exact LR.const h
section rel
variable {n0:Nat} {ab rb:Nat->Prop} {w0:World} {N:Fix} {t:Nat->AVal} {m:Mem} {a:Act} {w:World} {loc:Nat->Loc} {ow:Nat->Option Nat}
theorem Rel.eval(R:Rel n0 ab rb w0 N t m a w loc ow)(x:Operand):VR m loc (Ok n0 ab m loc w) w (cA t x) (a.eval x):=by
 cases x with
 | tmp i=>exact R.temps i
 | const v=>exact VR.const v
 | global g=>trivial
 | func g=>exact⟨[],⟨rfl,rfl⟩,by simp⟩
theorem Rel.put(R:Rel n0 ab rb w0 N t m a w loc ow){d:Option Nat}(hd:∀ i,d=some i->i<N.n){x:AVal}{v:Value}(h:VR m loc (Ok n0 ab m loc w) w x v):
  Rel n0 ab rb w0 N (n7 t d x) m (a.put d v) w loc ow:=by
 cases d with
 | none=>exact R
 | some d=>
  have hdN:=hd d rfl
  refine⟨R.defers,by simp[Act.put,R.size],R.hn0,R.keep,R.hab,λi=>?_,R.ents,R.owlt,R.mutrb,R.free,R.pin,R.opin,R.held,R.npin,R.pcap,R.szk⟩
  simp only[n7,Act.put]
  by_cases hi:i=d
  ·subst hi
   have hlt:i<a.tmps.size:=by rw[R.size];omega
   simp_all
  ·simp only[hi,if_false,Array.getD_eq_getD_getElem?,Array.getElem?_setIfInBounds]
   have:¬ d=i:=λe=>hi e.symm
   simp only[this,if_false]
   have:=R.temps i
   rw[Array.getD_eq_getD_getElem?] at this
   omega
/-- The general step. -/
theorem Rel.update (R:Rel n0 ab rb w0 N t m a w loc ow) {m':Mem} {w':World} {loc':Nat->Loc} {ow':Nat->Option Nat} (hk:Keep rb w0 w') (hsz:w.heap.size<=w'.heap.size)
  (h1:∀ b,Ok n0 ab m loc w b->Ok n0 ab m' loc' w' b/\w'.heap[b]? =w.heap[b]?) (h2:∀ id,Goes (m id) (m' id) (loc id) (loc' id))
  (he:∀ id,EntR n0 (Ok n0 ab m' loc' w') m' loc' ow' w' id\/
   (m' id=m id/\loc' id=loc id/\(∀ b,dU (m id)=true->(loc id).has b->w'.heap[b]? =w.heap[b]?)/\(dU (m id)=true->∀ b,ow b=some id->ow' b=some id)))
  (ho:∀ b id,ow' b=some id->b<w'.heap.size) (hr:∀ id b,dU (m' id)=true->(loc' id).has b->n0<=b\/rb b)
  (hf:∀ b,n0<=b->b<w'.heap.size->w'.heap[b]? =w.heap[b]? \/cO w' b)
  (hp:∀ id,tQ id->fM (m' id)=true->(fM (m id)=true/\loc' id=loc id)\/(∀ b,(loc' id).has b->n0<=b)/\OJ w' (m' id) (loc' id))
  (hn:∀ id,fM (m id)=true->fM (m' id)=false->tQ id)
  (hz:∀ b,b<w.heap.size->SizeLe w w' b):
  Rel n0 ab rb w0 N t m' a w' loc' ow':=
 ⟨R.defers,R.size,R.hn0,hk,R.hab,λi=>VR.mono h1 h2 _ _ (R.temps i),λid=>(he id).elim (λh=>h) fun⟨e1,e2,e3,e4⟩=>EntR.mono h1 h2 hsz e1 e2 e3 e4 (R.ents id),ho,hr,λb h3 h4=>by
  rcases hf b h3 h4 with h5 | h5
  ·have hlt:b<w.heap.size:=by
    grind
   obtain⟨cs,T,fz,k1,k2⟩:=R.free b h3 hlt
   exact⟨cs,T,fz,h5.trans k1,k2⟩
  omega,λq hq=>by
  obtain⟨p1,⟨ls,p2⟩,p3⟩:=R.pin q hq
  have g:=h2 q.1
  rw[p2] at g
  exact⟨p1,g.1,g.2.trans p3⟩,λq hq=>by
  obtain⟨p1,⟨xs,p2⟩,p3⟩:=R.opin q hq
  have g:=h2 q.1
  rw[p2] at g
  have hnf:fM (m' q.1)=true:=by
   cases hx:fM (m' q.1)with
   | true=>rfl
   | false=>exact absurd (hn q.1 (by rw[p2];rfl) hx) p1.2
  rcases g with g | ⟨xs',d,o,g,_⟩ | ⟨⟨xs',g1,_⟩,g2⟩
  ·rw[g] at hnf;cases hnf
  ·rw[g] at hnf;cases hnf
  simp_all,λq hq i=>⟨(R.held q hq i).1,VR.mono h1 h2 _ _ (R.held q hq i).2⟩,λid hid hm b hb=>by
  rcases hp id hid hm with ⟨h5,h6⟩ | ⟨h5,_⟩
  ·rw[h6] at hb;exact R.npin id hid h5 b hb
  simp_all,λid hid hm=>by
  rcases hp id hid hm with ⟨h5,h6⟩ | ⟨_,h5⟩
  ·have h7:=R.pcap id hid h5
   have g:=h2 id
   cases he:m id with
   | pin ks xs=>
    rw[he] at g h7
    rcases g with g | ⟨xs',d,o,g,_⟩ | ⟨⟨xs',g1,_⟩,g2⟩
    ·rw[g] at hm;cases hm
    ·rw[g] at hm;cases hm
    rw[g1,g2]
    cases hl:loc id with
    | pin hv hd bl=>
     rw[hl] at h7
     rcases h7 with h7 | ⟨b,off,l,cap,k1,k2,cs,T,fz,k3,k4⟩
     ·exact .inl h7
     ·obtain⟨cs',T',fz',k5,k6⟩:=hz b (Array.getElem?_eq_some_iff.1 k3).1 cs T fz k3
      exact .inr ⟨b,off,l,cap,k1,k2,cs',T',fz',k5,Nat.le_trans k4 k6⟩
    | nil=>trivial
    | at_ b o c=>trivial
   | none=>rw[he] at h5;cases h5
   | dead=>rw[he] at h5;cases h5
   | var ls=>rw[he] at h5;cases h5
   | arr ks xs d o=>rw[he] at h5;cases h5
  omega,λb hb=>(R.szk b hb).trans (hz b (Nat.lt_of_lt_of_le hb R.keep.size))⟩
/-- Two changing entries lie in different blocks. -/
theorem Rel.owner(R:Rel n0 ab rb w0 N t m a w loc ow){id b:Nat}(hm:dU (m id)=true)(hb:(loc id).has b):ow b=some id/\b<w.heap.size:=by
 have h:=R.ents id
 unfold EntR at h
 cases he:m id with
 | none=>rw[he] at hm;cases hm
 | dead=>rw[he] at hm;cases hm
 | var ls=>
  rw[he] at h
  obtain⟨b',cs,T,fz,e,hh,hf,hs,hw⟩:=h
  rw[e] at hb
  cases hb
  grind
 | pin ks xs=>
  rw[he] at h
  obtain⟨hv,hd,bl,e,hp,hw⟩:=h
  rw[e] at hb
  have:=hw b hb
  exact⟨this,R.owlt _ _ this⟩
 | arr ks xs deep opn=>
  rw[he] at h hm
  obtain⟨bss,hown,hok,hbb,hd⟩:=h
  obtain⟨p,q,r,s⟩:=hbb b hb
  exact⟨r hm,q⟩
end rel
end Go.Abs
/- Cells of rows; slices within pinned rows. -/
namespace Go.Abs
open Go
theorem jL{k k':Kd}{x:k.T}{y:k'.T}(h:kR k k' x=some y):∃ e:k=k',y=e▸x:=by
 unfold kR at h
 grind
theorem TR.flat{w:World}:∀ (k:Kd) (x:k.T) (u:Value) (bs:List Nat),j7 k=true->TR w k x u bs->bs=[]/\∀ w',TR w' k x u bs
 | .int _,_,_,_,_,h=>⟨h.2,λ_=>h⟩
 | .bool,_,_,_,_,h=>⟨h.2,λ_=>h⟩
 | .str,_,_,_,_,h=>⟨h.2,λ_=>h⟩
 | .fn,_,_,_,_,h=>⟨h.2,λ_=>h⟩
 | .sl _,_,_,_,h,_=>by cases h
theorem sA{w:World}:∀ (ks:List Kd) (r:Row ks) (off:Nat) (k:Kd) (x:k.T) (us:List Value) (bb:List Nat),kH ks r off k=some x->RR w ks r us bb->
  ∃ u b1 b b2,us[off]? =some u/\ks[off]? =some k/\bb=b1++b++b2/\TR w k x u b
 | [],_,_,_,_,_,_,h,_=>by cases h
 | k'::ks,r,0,k,x,us,bb,h,⟨u,us',b,b',e1,e2,h1,h2⟩=>by
  obtain⟨rfl,rfl⟩:=jL h
  exact⟨u,[],b,b',by rw[e1];rfl,rfl,by rw[e2];rfl,h1⟩
 | k'::ks,r,o+1,k,x,us,bb,h,⟨u,us',b,b',e1,e2,h1,h2⟩=>by
  obtain⟨u2,b1,b2,b3,k1,k2,k3,k4⟩:=sA ks r.2 o k x us' b' h h2
  grind
/-- A slice that lies in a pinned element, by value. -/
theorem PinR.nested {w:World} {K:List Kd} {X:List (Row K)} {hv:Value} {hd:Nat->Nat->Value} {bl:List Nat} (h:PinR w K X hv hd bl) {i off:Nat} {r0:Row K} (hr:X[i]? =some r0)
  {ks:List Kd} {y:Kd.T (.sl ks)} (hg:kH K r0 off (.sl ks)=some y):∃ b,TR w (.sl ks) y (hd i off) b:=by
 obtain⟨⟨A,cap,e4,hcap,hT'⟩,hH,hnd,hW⟩:=h
 have hjx:i<List.length X:=(List.getElem?_eq_some_iff.1 hr).1
 rcases hT' with ⟨hx,_⟩ | ⟨b0,o,bss,e5,hbl,rfl,hrow⟩
 ·rw[hx] at hr;simp_all
 subst e5 e4
 have hjb:i<bss.length:=by omega
 obtain⟨us,hrr,hn,hus⟩:=hrow i r0 bss[i] hr (List.getElem?_eq_getElem hjb)
 obtain⟨u,b1,b,b2,k1,k2,k3,k4⟩:=sA K r0 off _ y us _ hg hrr
 have hu:hd i off=u:=by
  have h1:=hH b0 o _ _ rfl i off ks hjx k2
  rw[hus off u k1] at h1
  simp_all
 grind
theorem TR.row{w:World}{ks:List Kd}{ys:List (Row ks)}{u:Value}{b:List Nat}(h:TR w (.sl ks) ys u b){j:Nat}{r':Row ks}(hj:ys[j]? =some r'):
  ∃ b0 o c us bb,u= .slice (some ⟨b0,o,none⟩) ys.length c/\RR w ks r' us bb/\us.length=ks.length/\∀ q x,us[q]? =some x->w.cell? ⟨b0,o+j*ks.length+q,none⟩=some x:=by
 obtain⟨A,cap,e4,hcap,hT'⟩:=h
 rcases hT' with ⟨hx,_⟩ | ⟨b0,o,bss,e5,hbl,_,hrow⟩
 ·rw[hx] at hj;simp_all
 ·subst e5
  have hjl:j<List.length ys:=(List.getElem?_eq_some_iff.1 hj).1
  have hjb:j<bss.length:=by omega
  obtain⟨us,hrr,hn,hus⟩:=hrow j r' bss[j] hj (List.getElem?_eq_getElem hjb)
  grind
/-- The cells' contents, as the slices that lie there. -/
theorem HJ{w:World}{ks:List Kd}{xs:List (Row ks)}{hv:Value}{bl:List Nat}(h:TR w (.sl ks) xs hv bl):∃ hd,D5 w ks (List.length xs) hv hd:=by
 obtain⟨A,cap,e4,hcap,hT'⟩:=h
 rcases hT' with ⟨hx,_⟩ | ⟨b0,o,bss,e5,hbl,rfl,hrow⟩
 ·refine⟨λ_ _=>undef,λb o l c e i j ks' hi=>?_⟩
  rw[hx] at hi;simp_all
 ·refine⟨λi j=>(w.cell? ⟨b0,o+i*ks.length+j,none⟩).getD undef,λb o' l c e i j ks' hi hj=>?_⟩
  rw[e4,e5] at e
  cases e
  have hib:i<bss.length:=by omega
  obtain⟨us,hrr,hn,hus⟩:=hrow i xs[i] bss[i] (List.getElem?_eq_getElem hi) (List.getElem?_eq_getElem hib)
  grind
end Go.Abs
/- Operations that change no memory: they compute what the interpreter says. -/
namespace Go.Abs
open Go

section lists
variable {m:Mem} {loc:Nat->Loc} {ok:Nat->Prop} {w:World}
theorem LRs.drop:∀ (n:Nat) (ls:List Leaf) (us:List Value),LRs m loc ok w ls us->LRs m loc ok w (ls.drop n) (us.drop n)
 | 0,_,_,h=>h
 | n+1,[],us,h=>by rw[h];rfl
 | n+1,l::ls,us,⟨u,us',e,h,hs⟩=>by rw[e];exact LRs.drop n ls us' hs
theorem LRs.take:∀ (n:Nat) (ls:List Leaf) (us:List Value),LRs m loc ok w ls us->LRs m loc ok w (ls.take n) (us.take n)
 | 0,_,_,h=>rfl
 | n+1,[],us,h=>by rw[h];rfl
 | n+1,l::ls,us,⟨u,us',e,h,hs⟩=>by rw[e];exact⟨u,us'.take n,rfl,h,LRs.take n ls us' hs⟩
theorem LRs.append:∀ (ls ls':List Leaf) (us us':List Value),LRs m loc ok w ls us->LRs m loc ok w ls' us'->LRs m loc ok w (ls++ls') (us++us')
 | [],_,_,_,h,h'=>by rw[h];grind
 | l::ls,ls',us,us',⟨u,us1,e,h,hs⟩,h'=>by rw[e];exact⟨u,us1++us',rfl,h,LRs.append ls ls' us1 us' hs h'⟩
theorem LRs.row:∀ (ks:List Kd) (r:Row ks) (us:List Value) (bs:List Nat),RR w ks r us bs->(∀ b∈bs,ok b)->LRs m loc ok w (aI ks r) us
 | [],_,us,bs,h,_=>h.1
 | k::ks,r,us,bs,⟨u,us',b,b',e1,e2,h1,h2⟩,hb=>
  ⟨u,us',e1,⟨b,h1,λx hx=>hb x (by rw[e2];simp_all)⟩,LRs.row ks r.2 us' b' h2 λx hx=>hb x (by rw[e2];simp_all)⟩
theorem LRs.pin{id i:Nat}{K:List Kd}{X:List (Row K)}{hv:Value}{hd:Nat->Nat->Value}{bl:List Nat}(hm:m id= .pin K X)(hl:loc id= .pin hv hd bl):
  ∀ (ks:List Kd) (r:Row ks) (us:List Value) (bb:List Nat) (o:Nat),RR w ks r us bb->(∀ j ks' u,ks[j]? =some (.sl ks')->us[j]? =some u->hd i (o+j)=u)->LRs m loc ok w (oS id i o ks r) us
 | [],_,us,_,_,h,_=>h.1
 | k::ks,r,us,bb,o,⟨u,us',b,b',e1,e2,h1,h2⟩,hh=>by
  have ih:=LRs.pin hm hl ks r.2 us' b' (o+1) h2 λj ks' u hj hu=>by
   have:=hh (j+1) ks' u (by simp_all) (by rw[e1];simp_all)
   rwa [show o+1+j=o+(j+1) by omega]
  have flat:j7 k=true->LRs m loc ok w (.v k r.1::oS id i (o+1) ks r.2) us:=λhk=>by
   refine⟨u,us',e1,⟨b,h1,λx hx=>?_⟩,ih⟩
   have:b=[]:=by cases k<;>first | exact h1.2 | cases hk
   rw[this] at hx;grind
  cases k with
  | sl ks'=>
   refine⟨u,us',e1,?_,ih⟩
   have:=hh 0 ks' u rfl (by rw[e1];rfl)
   simp only[LR,hm]
   exact⟨⟨hv,hd,bl,hl,this.symm⟩,TR.one _ _ _ _ h1⟩
  | int _=>exact flat rfl
  | bool=>exact flat rfl
  | str=>exact flat rfl
  | fn=>exact flat rfl
theorem VR.one(l:Leaf)(u:Value):VR m loc ok w (.one l) u↔LR m loc ok w l u:=Iff.rfl
theorem VR.agg(ls:List Leaf)(u:Value):VR m loc ok w (.agg ls) u↔∃ us:List Value,u= .agg us.toArray/\LRs m loc ok w ls us:=Iff.rfl
theorem VR.leaves{x:AVal}{ls:List Leaf}{u:Value}(h:VR m loc ok w x u)(e:x.leaves=some ls):
  ∃ us,u.cells=us.toArray/\LRs m loc ok w ls us/\((us=[u]/\∃ l,x= .one l/\ls=[l])\/(u= .agg us.toArray/\x= .agg ls)):=by
 cases x with
 | one l=>
  simp only[AVal.leaves] at e;cases e
  have hc:=LR.cell l u h
  refine⟨[u],?_,⟨u,[],rfl,h,rfl⟩,.inl ⟨rfl,l,rfl,rfl⟩⟩
  cases u<;>first | rfl | cases hc
 | agg ls'=>
  simp only[AVal.leaves] at e;cases e
  obtain⟨us,rfl,h⟩:=h
  exact⟨us,rfl,h,.inr ⟨rfl,rfl⟩⟩
 | _=>cases e
/-- A value made of leaves. -/
theorem VR.mk {agg:Bool} {ls:List Leaf} {v:AVal} {us:List Value} {u:Value} (e:rH agg ls=some v) (h:LRs m loc ok w ls us)
  (hu:u=if agg then .agg us.toArray else us.headD undef):VR m loc ok w v u:=by
 unfold rH at e
 cases agg with
 | true=>simp at e hu;subst e;exact⟨us,hu,h⟩
 | false=>
  simp only[Bool.false_eq_true,if_false] at e hu
  split at e
  ·rename_i l
   cases e
   obtain⟨x,us',rfl,h1,h2⟩:=h
   simp at hu;subst hu;exact h1
  simp_all
end lists
end Go.Abs
namespace Go.Abs
open Go
section loads
variable {P:Program} {t:Nat} {i:TyI} {w:World}
theorem TyOk.isAgg(T:TyOk P t i)(w:World):(isAgg t).run P w= .ok i.agg w:=by
 have h:=T.und
 unfold Go.isAgg TyI.agg
 cases ht:i.tag with
 | struct=>rw[ht] at h;obtain⟨fs,h,_⟩:=h;simp[run_underlying h]
 | slice=>rw[ht] at h;simp[run_underlying h]
 | string=>rw[ht] at h;simp[run_underlying h]
 | int k=>rw[ht] at h;simp[run_underlying h]
 | bool=>rw[ht] at h;simp[run_underlying h]
 | ptr=>rw[ht] at h;simp[run_underlying h.1]
 | other=>
  rw[ht] at h
  obtain⟨⟨d,h,hd⟩,_⟩:=h
  simp only[Sem.run_bind,run_underlying h,Result.andThen]
  cases d<;>first | rfl | simp_all
theorem TyOk.size(T:TyOk P t i)(w:World):(sizeOf t).run P w= .ok i.size w:=by
 obtain⟨inf,h,e,_⟩:=T.info
 simp[sizeOf,typeInfo,h,e]
theorem TyOk.size1(T:TyOk P t i)(h:i.agg=false):i.size=1:=by
 have hu:=T.und
 obtain⟨inf,h1,e,_,hz⟩:=T.info
 grind
theorem AL(T:TyOk P t i){b o:Nat}{us:List Value}(hl:us.length=i.size)(hc:∀ j u,us[j]? =some u->w.cell? ⟨b,o+j,none⟩=some u):
  (loadVar t ⟨b,o,none⟩).run P w= .ok (if i.agg then .agg us.toArray else us.headD undef) w:=by
 unfold loadVar
 simp only[Sem.run_bind,T.isAgg,Result.andThen]
 cases ha:i.agg with
 | true=>
  simp only[if_true,Sem.run_bind,T.size,Result.andThen]
  rw[<- hl,run_loadCells_list w ⟨b,o,none⟩ us (λj v hj=>by rw[Addr.add_lit];simp_all)]
  simp
 | false=>
  have h1:=T.size1 ha
  rw[h1] at hl
  match us,hl with
  | [u],_=>
   have:=hc 0 u rfl
   simp_all
end loads

section ops0
variable {P:Program} {E:Env} (hT:TOk P E.ti)
variable {n0:Nat} {ab rb:Nat->Prop} {w0:World} {N:Fix} {t:Nat->AVal} {m:Mem} {a:Act} {w:World} {loc:Nat->Loc} {ow:Nat->Option Nat}
include hT

theorem cB{α:Type}{tid:Nat}{k:TyI->Q α}{x:α}{tr:List Nat}(h:Does m (ty E tid k) x tr):∃ i,TyOk P tid i/\E.ti tid=some i/\Does m (k i) x tr:=by
 unfold ty at h
 split at h
 ·rename_i i hi;exact⟨i,hT tid i hi,hi,h⟩
 ·exact h.elim
omit hT in
theorem lE{α:Type}{x:AVal}{k:List Leaf->Q α}{y:α}{tr:List Nat}(h:Does m (eY x k) y tr):∃ ls,x.leaves=some ls/\Does m (k ls) y tr:=by
 unfold eY at h
 split at h
 ·simp_all
 ·exact h.elim
omit hT in
theorem F2{α:Type}{agg:Bool}{ls:List Leaf}{k:AVal->Q α}{y:α}{tr:List Nat}(h:Does m (val agg ls k) y tr):∃ v,rH agg ls=some v/\Does m (k v) y tr:=by
 unfold val at h
 split at h
 ·simp_all
 ·exact h.elim
omit hT in
theorem kZ{α:Type}{x:AVal}{k:IntKind->Int->Q α}{y:α}{tr:List Nat}(h:Does m (wI x k) y tr):∃ j,∃ n:Int,x= .one (.v (.int j) n)/\Does m (k j n) y tr:=by
 unfold wI at h
 split at h
 ·grind
 ·exact h.elim
omit hT in
theorem VR.int{ok:Nat->Prop}{j:IntKind}{n:Int}{u:Value}(h:VR m loc ok w (.one (.v (.int j) n)) u):u= .int j n:=by
 obtain⟨bs,⟨h,_⟩,_⟩:=h;omega
omit hT in
theorem VR.bool{ok:Nat->Prop}{n:Bool}{u:Value}(h:VR m loc ok w (.one (.v .bool n)) u):u= .bool n:=by
 obtain⟨bs,⟨h,_⟩,_⟩:=h;omega
omit hT in
theorem VR.str{ok:Nat->Prop}{s:ByteArray}{u:Value}(h:VR m loc ok w (.one (.v .str s)) u):u= .string s:=by
 obtain⟨bs,⟨h,_⟩,_⟩:=h;omega
omit hT in
theorem VR.fn{ok:Nat->Prop}{s:Nat}{u:Value}(h:VR m loc ok w (.one (.v .fn s)) u):u= .func (.func s) #[] #[]:=by
 obtain⟨bs,⟨h,_⟩,_⟩:=h;omega
omit hT in
theorem VR.mkInt{ok:Nat->Prop}(j:IntKind)(n:Int):VR m loc ok w (.one (.v (.int j) n)) (.int j n):=⟨[],⟨rfl,rfl⟩,by simp⟩
omit hT in
theorem VR.mkBool{ok:Nat->Prop}(n:Bool):VR m loc ok w (iA n) (.bool n):=⟨[],⟨rfl,rfl⟩,by simp⟩
omit hT in
theorem VR.mkStr{ok:Nat->Prop}(n:ByteArray):VR m loc ok w (.one (.v .str n)) (.string n):=⟨[],⟨rfl,rfl⟩,by simp⟩

omit hT in
/-- Leaves that lie at a place are loaded. -/
theorem oY {ok:Nat->Prop} {tid:Nat} {i:TyI} (T:TyOk P tid i) {b o off:Nat} {ls:List Leaf} {us:List Value} {e:Eff} {tr:List Nat}
  (hs:LRs m loc ok w ls us) (hc:∀ j u,us[j]? =some u->w.cell? ⟨b,o+j,none⟩=some u)
  (h:Does m (if off+i.size<=ls.length then val i.agg ((ls.drop off).take i.size) λv=>Q.ret ⟨v,[]⟩else .fail) e tr):
  ∃ v,(loadVar tid ⟨b,o+off,none⟩).run P w= .ok v w/\e.wr=[]/\VR m loc ok w e.v v:=by
 split at h
 ·rename_i hle
  obtain⟨v,hv,h⟩:=F2 h
  obtain⟨rfl,_⟩:=h
  have hlen:=hs.length
  have hs':=(hs.drop off).take i.size
  have hul:((us.drop off).take i.size).length=i.size:=by grind
  refine⟨_,AL T hul λj u hj=>?_,rfl,VR.mk hv hs' rfl⟩
  grind
 ·exact h.elim

theorem PM(R:Rel n0 ab rb w0 N t m a w loc ow){tid:Nat}{x:Operand}{e:Eff}{tr:List Nat}(h:Does m (ty E tid λi=>DL i (cA t x)) e tr):
  ∃ v,(Instr.loadAt tid (a.eval x)).run P w= .ok v w/\e.wr=[]/\VR m loc (Ok n0 ab m loc w) w e.v v:=by
 obtain⟨i,T,_,h⟩:=cB hT h
 have hv:=R.eval x
 generalize cA t x=q at h hv
 generalize a.eval x=u at hv
 unfold DL at h
 dsimp only at h
 split at h
 ·rename_i id off
  obtain⟨tr',_,h⟩:=h
  have hE:=R.ents id
  simp only[VR,VR1,LR] at hv
  unfold EntR at hE
  cases hm:m id with
  | var ls=>
   rw[hm] at hE h hv
   obtain⟨b,e1,e2⟩:=hv
   obtain⟨b',cs,T',fz,e3,hh,_,hs,_⟩:=hE
   rw[e1] at e3;cases e3
   subst e2
   have:=oY T (b:=b) (o:=0) (off:=off) hs (λj u hj=>by
    rw[Nat.zero_add]
    unfold World.cell?
    simp_all) h
   simpa [Instr.loadAt,Instr.sureAddr] using this
  | _=>rw[hm] at h;simp_all
 ·rename_i id j off
  obtain⟨tr',_,h⟩:=h
  have hE:=R.ents id
  simp only[VR,VR1,LR] at hv
  unfold EntR at hE
  cases hm:m id with
  | arr ks xs deep opn=>
   rw[hm] at hE h hv
   obtain⟨hj,b,o,c,e1,e2⟩:=hv
   obtain⟨bss,hown,hok,_,_⟩:=hE
   rw[e1] at hown
   obtain⟨cs,T',fz,hh,_,_,_,hbl,hr⟩:=hown
   obtain⟨r,hrow,h⟩:=h
   have hjb:j<bss.length:=by omega
   obtain⟨us,hrr,hu⟩:=hr j r bss[j] hrow (List.getElem?_eq_getElem hjb)
   subst e2
   have:=oY T (b:=b) (o:=o+j*ks.length) (off:=off) (LRs.row (m:=m) (loc:=loc) (ok:=Ok n0 ab m loc w) ks r us _ hrr (λb hb=>hok _ (List.getElem_mem hjb) b hb)) (λj' u hj'=>by
    unfold World.cell?
    simp_all) h
   simpa [Instr.loadAt,Instr.sureAddr] using this
  | pin ks xs=>
   rw[hm] at hE h hv
   obtain⟨hj,b,o,n,c,hd,bl,e1,e2⟩:=hv
   obtain⟨hv,hd',bl',e3,⟨⟨A,cap,e4,hcap,hT'⟩,hH,_⟩,_⟩:=hE
   rw[e1] at e3;cases e3
   cases e4
   obtain⟨r,hrow,h⟩:=h
   unfold at? at hrow
   rcases hT' with ⟨hx,_⟩ | ⟨b',off',bss,e5,hbl,_,hr⟩
   ·rw[hx] at hrow;simp_all
   ·cases e5
    have hjb:j<bss.length:=by omega
    obtain⟨us,hrr,hn,hu⟩:=hr j r bss[j] hrow (List.getElem?_eq_getElem hjb)
    subst e2
    have:=oY T (b:=b) (o:=o+j*ks.length) (off:=off) (LRs.pin (i:=j) (ok:=Ok n0 ab m loc w) hm e1 ks r us _ 0 hrr (λq ks' u hq hu'=>by
     have h1:=hH b o _ _ rfl j q ks' hj hq
     rw[hu q u hu'] at h1
     rw[Nat.zero_add];simp_all)) hu h
    simpa [Instr.loadAt,Instr.sureAddr] using this
  | _=>rw[hm] at h;exact h.elim
 ·rename_i ks r off
  obtain⟨b,o,us,bs,e1,hrr,hb,hkb,hc⟩:=hv
  subst e1
  have:=oY T (b:=b) (o:=o) (off:=off) (LRs.row (m:=m) (loc:=loc) ks r us bs hrr hb) hc h
  simpa [Instr.loadAt,Instr.sureAddr] using this
 ·rename_i id p off wd j o
  split at h
  case isFalse=>exact h.elim
  rename_i hsz
  obtain⟨hs1,hs2⟩:=hsz
  obtain⟨tr',_,h⟩:=h
  have hE:=R.ents id
  simp only[VR,VR1,LR] at hv
  unfold EntR at hE
  cases hm:m id with
  | pin ks xs=>
   rw[hm] at hE h hv
   dsimp only at hv h
   obtain⟨r,hr,h⟩:=h
   split at h
   case h_2=>exact h.elim
   rename_i ks' hks
   obtain⟨ys,hys,h⟩:=h
   obtain⟨r',hr',h⟩:=h
   split at h
   case h_2=>exact h.elim
   rename_i k hk
   split at h
   case isFalse=>exact h.elim
   rename_i hcond
   obtain⟨hwd,hfl⟩:=hcond
   obtain⟨x,hx,h⟩:=h
   obtain⟨rfl,_⟩:=h
   obtain⟨hvv,hd,bl,b,o2,n,c,hl,hhd,rfl⟩:=hv
   obtain⟨hv',hd',bl',hl',hp,_⟩:=hE
   rw[hl] at hl';cases hl'
   obtain⟨bn,hTR⟩:=hp.nested hr hys
   obtain⟨b0,o0,c0,us,bb,hu,hrr,_,hcell⟩:=TR.row hTR hr'
   rw[hhd] at hu;cases hu
   obtain⟨uo,b1,b2,b3,k1,k2,k3,k4⟩:=sA ks' r' o k x us bb hx hrr
   have hnil:=(TR.flat _ _ _ _ hfl k4).1
   subst hnil
   subst hwd
   have:=oY T (b:=b) (o:=o2+j*ks'.length+o) (off:=0) (ls:=[.v k x]) (us:=[uo]) (e:=⟨.one (.v k x),[]⟩) (tr:=[]) (m:=m) (loc:=loc) (ok:=Ok n0 ab m loc w) ⟨uo,[],rfl,⟨[],k4,λb hb=>by grind⟩,rfl⟩ (λq z hq=>by
    grind) (by
    rw[hs1,hs2,if_pos (by simp)]
    exact⟨rfl,rfl⟩)
   simpa [Instr.loadAt,Instr.sureAddr] using this
  | _=>rw[hm] at h;exact h.elim
 ·exact h.elim
end ops0
end Go.Abs
/- Operations that change no memory, second part. -/
namespace Go.Abs
open Go
section ops0
variable {P:Program} {E:Env} (hT:TOk P E.ti)
variable {n0:Nat} {ab rb:Nat->Prop} {w0:World} {N:Fix} {t:Nat->AVal} {m:Mem} {a:Act} {w:World} {loc:Nat->Loc} {ow:Nat->Option Nat}
include hT

omit hT in
theorem uK{fs:Array Field}{l:List (Nat×Nat)}(h:fs.toList.map (λf=>(f.offset,f.type))=l){f:Nat}{o u:Nat}(hf:l[f]? =some (o,u)):
  ∃ fd,fs[f]? =some fd/\fd.offset=o/\fd.type=u/\fd∈fs.toList:=by
 rw[<- h,List.getElem?_map] at hf
 grind

theorem GT(R:Rel n0 ab rb w0 N t m a w loc ow){tid f:Nat}{x:Operand}{e:Eff}{tr:List Nat}(h:Does m (BZ E tid (cA t x) f) e tr):
  ∃ v,(Instr.fieldAt tid (a.eval x) f).run P w= .ok v w/\e.wr=[]/\VR m loc (Ok n0 ab m loc w) w e.v v:=by
 obtain⟨i,T,_,h⟩:=cB hT h
 have hv:=R.eval x
 generalize cA t x=q at h hv
 generalize a.eval x=u at hv
 have hu:=T.und
 split at h
 ·rename_i htag
  rw[htag] at hu
  obtain⟨fs,hund,hmap,_,hnz⟩:=hu
  split at h
  ·rename_i o ft hf
   obtain⟨fd,hfd,ho,hty,hmem⟩:=uK hmap hf
   obtain⟨_,inf,hinf,hsz⟩:=hnz fd hmem
   have hrun:∀ b p:Nat,(Instr.fieldAt tid (.pointer (some ⟨b,p,none⟩)) f).run P w= .ok (.pointer (some ⟨b,p+o,none⟩)) w:=by
    intro b p
    simp[Instr.fieldAt,run_underlying hund,hfd,Instr.sureAddr,fieldPlace,sizeOf,typeInfo,hinf,hsz,Addr.add_lit,ho]
   split at h
   ·rename_i id off
    obtain⟨rfl,_⟩:=h
    simp only[VR,VR1,LR] at hv ⊢
    grind
   ·rename_i id j off
    obtain⟨rfl,_⟩:=h
    simp only[VR,VR1,LR] at hv ⊢
    grind
   ·rename_i ks r off
    obtain⟨rfl,_⟩:=h
    obtain⟨b,o2,us,bs,e1,hrr,hb,hkb,hc⟩:=hv
    subst e1
    exact⟨_,hrun b _,rfl,b,o2,us,bs,by rw[Nat.add_assoc],hrr,hb,hkb,hc⟩
   ·exact h.elim
  ·exact h.elim
 ·exact h.elim

omit hT in
theorem M9 {ok:Nat->Prop} {tid:Nat} {i:TyI} (T:TyOk P tid i) {off:Nat} {ls:List Leaf} {us:List Value} {e:Eff} {tr:List Nat}
  (hs:LRs m loc ok w ls us) (h:Does m (if off+i.size<=ls.length then val i.agg ((ls.drop off).take i.size) λv=>Q.ret ⟨v,[]⟩else .fail) e tr):
  ∃ v,(part tid us.toArray off).run P w= .ok v w/\e.wr=[]/\VR m loc ok w e.v v:=by
 split at h
 ·rename_i hle
  obtain⟨v,hv,h⟩:=F2 h
  obtain⟨rfl,_⟩:=h
  have hlen:=hs.length
  have hs':=(hs.drop off).take i.size
  refine⟨_,?_,rfl,VR.mk hv hs' rfl⟩
  unfold part
  simp only[Sem.run_bind,T.isAgg,Result.andThen]
  cases ha:i.agg with
  | true=>
   simp only[if_true,Sem.run_bind,T.size,Result.andThen,Sem.run_pure]
   simp
  | false=>
   have h1:=T.size1 ha
   have hlt:off<us.length:=by omega
   rw[h1]
   have e1:us.toArray[off]? =some us[off]:=by simp
   simp only[Bool.false_eq_true,if_false,e1]
   rw[List.take_one,List.head?_drop,List.getElem?_eq_getElem hlt]
   rfl
 ·exact h.elim
theorem S5(R:Rel n0 ab rb w0 N t m a w loc ow){tid f:Nat}{x:Operand}{e:Eff}{tr:List Nat}(h:Does m (RD E tid (cA t x) f) e tr):
  ∃ v,(Instr.field tid (a.eval x) f).run P w= .ok v w/\e.wr=[]/\VR m loc (Ok n0 ab m loc w) w e.v v:=by
 obtain⟨i,T,_,h⟩:=cB hT h
 have hv:=R.eval x
 generalize cA t x=q at h hv
 generalize a.eval x=u at hv
 have hu:=T.und
 split at h
 ·rename_i htag
  rw[htag] at hu
  obtain⟨fs,hund,hmap,_,hnz⟩:=hu
  split at h
  ·rename_i o ft hf
   obtain⟨fd,hfd,ho,hty,hmem⟩:=uK hmap hf
   obtain⟨j,T',_,h⟩:=cB hT h
   split at h
   ·rename_i ls
    obtain⟨us,e1,hs⟩:=hv
    subst e1
    have:=M9 T' hs h
    simpa [Instr.field,run_underlying hund,hfd,asAgg,ho,hty] using this
   ·exact h.elim
  ·exact h.elim
 ·exact h.elim
omit hT in
theorem TyOk.kinds_len{tid:Nat}{i:TyI}(T:TyOk P tid i)(h:match i.tag with | .ptr | .other=>False | _=>True):i.kinds.length=i.size:=by
 obtain⟨inf,_,_,_,hz⟩:=T.info
 grind
theorem GS(R:Rel n0 ab rb w0 N t m a w loc ow){tid:Nat}{x ix:Operand}{e:Eff}{tr:List Nat}(h:Does m (BN E tid (cA t x) (cA t ix)) e tr):
  ∃ v,(Instr.indexAt tid (a.eval x) (a.eval ix)).run P w= .ok v w/\e.wr=[]/\VR m loc (Ok n0 ab m loc w) w e.v v:=by
 obtain⟨i,T,_,h'⟩:=cB hT h;replace h:=h';clear h'
 have hv:=R.eval x
 have hx:=R.eval ix
 generalize cA t x=q at h hv
 generalize a.eval x=u at hv
 generalize cA t ix=qx at h hx
 generalize a.eval ix=ux at hx
 have hu:=T.und
 split at h
 ·rename_i htag
  rw[htag] at hu
  dsimp only at hu
  obtain⟨j,T',_,h'⟩:=cB hT h;replace h:=h';clear h'
  obtain⟨k,n,rfl,h'⟩:=kZ h;replace h:=h';clear h'
  have:=VR.int hx;subst this
  rcases h with ⟨h0,h⟩ | ⟨_,h⟩
  case inr=>exact h.elim
  have h0:0<=n:=by simp_all
  have hrun:∀ (b off len cap:Nat),n.toNat<len->(Instr.indexAt tid (.slice (some ⟨b,off,none⟩) len cap) (.int k n)).run P w= .ok (.pointer (some ⟨b,off+n.toNat*j.size,none⟩)) w:=by
   intro b off len cap hlt
   have:n<(len:Int):=by omega
   simp[Instr.indexAt,asIntOf,run_underlying hu,h0,this,T'.size,Addr.add_lit]
  split at h
  ·rename_i ks xs
   split at h
   case isFalse=>exact h.elim
   rename_i hks
   obtain⟨r,hr,h⟩:=h
   obtain⟨rfl,_⟩:=h
   obtain⟨bs,⟨A,cap,rfl,hcap,hh⟩,hok⟩:=hv
   unfold at? at hr
   rcases hh with ⟨hnil,_⟩ | ⟨b,off,bss,rfl,hl,rfl,hh⟩
   ·rw[hnil] at hr;simp_all
   ·have hlt:n.toNat<List.length xs:=(List.getElem?_eq_some_iff.1 hr).1
    have hb:n.toNat<bss.length:=by rw[hl];omega
    obtain⟨us,hrr,hn,hu⟩:=hh n.toNat r bss[n.toNat] hr (List.getElem?_eq_getElem hb)
    refine⟨_,hrun b off _ _ hlt,rfl,b,off+n.toNat*ks.length,us,bss[n.toNat],by rw[hks];rfl,hrr,λy hy=>hok y ?_,hok b (List.mem_cons_self ..),hu⟩
    exact List.mem_cons_of_mem _ (List.mem_flatten.2 ⟨_,List.getElem_mem hb,hy⟩)
  ·rename_i id
   obtain⟨tr',_,h⟩:=h
   have hE:=R.ents id
   simp only[VR,VR1,LR] at hv
   unfold EntR at hE
   cases hm:m id with
   | arr ks xs d o'=>
    rw[hm] at hE h hv
    dsimp only at hv h
    split at h
    case isFalse=>exact h.elim
    rename_i hks
    obtain⟨r,hr,h⟩:=h
    obtain⟨rfl,_⟩:=h
    obtain⟨bss,hown,hok,_,_⟩:=hE
    unfold at? at hr
    have hlt:n.toNat<List.length xs:=(List.getElem?_eq_some_iff.1 hr).1
    cases hl:loc id with
    | nil=>rw[hl] at hown;rw[hown.1] at hr;simp_all
    | pin _ _ _=>rw[hl] at hown;exact hown.elim
    | at_ b off cap=>
     rw[hl] at hv
     subst hv
     refine⟨_,hrun b off _ _ hlt,rfl,?_⟩
     simp only[VR,VR1,LR,hm]
     simp_all
   | pin ks xs=>
    rw[hm] at hE h hv
    dsimp only at hv h
    split at h
    case isFalse=>exact h.elim
    rename_i hks
    obtain⟨r,hr,h⟩:=h
    obtain⟨rfl,_⟩:=h
    obtain⟨hvv,hd,bl,hl,⟨hTR,hH,_⟩,_⟩:=hE
    unfold at? at hr
    have hlt:n.toNat<List.length xs:=(List.getElem?_eq_some_iff.1 hr).1
    rw[hl,Loc.val_pin (TR.one _ _ _ _ hTR)] at hv
    obtain⟨A,cap,e4,hcap,hT'⟩:=hTR
    rcases hT' with ⟨hx,_⟩ | ⟨b',off',bss,e5,hbl,_,_⟩
    ·rw[hx] at hr;simp_all
    ·subst e5
     subst e4
     subst hv
     refine⟨_,hrun b' off' _ _ hlt,rfl,?_⟩
     simp only[VR,VR1,LR,hm]
     simp_all
   | _=>rw[hm] at h;exact h.elim
  ·rename_i id p off
   obtain⟨tr',_,h⟩:=h
   have hE:=R.ents id
   simp only[VR,VR1,LR] at hv
   unfold EntR at hE
   cases hm:m id with
   | pin ks xs=>
    rw[hm] at hE h hv
    dsimp only at hv h
    obtain⟨r,hr,h⟩:=h
    split at h
    case h_2=>exact h.elim
    rename_i ks' hks
    split at h
    case isFalse=>exact h.elim
    rename_i hwd
    obtain⟨ys,hys,h⟩:=h
    obtain⟨r',hr',h⟩:=h
    obtain⟨rfl,_⟩:=h
    obtain⟨⟨hvv,hd,bl,hl,rfl⟩,_⟩:=hv
    obtain⟨hv',hd',bl',hl',hp,_⟩:=hE
    rw[hl] at hl';cases hl'
    obtain⟨bn,hTR⟩:=hp.nested hr hys
    obtain⟨b0,o0,c0,us,bb,hu,hrr,_,hcell⟩:=TR.row hTR hr'
    have hlt:n.toNat<List.length ys:=(List.getElem?_eq_some_iff.1 hr').1
    rw[hu]
    refine⟨_,hrun b0 o0 _ _ hlt,rfl,?_⟩
    simp only[VR,VR1,LR,hm]
    grind
   | _=>rw[hm] at h;exact h.elim
  ·exact h.elim
 ·exact h.elim
omit hT in
theorem CP{tid:Nat}(hu:P.underlying tid=some .string)(s:ByteArray)(b:UInt8){k:IntKind}{n:Int}(h0:0<=n)(hb:s.data.toList[n.toNat]? =some b):
  (Instr.index tid (.string s) (.int k n)).run P w= .ok (.int .u8 b.toNat) w:=by
 have hb':s[n.toNat]? =some b:=by
  have:s.data[n.toNat]? =some b:=by simp_all
  have hlt:=(Array.getElem?_eq_some_iff.1 this).1
  rw[getElem?_pos s n.toNat hlt]
  exact congrArg some (Array.getElem?_eq_some_iff.1 this).2
 simp[Instr.index,asIntOf,run_underlying hu,h0,hb']
theorem S4(R:Rel n0 ab rb w0 N t m a w loc ow){tid:Nat}{x ix:Operand}{e:Eff}{tr:List Nat}(h:Does m (QW E tid (cA t x) (cA t ix)) e tr):
  ∃ v,(Instr.index tid (a.eval x) (a.eval ix)).run P w= .ok v w/\e.wr=[]/\VR m loc (Ok n0 ab m loc w) w e.v v:=by
 obtain⟨i,T,_,h'⟩:=cB hT h;replace h:=h';clear h'
 have hv:=R.eval x
 have hx:=R.eval ix
 generalize cA t x=q at h hv
 generalize a.eval x=u at hv
 generalize cA t ix=qx at h hx
 generalize a.eval ix=ux at hx
 have hu:=T.und
 split at h
 ·rename_i s htag
  rw[htag] at hu
  dsimp only at hu
  obtain⟨k,n,rfl,h'⟩:=kZ h;replace h:=h';clear h'
  have:=VR.int hx;subst this
  have:=VR.str hv;subst this
  rcases h with ⟨h0,h⟩ | ⟨_,h⟩
  case inr=>exact h.elim
  have h0:0<=n:=by simp_all
  obtain⟨b,hb,h⟩:=h
  obtain⟨rfl,_⟩:=h
  exact⟨_,CP hu s b h0 hb,rfl,VR.mkInt _ _⟩
 ·exact h.elim
end ops0
end Go.Abs
/- Operations that change no memory, third part: arithmetic, comparisons, lengths. -/
namespace Go.Abs
open Go
section eq
variable {P:Program} {E:Env} (hT:TOk P E.ti)
variable {m:Mem} {loc:Nat->Loc} {ok:Nat->Prop} {w:World}
/-- What a list of cells is as a value of a type. -/
def dQ(agg:Bool)(us:List Value):Value:=if agg then .agg us.toArray else us.headD undef
theorem GY{tid:Nat}{i:TyI}(T:TyOk P tid i){o:Nat}{us:List Value}(h:o+i.size<=us.length):
  (part tid us.toArray o).run P w= .ok (dQ i.agg ((us.drop o).take i.size)) w:=by
 unfold part
 simp only[Sem.run_bind,T.isAgg,Result.andThen]
 cases ha:i.agg with
 | true=>
  simp only[if_true,Sem.run_bind,T.size,Result.andThen,Sem.run_pure,dQ]
  simp
 | false=>
  have h1:=T.size1 ha
  have hlt:o<us.length:=by omega
  rw[h1]
  have e1:us.toArray[o]? =some us[o]:=by simp
  simp only[Bool.false_eq_true,if_false,e1,dQ]
  rw[List.take_one,List.head?_drop,List.getElem?_eq_getElem hlt]
  rfl
include hT
theorem RE:∀ (d:Nat) (tid:Nat) (ls ls':List Leaf) (us us':List Value) (r:Bool),N4 E d tid ls ls'=some r->LRs m loc ok w ls us->LRs m loc ok w ls' us'->
  ∃ i,E.ti tid=some i/\(∀ k,(Op.equalIn (d+k) tid (dQ i.agg us) (dQ i.agg us')).run P w= .ok r w)/\∀ k,P.eqGuardType (d+k) tid=false:=by
 intro d
 induction d with
 | zero=>intro tid ls ls' us us' r h;cases h
 | succ d ih=>
  intro tid ls ls' us us' r h hs hs'
  simp only[N4] at h
  cases hi:E.ti tid with
  | none=>rw[hi] at h;grind
  | some i=>
   rw[hi] at h
   dsimp only at h
   have T:=hT tid i hi
   have hu:=T.und
   refine⟨i,rfl,?_⟩
   have plain:∀ (l l':Leaf) (u u':Value),JJ i.tag l l'=some r->LR m loc ok w l u->LR m loc ok w l' u'->
     (∀ k,(Op.equalIn (d+1+k) tid u u').run P w= .ok r w)/\i.agg=false/\∀ k,P.eqGuardType (d+1+k) tid=false:=by
    intro l l' u u' he hl hl'
    have hd:∀ k,d+1+k=(d+k)+1:=by omega
    unfold JJ at he
    split at he
    ·rename_i k j a k' b htag
     split at he
     ·rename_i hjk;subst hjk
      cases he
      rw[htag] at hu
      obtain⟨_,⟨rfl,_⟩,_⟩:=hl
      obtain⟨_,⟨rfl,_⟩,_⟩:=hl'
      refine⟨λn=>?_,by simp[TyI.agg,htag],λn=>?_⟩
      ·rw[hd];simp[Op.equalIn,run_underlying hu,gW]
      ·rw[hd];simp[Program.eqGuardType,hu]
     simp_all
    ·rename_i a b htag
     cases he
     rw[htag] at hu
     obtain⟨_,⟨rfl,_⟩,_⟩:=hl
     obtain⟨_,⟨rfl,_⟩,_⟩:=hl'
     refine⟨λn=>?_,by simp[TyI.agg,htag],λn=>?_⟩
     ·rw[hd];simp[Op.equalIn,run_underlying hu,nD]
     ·rw[hd];simp[Program.eqGuardType,hu]
    ·rename_i a b htag
     cases he
     rw[htag] at hu
     obtain⟨_,⟨rfl,_⟩,_⟩:=hl
     obtain⟨_,⟨rfl,_⟩,_⟩:=hl'
     refine⟨λn=>?_,by simp[TyI.agg,htag],λn=>?_⟩
     ·rw[hd];simp[Op.equalIn,run_underlying hu,RZ]
     ·rw[hd];simp[Program.eqGuardType,hu]
    simp_all
   have leafy:QL i.tag ls ls'=some r->
     (∀ k,(Op.equalIn (d+1+k) tid (dQ i.agg us) (dQ i.agg us')).run P w= .ok r w)/\∀ k,P.eqGuardType (d+1+k) tid=false:=by
    intro he
    clear h
    unfold QL at he
    split at he
    ·rename_i l l'
     obtain⟨u,us1,rfl,hl,hn⟩:=hs
     obtain⟨u',us1',rfl,hl',hn'⟩:=hs'
     obtain⟨p,q,z⟩:=plain _ _ u u' he hl hl'
     refine⟨λk=>?_,z⟩
     simp only[dQ,q]
     grind
    simp_all
   cases htag:i.tag with
   | struct=>
    rw[htag] at hu h
    obtain⟨fs,hund,hmap,hst,hnz⟩:=hu
    have hagg:i.agg=true:=by simp[TyI.agg,htag]
    have key:∀ (fl:List Field) (r:Bool),(∀ f∈fl,f.name≠ "_")->TS E (N4 E d) (fl.map λf=>(f.offset,f.type)) ls ls'=some r->
      (∀ k,(Op.eqFields (d+k) us.toArray us'.toArray fl).run P w= .ok r w)/\∀ k,∀ f∈fl,P.eqGuardType (d+k) f.type=false:=by
     intro fl
     induction fl with
     | nil=>intro r _ he;cases he;exact⟨λk=>by rfl,λk f hf=>by grind⟩
     | cons f fl ihf=>
      intro r hnm he
      simp only[List.map_cons,TS] at he
      cases hj:E.ti f.type with
      | none=>rw[hj] at he;grind
      | some j=>
       rw[hj] at he
       dsimp only at he
       split at he
       case isFalse=>grind
       rename_i hle
       simp only[Option.bind_eq_some_iff] at he
       obtain⟨p,hp,q,hq,he⟩:=he
       cases he
       have T':=hT f.type j hj
       obtain⟨i',hi',hrun,hg⟩:=ih f.type _ _ _ _ p hp ((hs.drop f.offset).take j.size) ((hs'.drop f.offset).take j.size)
       rw[hj] at hi';cases hi'
       obtain⟨hr2,hg2⟩:=ihf q (λg hgm=>hnm g (List.mem_cons_of_mem _ hgm)) hq
       have hl1:=hs.length
       have hl2:=hs'.length
       refine⟨λk=>?_,λk g hgm=>?_⟩
       ·have hn':=hnm f (List.mem_cons_self ..)
        rw[Op.eqFields]
        simp only[if_pos hn',Sem.run_bind,GY T' (show f.offset+j.size<=us.length by omega),GY T' (show f.offset+j.size<=us'.length by omega),hrun k,Result.andThen_ok]
        cases p
        ·simp
        simp_all
       grind
    rw[<- hmap] at h
    obtain⟨k1,k2⟩:=key fs.toList r (λf hf=>(hnz f hf).1) h
    refine⟨λk=>?_,λk=>?_⟩
    ·have hf:P.fieldsOf tid=fs:=by simp[Program.fieldsOf,hund]
     have e:d+1+k=(d+k)+1:=by omega
     simp only[dQ,hagg,if_true,e]
     rw[run_equalIn_struct (P:=P) w (d+k) tid _ _ (by rw[hf];omega) hst,hf]
     simp_all
    ·have e:d+1+k=(d+k)+1:=by omega
     rw[e]
     simp only[Program.eqGuardType,hund]
     rw[Bool.eq_false_iff]
     simp_all
   | int k=>rw[htag] at h;simp_all
   | bool=>rw[htag] at h;simp_all
   | string=>rw[htag] at h;simp_all
   | slice=>rw[htag] at h;grind
   | ptr=>rw[htag] at h;grind
   | other=>rw[htag] at h;grind
end eq
end Go.Abs
namespace Go.Abs
open Go
section arith
variable {P:Program} {E:Env}
variable {m:Mem} {loc:Nat->Loc} {ok:Nat->Prop} {w:World}
theorem NT{op:BinOp}{k:IntKind}{x y:Int}{v:AVal}{tr:List Nat}(h:Does m (QU op k x y) v tr)(tid:Nat)(hs:op≠ .shl/\op≠ .shr):
  ∃ u,(binOp op tid (.int k x) (.int k y)).run P w= .ok u w/\VR m loc ok w v u:=by
 cases op<;>simp only[QU,Does] at h
 case add=>obtain⟨rfl,_⟩:=h;exact⟨_,by simp[binOp,Op.intArith],VR.mkInt _ _⟩
 case sub=>obtain⟨rfl,_⟩:=h;exact⟨_,by simp[binOp,Op.intArith],VR.mkInt _ _⟩
 case mul=>obtain⟨rfl,_⟩:=h;exact⟨_,by simp[binOp,Op.intArith],VR.mkInt _ _⟩
 case quo=>
  rcases h with ⟨_,h⟩ | ⟨h0,rfl,_⟩
  ·simp_all
  ·have:¬ y=0:=by simp_all
   exact⟨_,by simp[binOp,Op.intDiv,this],VR.mkInt _ _⟩
 case rem=>
  rcases h with ⟨_,h⟩ | ⟨h0,rfl,_⟩
  ·simp_all
  ·have:¬ y=0:=by simp_all
   exact⟨_,by simp[binOp,Op.intDiv,this],VR.mkInt _ _⟩
 case and=>obtain⟨rfl,_⟩:=h;exact⟨_,by simp[binOp,Op.intBits],VR.mkInt _ _⟩
 case or=>obtain⟨rfl,_⟩:=h;exact⟨_,by simp[binOp,Op.intBits],VR.mkInt _ _⟩
 case xor=>obtain⟨rfl,_⟩:=h;exact⟨_,by simp[binOp,Op.intBits],VR.mkInt _ _⟩
 case eql=>obtain⟨rfl,_⟩:=h;exact⟨_,by simp[binOp,Op.intCmp],VR.mkBool _⟩
 case neq=>obtain⟨rfl,_⟩:=h;exact⟨_,by simp[binOp,Op.intCmp],VR.mkBool _⟩
 case lss=>obtain⟨rfl,_⟩:=h;exact⟨_,by simp[binOp,Op.intCmp],VR.mkBool _⟩
 case leq=>obtain⟨rfl,_⟩:=h;exact⟨_,by simp[binOp,Op.intCmp],VR.mkBool _⟩
 case gtr=>obtain⟨rfl,_⟩:=h;exact⟨_,by simp[binOp,Op.intCmp],VR.mkBool _⟩
 case geq=>obtain⟨rfl,_⟩:=h;exact⟨_,by simp[binOp,Op.intCmp],VR.mkBool _⟩
theorem GF{op:BinOp}{k k':IntKind}{x y:Int}{v:AVal}{tr:List Nat}(h:Does m (UV op k x y) v tr)(tid:Nat)(hs:op= .shl\/op= .shr):
  ∃ u,(binOp op tid (.int k x) (.int k' y)).run P w= .ok u w/\VR m loc ok w v u:=by
 rcases hs with rfl | rfl
 all_goals
  simp only[UV,Does] at h
  rcases h with ⟨_,h⟩ | ⟨h0,rfl,_⟩
  ·simp_all
  ·have:¬ y<0:=by simp_all
   exact⟨_,by simp[binOp,Op.shift,this],VR.mkInt _ _⟩
theorem B0{tid:Nat}(hu:P.underlying tid=some .bool)(p r:Bool):(Op.equal tid (.bool p) (.bool r)).run P w= .ok (p==r) w:=by
 show(Op.equalIn (9999+1) tid (.bool p) (.bool r)).run P w=_
 rw[Op.equalIn]
 simp[run_underlying hu]
theorem zS{tid:Nat}{x y:Value}{r:Bool}(h:(Op.equal tid x y).run P w= .ok r w)(hx:(∃ b,x= .bool b)/\(∃ b,y= .bool b)\/(∃ b,x= .agg b)/\(∃ b,y= .agg b)):
  (binOp .eql tid x y).run P w= .ok (.bool r) w/\(binOp .neq tid x y).run P w= .ok (.bool (!r)) w:=by
 have e1:binOp .eql tid x y=(do pure (.bool (<- Op.equal tid x y))):=by
  rcases hx with ⟨⟨b,rfl⟩,⟨c,rfl⟩⟩ | ⟨⟨b,rfl⟩,⟨c,rfl⟩⟩<;>rfl
 have e2:binOp .neq tid x y=(do pure (.bool (!(<- Op.equal tid x y)))):=by
  rcases hx with ⟨⟨b,rfl⟩,⟨c,rfl⟩⟩ | ⟨⟨b,rfl⟩,⟨c,rfl⟩⟩<;>rfl
 rw[e1,e2]
 simp_all
theorem MJ{op:BinOp}{x y:ByteArray}{v:AVal}{tr:List Nat}(h:Does m (O9 op x y) v tr)(tid:Nat):
  ∃ u,(binOp op tid (.string x) (.string y)).run P w= .ok u w/\VR m loc ok w v u:=by
 cases op<;>simp only[O9,Does] at h
 case add=>
  rcases h with ⟨h0,rfl,_⟩ | ⟨_,h⟩
  ·have h1:x.size+y.size<=bound:=by simp_all
   unfold bound at h1
   have h2:¬ (((x.size+y.size:Nat):Int)>IntKind.i64.max):=by
    have:IntKind.i64.max=9223372036854775807:=rfl
    rw[this];omega
   exact⟨_,by simp only[binOp,Op.stringOp,if_neg h2,Sem.run_pure],VR.mkStr _⟩
  simp_all
 case eql=>obtain⟨rfl,_⟩:=h;exact⟨_,by rfl,VR.mkBool _⟩
 case neq=>obtain⟨rfl,_⟩:=h;exact⟨_,by rfl,VR.mkBool _⟩
 case lss=>obtain⟨rfl,_⟩:=h;exact⟨_,by rfl,VR.mkBool _⟩
 case leq=>obtain⟨rfl,_⟩:=h;exact⟨_,by rfl,VR.mkBool _⟩
 case gtr=>obtain⟨rfl,_⟩:=h;exact⟨_,by rfl,VR.mkBool _⟩
 case geq=>obtain⟨rfl,_⟩:=h;exact⟨_,by rfl,VR.mkBool _⟩
end arith
section ops0
variable {P:Program} {E:Env} (hT:TOk P E.ti)
variable {n0:Nat} {ab rb:Nat->Prop} {w0:World} {N:Fix} {t:Nat->AVal} {m:Mem} {a:Act} {w:World} {loc:Nat->Loc} {ow:Nat->Option Nat}
omit hT in
theorem oE{op:BinOp}{tid:Nat}{x y:Operand}{u u':Value}(h:(∀ cs,u≠ .agg cs)/\u≠ .nilIface):(eqGuard op tid x y u u').run P w= .ok () w:=by
 unfold eqGuard
 cases op<;>simp<;>(cases u<;>simp_all)
include hT
theorem V2(hD:9<=P.depth)(R:Rel n0 ab rb w0 N t m a w loc ow){op:BinOp}{tid:Nat}{x y:Operand}{v:AVal}{tr:List Nat}(h:Does m (VM E op tid (cA t x) (cA t y)) v tr):
  ∃ u,(do eqGuard op tid x y (a.eval x) (a.eval y);binOp op tid (a.eval x) (a.eval y):Sem Value).run P w= .ok u w/\VR m loc (Ok n0 ab m loc w) w v u:=by
 have hv:=R.eval x
 have hx:=R.eval y
 generalize cA t x=q at h hv
 generalize a.eval x=u at hv
 generalize cA t y=qx at h hx
 generalize a.eval y=ux at hx
 unfold VM at h
 split at h
 ·rename_i j p k r
  have:=VR.int hv;subst this
  have:=VR.int hx;subst this
  simp only[Sem.run_bind,oE (op:=op) (tid:=tid) (x:=x) (y:=y) (u:= .int j p) (u':= .int k r) ⟨λ_=>by simp,by simp⟩,Result.andThen]
  split at h
  ·exact GF h tid (.inl rfl)
  ·exact GF h tid (.inr rfl)
  ·rename_i n1 n2
   split at h
   ·rename_i hjk;subst hjk
    exact NT h tid ⟨by omega,by omega⟩
   ·exact h.elim
 ·rename_i p r
  have:=VR.str hv;subst this
  have:=VR.str hx;subst this
  simp only[Sem.run_bind,oE (op:=op) (tid:=tid) (x:=x) (y:=y) (u:= .string p) (u':= .string r) ⟨λ_=>by simp,by simp⟩,Result.andThen]
  exact MJ h tid
 ·rename_i p r
  have:=VR.bool hv;subst this
  have:=VR.bool hx;subst this
  simp only[Sem.run_bind,oE (op:=op) (tid:=tid) (x:=x) (y:=y) (u:= .bool p) (u':= .bool r) ⟨λ_=>by simp,by simp⟩,Result.andThen]
  obtain⟨i,T,_,h'⟩:=cB hT h;replace h:=h';clear h'
  have hu:=T.und
  split at h
  ·rename_i htag
   rw[htag] at hu
   obtain⟨rfl,_⟩:=h
   exact⟨_,(zS (B0 hu p r) (.inl ⟨⟨_,rfl⟩,⟨_,rfl⟩⟩)).1,VR.mkBool _⟩
  ·rename_i htag
   rw[htag] at hu
   obtain⟨rfl,_⟩:=h
   exact⟨_,(zS (B0 hu p r) (.inl ⟨⟨_,rfl⟩,⟨_,rfl⟩⟩)).2,VR.mkBool _⟩
  ·exact h.elim
 ·rename_i as bs
  obtain⟨us,rfl,hs⟩:=hv
  obtain⟨us',rfl,hs'⟩:=hx
  obtain⟨i0,T,hi0,h'⟩:=cB hT h;replace h:=h';clear h'
  have main:∀ r,i0.tag= .struct->N4 E 8 tid as bs=some r->(∀ op,(eqGuard op tid x y (.agg us.toArray) (.agg us'.toArray)).run P w= .ok () w)/\
    (Op.equalIn 10000 tid (.agg us.toArray) (.agg us'.toArray)).run P w= .ok r w:=by
   intro r htag he
   obtain⟨i,hi,hrun,hg⟩:=RE hT (w:=w) 8 tid as bs us us' r he hs hs'
   rw[hi0] at hi;cases hi
   have hg':P.eqGuardType P.depth tid=false:=by
    have:=hg (P.depth - 8)
    rw[show 8+(P.depth - 8)=P.depth by omega] at this
    omega
   have hagg:i0.agg=true:=by simp[TyI.agg,htag]
   have hE:=hrun 9992
   simp only[dQ,hagg,if_true] at hE
   refine⟨λop=>?_,hE⟩
   unfold eqGuard
   cases op<;>simp[hg']
  split at h
  ·rename_i r htag he
   obtain⟨hguard,hE⟩:=main r htag he
   obtain⟨rfl,_⟩:=h
   exact⟨_,by simp only[Sem.run_bind,hguard,Result.andThen];exact(zS (x:= .agg us.toArray) (y:= .agg us'.toArray) hE (.inr ⟨⟨_,rfl⟩,⟨_,rfl⟩⟩)).1,VR.mkBool _⟩
  ·rename_i r htag he
   obtain⟨hguard,hE⟩:=main r htag he
   obtain⟨rfl,_⟩:=h
   exact⟨_,by simp only[Sem.run_bind,hguard,Result.andThen];exact(zS (x:= .agg us.toArray) (y:= .agg us'.toArray) hE (.inr ⟨⟨_,rfl⟩,⟨_,rfl⟩⟩)).2,VR.mkBool _⟩
  ·exact h.elim
 ·exact h.elim
omit hT in
theorem WM(R:Rel n0 ab rb w0 N t m a w loc ow){op:UnOp}{x:Operand}{v:AVal}{tr:List Nat}(h:Does m (unQ op (cA t x)) v tr):
  ∃ u,(Op.unary op (a.eval x)).run P w= .ok u w/\VR m loc (Ok n0 ab m loc w) w v u:=by
 have hv:=R.eval x
 generalize cA t x=q at h hv
 generalize a.eval x=u at hv
 unfold unQ at h
 split at h
 ·have:=VR.bool hv;subst this
  obtain⟨rfl,_⟩:=h
  exact⟨_,by rfl,VR.mkBool _⟩
 ·have:=VR.int hv;subst this
  obtain⟨rfl,_⟩:=h
  exact⟨_,by rfl,VR.mkInt _ _⟩
 ·exact h.elim
theorem V0 (R:Rel n0 ab rb w0 N t m a w loc ow) {tid rt:Nat} {x:Operand} {e:Eff} {tr:List Nat}
  (h:Does m (ty E tid λi=>match i.tag with | .string=>JG (cA t x) | .slice=>U9 (cA t x) | _=> .fail) e tr):
  ∃ u,(Builtin.len_ #[tid] rt #[a.eval x]).run P w= .ok u w/\e.wr=[]/\VR m loc (Ok n0 ab m loc w) w e.v u:=by
 have hv:=R.eval x
 generalize cA t x=q at h hv
 generalize a.eval x=u at hv
 obtain⟨i,T,_,h'⟩:=cB hT h;replace h:=h';clear h'
 have hu:=T.und
 split at h
 ·rename_i htag
  rw[htag] at hu
  unfold JG at h
  split at h
  ·have:=VR.str hv;subst this
   obtain⟨rfl,_⟩:=h
   exact⟨_,by simp[Builtin.len_,run_underlying hu,goInt],rfl,VR.mkInt _ _⟩
  ·exact h.elim
 ·rename_i htag
  rw[htag] at hu
  have hsl:∀ (A:Option Addr) (n c:Nat),(Builtin.len_ #[tid] rt #[.slice A n c]).run P w= .ok (.int .i64 n) w:=by
   intro A n c
   simp[Builtin.len_,run_underlying hu,goInt]
  unfold U9 at h
  split at h
  ·obtain⟨rfl,_⟩:=h
   have:u= .slice none 0 0:=hv
   subst this
   exact⟨_,hsl none 0 0,rfl,VR.mkInt _ _⟩
  ·rename_i ks xs
   obtain⟨rfl,_⟩:=h
   obtain⟨bs,⟨A,cap,rfl,_⟩,_⟩:=hv
   exact⟨_,hsl _ _ _,rfl,VR.mkInt _ _⟩
  ·rename_i id
   obtain⟨tr',_,h'⟩:=h;replace h:=h';clear h'
   have hE:=R.ents id
   simp only[VR,VR1,LR] at hv
   unfold EntR at hE
   cases hm:m id with
   | arr ks xs d o'=>
    rw[hm] at hE h hv
    dsimp only at hv h
    obtain⟨rfl,_⟩:=h
    subst hv
    obtain⟨bss,hown,_⟩:=hE
    cases hl:loc id with
    | nil=>
     rw[hl] at hown
     rw[hown.1]
     exact⟨_,hsl none 0 0,rfl,VR.mkInt _ _⟩
    | pin _ _ _=>rw[hl] at hown;exact hown.elim
    | at_ b off cap=>exact⟨_,hsl _ _ _,rfl,VR.mkInt _ _⟩
   | pin ks xs=>
    rw[hm] at hE h hv
    dsimp only at hv h
    obtain⟨rfl,_⟩:=h
    obtain⟨hvv,hd,bl,hl,⟨hTR,hH,_⟩,_⟩:=hE
    rw[hl,Loc.val_pin (TR.one _ _ _ _ hTR)] at hv
    obtain⟨A,cap,e4,hcap,hT'⟩:=hTR
    subst e4
    subst hv
    exact⟨_,hsl _ _ _,rfl,VR.mkInt _ _⟩
   | _=>rw[hm] at h;exact h.elim
  ·rename_i nn
   obtain⟨rfl,_⟩:=h
   obtain⟨A,cap,rfl⟩:=hv
   exact⟨_,hsl _ _ _,rfl,VR.mkInt _ _⟩
  ·rename_i id p off
   obtain⟨tr',_,h'⟩:=h;replace h:=h';clear h'
   have hE:=R.ents id
   simp only[VR,VR1,LR] at hv
   unfold EntR at hE
   cases hm:m id with
   | pin ks xs=>
    rw[hm] at hE h hv
    dsimp only at hv h
    obtain⟨r,hr,h'⟩:=h;replace h:=h';clear h'
    split at h
    case h_2=>exact h.elim
    obtain⟨ys,hys,h'⟩:=h;replace h:=h';clear h'
    obtain⟨rfl,_⟩:=h
    obtain⟨⟨hvv,hd,bl,hl,rfl⟩,_⟩:=hv
    obtain⟨hv',hd',bl',hl',hp,_⟩:=hE
    rw[hl] at hl';cases hl'
    obtain⟨bn,A,cap,e4,_⟩:=hp.nested hr hys
    rw[e4]
    exact⟨_,hsl _ _ _,rfl,VR.mkInt _ _⟩
   | _=>rw[hm] at h;exact h.elim
  ·exact h.elim
 ·exact h.elim
omit hT in
theorem UC(mx:Bool):∀ (xs:List AVal) (x:AVal) (us:List Value) (u:Value) (e:Eff) (tr:List Nat),Does m (QE mx x xs) e tr->
  VR m loc (Ok n0 ab m loc w) w x u->us.length=xs.length->(∀ (i:Nat) (y:AVal) (z:Value),xs[i]? =some y->us[i]? =some z->VR m loc (Ok n0 ab m loc w) w y z)->
  ∃ v,(us.foldlM (if mx then Builtin.max2 else Builtin.min2) u).run P w= .ok v w/\e.wr=[]/\VR m loc (Ok n0 ab m loc w) w e.v v:=by
 intro xs
 induction xs with
 | nil=>
  intro x us u e tr h hx hl _
  have:us=[]:=List.eq_nil_of_length_eq_zero hl
  subst this
  obtain⟨rfl,_⟩:=(show e=⟨x,[]⟩/\tr=[] by cases x<;>first | exact h | (rename_i l;cases l<;>exact h))
  simp_all
 | cons y ys ih=>
  intro x us u e tr h hx hl hall
  match us,hl with
  | z::zs,hl=>
   unfold QE at h
   split at h
   ·simp_all
   ·rename_i k p k' r rest heq
    cases heq
    have h1:=VR.int hx
    have h2:=VR.int (hall 0 _ z rfl rfl)
    subst h1;subst h2
    obtain⟨v,hv,e1,e2⟩:=ih (.one (.v (.int k) (mxI mx p r))) zs (.int k (mxI mx p r)) e tr h (VR.mkInt _ _) (by simp_all) (λi y z hy hz=>hall (i+1) y z hy hz)
    refine⟨v,?_,e1,e2⟩
    rw[List.foldlM_cons]
    cases mx with
    | true=>simp only[if_true,Builtin.max2,Sem.run_bind,Sem.run_pure,Result.andThen];exact hv
    | false=>simp only[Bool.false_eq_true,if_false,Builtin.min2,Sem.run_bind,Sem.run_pure,Result.andThen];exact hv
   ·exact h.elim
end ops0
end Go.Abs
/- Rows made of leaves; entries closed; cuts. -/
namespace Go.Abs
open Go

theorem iZ{w:World}{b:Nat}{cs:Array Value}{T:Nat}{fz:Nat×Nat}(h:w.heap[b]? =some (.cells cs T fz))(o:Nat):w.cell? ⟨b,o,none⟩=cs[o]? :=by
 unfold World.cell?
 simp_all
section rel
variable {n0:Nat} {ab rb:Nat->Prop} {w0:World} {N:Fix} {t:Nat->AVal} {m:Mem} {a:Act} {w:World} {loc:Nat->Loc} {ow:Nat->Option Nat}

/-- An entry's elements by value: the blocks are its own, and those behind its elements. -/
theorem n9{ks:List Kd}{xs:List (Row ks)}{l:Loc}{bss:List (List Nat)}(h:OwnAt w ks xs l bss):
  ∃ bs,TR w (.sl ks) xs (l.val xs.length) bs/\((bs=[]/\xs=[])\/∃ b o c,l= .at_ b o c/\bs=b::List.flatten bss):=by
 cases l with
 | pin _ _ _=>exact h.elim
 | nil=>
  obtain⟨rfl,_⟩:=h
  exact⟨[],⟨none,0,rfl,Nat.le_refl _,.inl ⟨rfl,rfl⟩⟩,.inl ⟨rfl,rfl⟩⟩
 | at_ b off cap=>
  obtain⟨cs,T,fz,hh,hf,hs,hc,hl,hr⟩:=h
  by_cases hx:xs=[]
  ·exact⟨[],⟨_,cap,rfl,hc,.inl ⟨hx,rfl⟩⟩,.inl ⟨rfl,hx⟩⟩
  ·refine⟨b::List.flatten bss,⟨_,cap,rfl,hc,.inr ⟨b,off,bss,rfl,hl,rfl,λi r bb hi hbb=>?_⟩⟩,.inr ⟨b,off,cap,rfl,rfl⟩⟩
   obtain⟨us,hrr,hu⟩:=hr i r bb hi hbb
   exact⟨us,hrr,RR.length _ _ _ _ hrr,λj u hj=>by rw[iZ hh];simp_all⟩

/-- What a row took in: entries, each closed. -/
def Took(m:Mem)(wr:List (Nat×Ent)):Prop:=∀ p∈wr,∃ ks xs d o,m p.1= .arr ks xs d o/\p.2= .arr ks xs d false
/-- What is known of the blocks behind a row that was made of leaves. -/
structure Made (n0:Nat) (ok:Nat->Prop) (m:Mem) (loc:Nat->Loc) (ow:Nat->Option Nat) (wr:List (Nat×Ent)) (p:Bool) (bs:List Nat):Prop where
 took:Took m wr
 blk:∀ b∈bs,ok b\/∃ q∈wr,(loc q.1).has b
 own:p=true->bs.Nodup/\∀ b∈bs,n0<=b/\∃ q∈wr,ow b=some q.1
 opn:p=true->∀ q∈wr,dU (m q.1)=true/\∃ ks xs,m q.1= .arr ks xs true true

theorem Rel.leafAt (R:Rel n0 ab rb w0 N t m a w loc ow) {k:Kd} {l:Leaf} {x:k.T} {wr:List (Nat×Ent)} {p:Bool} {tr:List Nat} (h:Does m (leafAt k l) (x,wr,p) tr) {u:Value}
  (hu:LR m loc (Ok n0 ab m loc w) w l u):∃ bs,TR w k x u bs/\Made n0 (Ok n0 ab m loc w) m loc ow wr p bs:=by
 unfold Abs.leafAt at h
 split at h
 ·rename_i k' y
  obtain⟨z,hz,h⟩:=h
  obtain⟨e,_⟩:=h
  unfold kR at hz
  split at hz
  case isFalse=>grind
  rename_i hk
  subst hk
  cases hz
  cases e
  obtain⟨bs,hTR,hb⟩:=hu
  refine⟨bs,hTR,⟨(λq hq=>by grind),λb hx=> .inl (hb b hx),λhp=>?_,λ_ q hq=>by grind⟩⟩
  have:bs=[]:=by
   cases k' with
   | sl ks=>grind
   | _=>exact hTR.2
  simp_all
 ·split at h
  ·rename_i ks
   obtain⟨e,_⟩:=h
   cases e
   have:u= .slice none 0 0:=hu
   subst this
   exact⟨[],⟨none,0,rfl,Nat.le_refl _,.inl ⟨rfl,rfl⟩⟩,⟨(λq hq=>by grind),(λb hb=>by grind),λ_=>⟨List.nodup_nil,λb hb=>by grind⟩,λ_ q hq=>by grind⟩⟩
  ·exact h.elim
 ·rename_i id
  split at h
  ·rename_i ks
   obtain⟨tr',_,h'⟩:=h;replace h:=h';clear h'
   have hE:=R.ents id
   simp only[LR] at hu
   unfold EntR at hE
   cases hm:m id with
   | arr ks' xs d o'=>
    rw[hm] at hE h hu
    dsimp only at hu h
    obtain⟨y,hy,h'⟩:=h;replace h:=h';clear h'
    obtain⟨e,_⟩:=h
    unfold kR at hy
    split at hy
    case isFalse=>grind
    rename_i hk
    cases hk
    cases hy
    cases e
    obtain⟨bss,hown,hok,hblk,hdeep⟩:=hE
    obtain⟨bs,hTR,hbs⟩:=n9 hown
    subst hu
    refine⟨bs,hTR,⟨?_,?_,?_,?_⟩⟩
    ·intro q hq
     simp_all
    ·intro b hb
     rcases hbs with ⟨rfl,_⟩ | ⟨b0,o,c,hl,rfl⟩
     ·grind
     ·rcases List.mem_cons.1 hb with rfl | hb
      ·exact .inr ⟨_,List.mem_singleton.2 rfl,by rw[hl];rfl⟩
      ·obtain⟨bb,hbb,hb⟩:=List.mem_flatten.1 hb
       grind
    ·intro hp
     simp only[Bool.and_eq_true] at hp
     obtain⟨rfl,rfl⟩:=hp
     obtain⟨h1,h2,h3⟩:=hdeep rfl rfl
     rcases hbs with ⟨rfl,_⟩ | ⟨b0,o,c,hl,rfl⟩
     ·simp
     ·have hb0:=hblk b0 (by rw[hl];rfl)
      refine⟨List.nodup_cons.2 ⟨h3 b0 (by rw[hl];rfl),h2⟩,λb hb=>?_⟩
      rcases List.mem_cons.1 hb with rfl | hb
      ·simp_all
      ·obtain⟨bb,hbb,hb⟩:=List.mem_flatten.1 hb
       exact⟨(h1 bb hbb b hb).2,_,List.mem_singleton.2 rfl,(h1 bb hbb b hb).1⟩
    ·intro hp q hq
     simp only[Bool.and_eq_true] at hp
     obtain⟨rfl,rfl⟩:=hp
     simp only[List.mem_singleton] at hq
     subst hq
     exact⟨by rw[hm];rfl,ks,xs,hm⟩
   | _=>rw[hm] at h;exact h.elim
  ·exact h.elim
 ·exact h.elim
theorem iX(i:Nat):∀ (l:List (Nat×Ent)),j0 i l=true↔∃ q∈l,q.1=i
 | []=>by simp[j0]
 | (j,e)::r=>by
  simp only[j0,Bool.or_eq_true,iX i r,List.mem_cons,exists_eq_or_imp]
  constructor
  ·rintro (h | h)
   ·simp_all
   simp_all
  ·rintro (h | h)
   ·simp_all
   simp_all
theorem wD:∀ (l l':List (Nat×Ent)),xG l l'=true↔∀ p∈l,∀ q∈l',p.1≠q.1
 | [],_=>by simp[xG]
 | (i,e)::r,l'=>by
  have:=iX i l'
  simp only[xG,Bool.and_eq_true,Bool.not_eq_true',wD r l',List.mem_cons,forall_eq_or_imp]
  grind
theorem Made.append(R:Rel n0 ab rb w0 N t m a w loc ow){ok:Nat->Prop}{wr wr':List (Nat×Ent)}{p p':Bool}{bs bs':List Nat}(h:Made n0 ok m loc ow wr p bs)(h':Made n0 ok m loc ow wr' p' bs'):
  Made n0 ok m loc ow (wr++wr') (p&&p'&&xG wr wr') (bs++bs'):=by
 refine⟨λq hq=>?_,λb hb=>?_,λhp=>?_,λhp q hq=>?_⟩
 ·rcases List.mem_append.1 hq with hq | hq
  ·exact h.took q hq
  ·exact h'.took q hq
 ·rcases List.mem_append.1 hb with hb | hb
  ·exact(h.blk b hb).imp id fun⟨q,hq,e⟩=>⟨q,List.mem_append_left _ hq,e⟩
  ·exact(h'.blk b hb).imp id fun⟨q,hq,e⟩=>⟨q,List.mem_append_right _ hq,e⟩
 ·simp only[Bool.and_eq_true] at hp
  obtain⟨⟨hp,hp'⟩,hd⟩:=hp
  obtain⟨h1,h2⟩:=h.own hp
  obtain⟨h1',h2'⟩:=h'.own hp'
  rw[wD] at hd
  refine⟨List.nodup_append.2 ⟨h1,h1',λx hx y hy e=>?_⟩,λb hb=>?_⟩
  ·grind
  ·rcases List.mem_append.1 hb with hb | hb
   ·obtain⟨p1,q,hq,e⟩:=h2 b hb;grind
   ·obtain⟨p1,q,hq,e⟩:=h2' b hb;grind
 ·simp only[Bool.and_eq_true] at hp
  obtain⟨⟨hp,hp'⟩,hd⟩:=hp
  rcases List.mem_append.1 hq with hq | hq
  ·exact h.opn hp q hq
  ·exact h'.opn hp' q hq
theorem Made.nil{ok:Nat->Prop}{p:Bool}:Made n0 ok m loc ow [] p []:=
 ⟨(λq hq=>by grind),(λb hb=>by grind),λ_=>⟨List.nodup_nil,λb hb=>by grind⟩,λ_ q hq=>by grind⟩
theorem Rel.rowAt(R:Rel n0 ab rb w0 N t m a w loc ow):∀ (ks:List Kd) (ls:List Leaf) (x:Row ks) (wr:List (Nat×Ent)) (p:Bool) (tr:List Nat),Does m (Abs.rowAt ks ls) (x,wr,p) tr->
  ∀ us,LRs m loc (Ok n0 ab m loc w) w ls us->∃ bs,RR w ks x us bs/\Made n0 (Ok n0 ab m loc w) m loc ow wr p bs
 | [],[],x,wr,p,tr,h,us,hu=>by
  obtain⟨e,_⟩:=h;cases e
  exact⟨[],⟨hu,rfl⟩,Made.nil⟩
 | k::ks,l::ls,x,wr,p,tr,h,us,⟨u,us',e,hl,hs⟩=>by
  unfold Abs.rowAt at h
  obtain⟨⟨y,w1,p1⟩,t1,t2,_,h1,h2⟩:=Does.bind _ _ h
  obtain⟨⟨r,w2,p2⟩,t3,t4,_,h3,h4⟩:=Does.bind _ _ h2
  obtain⟨e4,_⟩:=h4
  cases e4
  obtain⟨b1,q1,m1⟩:=R.leafAt h1 hl
  obtain⟨b2,q2,m2⟩:=Rel.rowAt R ks ls r w2 p2 t3 h3 us' hs
  exact⟨b1++b2,⟨u,us',b1,b2,e,rfl,q1,q2⟩,Made.append R m1 m2⟩
 | [],_::_,_,_,_,_,h,_,_=>h.elim
 | _::_,[],_,_,_,_,h,_,_=>h.elim
end rel
end Go.Abs
/- Entries closed; new entries; stores. -/
namespace Go.Abs
open Go
section rel
variable {n0:Nat} {ab rb:Nat->Prop} {w0:World} {N:Fix} {t:Nat->AVal} {m:Mem} {a:Act} {w:World} {loc:Nat->Loc} {ow:Nat->Option Nat}

def cD(m:Mem)(i:Nat)(e:Ent):Mem:=λj=>if j=i then e else m j
theorem fW(m:Mem)(i:Nat)(e:Ent)(r:List (Nat×Ent)):bQ m ((i,e)::r)=bQ (cD m i e) r:=rfl
theorem aX(m:Mem)(i:Nat)(e:Ent):cD m i e i=e:=by simp[cD]
theorem a9(m:Mem){i j:Nat}(e:Ent)(h:j≠i):cD m i e j=m j:=by simp[cD,h]
theorem dX(m:Mem):∀ (l r:List (Nat×Ent)),bQ m (l++r)=bQ (bQ m l) r
 | [],r=>rfl
 | (i,e)::l,r=>by rw[List.cons_append,fW,fW,dX]
theorem cE(i:Nat):∀ (l:List (Nat×Ent)) (m:Mem),(∀ q∈l,q.1≠i)->bQ m l i=m i
 | [],m,_=>rfl
 | (j,e)::l,m,h=>by
  rw[fW,cE i l _ λq hq=>h q (List.mem_cons_of_mem _ hq),a9]
  exact(h (j,e) (List.mem_cons_self ..)).symm

theorem AX{id:Nat}{e:Ent}(he:fM e=false)(j:Nat)(h:fM (cD m id e j)=true):fM (m j)=true:=by
 by_cases c:j=id
 ·subst c;rw[aX,he] at h;grind
 ·rw[a9 _ _ c] at h;omega
theorem oQ{X:Prop}{id:Nat}{e:Ent}(he:fM (m id)=false)(j:Nat)(h1:fM (m j)=true)(h2:fM (cD m id e j)=false):X:=by
 by_cases c:j=id
 ·simp_all
 ·rw[a9 _ _ c,h1] at h2;grind
theorem Rel.close1(R:Rel n0 ab rb w0 N t m a w loc ow){id:Nat}{ks:List Kd}{xs:List (Row ks)}{d o:Bool}(hm:m id= .arr ks xs d o):
  Rel n0 ab rb w0 N t (cD m id (.arr ks xs d false)) a w loc ow:=by
 have hmut:∀ b,Mut (cD m id (.arr ks xs d false)) loc b->∃ j,j≠id/\dU (m j)=true/\(loc j).has b:=by
  rintro b ⟨j,hj,hb⟩
  by_cases e:j=id
  ·subst e;rw[aX] at hj;cases hj
  ·rw[a9 _ _ e] at hj;grind
 have h1:∀ b,Ok n0 ab m loc w b->Ok n0 ab (cD m id (.arr ks xs d false)) loc w b/\w.heap[b]? =w.heap[b]? :=by
  rintro b ⟨p,q,r⟩
  exact⟨⟨p,λhh=>by obtain⟨j,_,h1,h2⟩:=hmut b hh;exact q ⟨j,h1,h2⟩,r⟩,rfl⟩
 refine R.update R.keep (Nat.le_refl _) h1 (λj=>?_) (λj=>?_) R.owlt (λj b hj hb=>?_) (λb _ _=> .inl rfl) (λj _ h=> .inl ⟨AX rfl j h,rfl⟩) (λj h1 h2=>oQ (by rw[hm];rfl) j h1 h2) (λb _=>SizeLe.same rfl)
 ·by_cases e:j=id
  ·subst e;rw[aX,hm];exact .inr ⟨⟨xs,d,false,rfl,rfl⟩,rfl⟩
  ·rw[a9 _ _ e];exact Goes.refl _ _
 ·by_cases e:j=id
  ·subst e
   left
   have h:=R.ents j
   unfold EntR at h ⊢
   rw[hm] at h
   rw[aX]
   obtain⟨bss,h2,h3,h4,h5⟩:=h
   refine⟨bss,h2,λbb hb b hx=>(h1 b (h3 bb hb b hx)).1,λb hb=>?_,λ_ hx=>by grind⟩
   obtain⟨p,q,r,s⟩:=h4 b hb
   refine⟨p,q,(λhx=>by grind),λ_=>?_⟩
   cases ho:o with
   | false=>simp_all
   | true=>
    refine⟨q,λhh=>?_,.inl p⟩
    obtain⟨i,hi,h6,h7⟩:=hmut b hh
    have h8:=(R.owner h6 h7).1
    rw[r ho] at h8
    simp_all
  ·right
   exact⟨a9 _ _ e,rfl,λb _ _=>rfl,λ_ b hb=>hb⟩
 ·by_cases e:j=id
  ·subst e;rw[aX] at hj;cases hj
  ·rw[a9 _ _ e] at hj;exact R.mutrb j b hj hb
theorem Took.tail{m:Mem}{i:Nat}{e:Ent}{r:List (Nat×Ent)}(h:Took m ((i,e)::r)):Took (cD m i e) r:=by
 intro q hq
 obtain⟨ks,xs,d,o,h1,h2⟩:=h q (List.mem_cons_of_mem _ hq)
 by_cases hi:q.1=i
 ·obtain⟨ks',xs',d',o',h3,h4⟩:=h (i,e) (List.mem_cons_self ..)
  simp only at h3 h4
  rw[<- hi,h1] at h3
  cases h3
  refine⟨ks,xs,d,false,?_,h2⟩
  rw[hi,aX,h4]
 ·exact⟨ks,xs,d,o,by rw[a9 _ _ hi];omega,h2⟩
theorem Rel.close:∀ (wr:List (Nat×Ent)) {m:Mem} (R:Rel n0 ab rb w0 N t m a w loc ow),Took m wr->Rel n0 ab rb w0 N t (bQ m wr) a w loc ow
 | [],_,R,_=>R
 | (i,e)::r,m,R,h=>by
  obtain⟨ks,xs,d,o,h1,h2⟩:=h (i,e) (List.mem_cons_self ..)
  simp only at h1 h2
  have R1:=R.close1 h1
  rw[<- h2] at R1
  exact Rel.close r R1 h.tail
theorem mN:∀ (wr:List (Nat×Ent)) {m:Mem},Took m wr->∀ q∈wr,bQ m wr q.1=q.2
 | [],_,_,q,hq=>by grind
 | (i,e)::r,m,h,q,hq=>by
  rw[fW]
  by_cases hx:∃ q'∈r,q'.1=q.1
  ·obtain⟨q',hq',e1⟩:=hx
   have:=mN r h.tail q' hq'
   rw[<- e1,this]
   obtain⟨ks,xs,d,o,h1,h2⟩:=h q hq
   obtain⟨ks',xs',d',o',h3,h4⟩:=h q' (List.mem_cons_of_mem _ hq')
   rw[e1,h1] at h3
   grind
  ·have hne:∀ q'∈r,q'.1≠q.1:=λq' hq' e=>hx ⟨q',hq',e⟩
   rw[cE _ _ _ hne]
   rcases List.mem_cons.1 hq with rfl | hq
   ·exact aX _ _ _
   simp_all
/-- Closing makes no block forbidden, and frees the blocks that were taken in. -/
theorem Ok.close{wr:List (Nat×Ent)}(h:Took m wr){b:Nat}(hb:Ok n0 ab m loc w b):Ok n0 ab (bQ m wr) loc w b:=by
 refine⟨hb.1,?_,hb.2.2⟩
 rintro ⟨j,hj,hl⟩
 apply hb.2.1
 by_cases hx:∃ q∈wr,q.1=j
 ·obtain⟨q,hq,rfl⟩:=hx
  rw[mN wr h q hq] at hj
  obtain⟨ks,xs,d,o,h1,h2⟩:=h q hq
  rw[h2] at hj;cases hj
 ·rw[cE] at hj
  ·exact⟨j,hj,hl⟩
  grind
theorem Ok.took(R:Rel n0 ab rb w0 N t m a w loc ow){wr:List (Nat×Ent)}(h:Took m wr){q:Nat×Ent}(hq:q∈wr){b:Nat}(hb:(loc q.1).has b):Ok n0 ab (bQ m wr) loc w b:=by
 have R':=R.close wr h
 have hE:=R'.ents q.1
 unfold EntR at hE
 rw[mN wr h q hq] at hE
 obtain⟨ks,xs,d,o,h1,h2⟩:=h q hq
 rw[h2] at hE
 grind
theorem Made.close(R:Rel n0 ab rb w0 N t m a w loc ow){wr:List (Nat×Ent)}{p:Bool}{bs:List Nat}(h:Made n0 (Ok n0 ab m loc w) m loc ow wr p bs):∀ b∈bs,Ok n0 ab (bQ m wr) loc w b:=by
 intro b hb
 rcases h.blk b hb with h1 | ⟨q,hq,h1⟩
 ·exact Ok.close h.took h1
 ·exact Ok.took R h.took hq h1

/-! ### a new entry -/
theorem fN{w:World}{o:Obj}{b:Nat}(h:b<w.heap.size):(w.heap.push o)[b]? =w.heap[b]? :=by
 rw[Array.getElem?_push_lt h,Array.getElem?_eq_getElem h]
theorem oC(w:World)(o:Obj):(w.heap.push o)[w.heap.size]? =some o:=by simp
theorem CE{w:World}{o:Obj}{b c:Nat}(hb:b<(w.alloc o).heap.size)(hn:¬ (Loc.at_ w.heap.size 0 c).has b):b<w.heap.size:=by
 have h1:b<w.heap.size+1:=by
  simp_all
 have h2:¬ w.heap.size=b:=hn
 omega
theorem KM{w:World}{o:Obj}{b c:Nat}(hb:b<(w.alloc o).heap.size)(hn:¬ (Loc.at_ w.heap.size 0 c).has b):(w.alloc o).heap[b]? =w.heap[b]? :=
 fN (CE hb hn)
def kO(loc:Nat->Loc)(i:Nat)(l:Loc):Nat->Loc:=λj=>if j=i then l else loc j
theorem bL(loc:Nat->Loc)(i:Nat)(l:Loc):kO loc i l i=l:=by simp[kO]
theorem cK(loc:Nat->Loc){i j:Nat}(l:Loc)(h:j≠i):kO loc i l j=loc j:=by simp[kO,h]
theorem Rel.le(R:Rel n0 ab rb w0 N t m a w loc ow):n0<=w.heap.size:=by rw[R.hn0];exact R.keep.size

/-- A new variable. -/
theorem Rel.newVar (R:Rel n0 ab rb w0 N t m a w loc ow) {id:Nat} (hid:m id= .none) {ls:List Leaf} {us:List Value} (hls:LRs m loc (Ok n0 ab m loc w) w ls us)
  {w':World} {T:Nat} (hh:w'.heap=w.heap.push (.cells us.toArray T (0,0))) (h1:w'.os=w.os) (h2:w'.tape=w.tape) (h3:w'.output=w.output):
  Rel n0 ab rb w0 N t (cD m id (.var ls)) a w' (kO loc id (.at_ w.heap.size 0 0)) (λb=>if b=w.heap.size then some id else ow b):=by
 have hlt:∀ b,b<w.heap.size->w'.heap[b]? =w.heap[b]? :=λb hb=>by rw[hh];grind
 have hsz:w'.heap.size=w.heap.size+1:=by rw[hh];simp
 have hok:∀ b,Ok n0 ab m loc w b->Ok n0 ab (cD m id (.var ls)) (kO loc id (.at_ w.heap.size 0 0)) w' b/\w'.heap[b]? =w.heap[b]? :=by
  rintro b ⟨p,q,r⟩
  refine⟨⟨by omega,?_,r⟩,hlt b p⟩
  rintro ⟨j,hj,hb⟩
  by_cases e:j=id
  ·subst e;rw[bL] at hb;simp only[Loc.has] at hb;omega
  ·rw[a9 _ _ e] at hj;rw[cK _ _ e] at hb;exact q ⟨j,hj,hb⟩
 have hgo:∀ j,Goes (m j) (cD m id (.var ls) j) (loc j) (kO loc id (.at_ w.heap.size 0 0) j):=by
  intro j
  by_cases e:j=id
  ·subst e;rw[hid];trivial
  ·rw[a9 _ _ e,cK _ _ e];exact Goes.refl _ _
 refine R.update ⟨h1.trans R.keep.os,h2.trans R.keep.tape,h3.trans R.keep.output,by rw[hsz];exact Nat.le_succ_of_le R.keep.size,λb hb hr=>?_⟩ (by omega) hok hgo (λj=>?_) (λb j hj=>?_) (λj b hj hb=>?_) (λb _ hb=>by
   by_cases e:b=w.heap.size
   ·subst e;exact .inr ⟨us.toArray,T,(0,0),by rw[hh];simp,.inl rfl⟩
   grind) (λj _ h=>by
   by_cases c:j=id
   ·subst c;rw[aX] at h;cases h
   ·rw[a9 _ _ c] at h;exact .inl ⟨h,cK _ _ c⟩) (λj h1 h2=>oQ (by rw[hid];rfl) j h1 h2) (λb hb=>SizeLe.same (hlt b hb))
 ·rw[hlt b (Nat.lt_of_lt_of_le hb R.keep.size)];exact R.keep.block b hb hr
 ·by_cases e:j=id
  ·subst e
   left
   unfold EntR
   rw[aX]
   refine⟨w.heap.size,us.toArray,T,(0,0),bL _ _ _,by rw[hh];simp,.inl rfl,?_,by simp⟩
   exact LRs.mono hok hgo _ _ (by omega)
  ·right
   refine⟨a9 _ _ e,cK _ _ e,λb hm hb=>hlt b (R.owner hm hb).2,λ_ b hb=>?_⟩
   have:=R.owlt b j hb
   grind
 ·by_cases e:b=w.heap.size
  ·omega
  ·simp only[e,if_false] at hj;have:=R.owlt b j hj;omega
 ·by_cases e:j=id
  ·subst e;rw[bL] at hb;simp only[Loc.has] at hb;have:=R.le;omega
  ·rw[a9 _ _ e] at hj;rw[cK _ _ e] at hb;exact R.mutrb j b hj hb

open Classical in
/-- A new row of elements: in a new block, or in the block of an old row that is given up. -/
theorem Rel.renew (R:Rel n0 ab rb w0 N t m a w loc ow) (old:Option Nat) {id:Nat} (hid:m id= .none) (hold:∀ j,old=some j->dU (m j)=true/\∃ ks xs d o,m j= .arr ks xs d o)
  {w':World} (hzo:∀ b,b<w.heap.size->SizeLe w w' b) (hk:Keep rb w0 w') (hsz:w.heap.size<=w'.heap.size) (hw:∀ b,b<w.heap.size->(∀ j,old=some j->¬ (loc j).has b)->w'.heap[b]? =w.heap[b]?)
  {l:Loc} (hfr:∀ b,b<w'.heap.size->¬ l.has b->w'.heap[b]? =w.heap[b]?) (hl:∀ b,l.has b->n0<=b/\b<w'.heap.size/\(w.heap.size<=b\/∃ j,old=some j/\(loc j).has b))
  {ks:List Kd} {xs:List (Row ks)} {bss:List (List Nat)} {deep:Bool} (hown:OwnAt w' ks xs l bss) (hok:∀ bb∈bss,∀ b∈bb,Ok n0 ab m loc w b)
  (nb:List Nat) (hnb:∀ b∈nb,∃ j,ow b=some j/\dU (m j)=false)
  (hd:deep=true->(List.flatten bss).Nodup/\∀ bb∈bss,∀ b∈bb,n0<=b/\((∃ j,old=some j/\ow b=some j)\/b∈nb)):
  ∃ loc' ow',Rel n0 ab rb w0 N t (cD (λj=>if old=some j then .dead else m j) id (.arr ks xs deep true)) a w' loc' ow'/\loc'=kO loc id l:=by
 refine⟨kO loc id l,λb=>if(∃ j,old=some j/\ow b=some j)\/b∈nb\/l.has b then some id else ow b,?_,rfl⟩
 generalize hM:(λj=>if old=some j then Ent.dead else m j)=M
 have hM1:∀ j,old=some j->M j= .dead:=λj hj=>by rw[<- hM];grind
 have hM2:∀ j,old≠some j->M j=m j:=λj hj=>by rw[<- hM];grind
 have hok':∀ b,Ok n0 ab m loc w b->Ok n0 ab (cD M id (.arr ks xs deep true)) (kO loc id l) w' b/\w'.heap[b]? =w.heap[b]? :=by
  rintro b ⟨p,q,r⟩
  refine⟨⟨by omega,?_,r⟩,hw b p λj hj hb=>q ⟨j,(hold j hj).1,hb⟩⟩
  rintro ⟨j,hj,hb⟩
  by_cases e:j=id
  ·subst e
   rw[bL] at hb
   rcases (hl b hb).2.2 with h | ⟨i,hi,h⟩
   ·omega
   ·exact q ⟨i,(hold i hi).1,h⟩
  ·rw[a9 _ _ e] at hj
   rw[cK _ _ e] at hb
   by_cases ho:old=some j
   ·rw[hM1 j ho] at hj;cases hj
   ·rw[hM2 j ho] at hj;exact q ⟨j,hj,hb⟩
 have hgo:∀ j,Goes (m j) (cD M id (.arr ks xs deep true) j) (loc j) (kO loc id l j):=by
  intro j
  by_cases e:j=id
  ·subst e;rw[hid];trivial
  ·rw[a9 _ _ e,cK _ _ e]
   by_cases ho:old=some j
   ·rw[hM1 j ho]
    obtain⟨_,ks',xs',d,o,hj⟩:=hold j ho
    rw[hj];exact .inl rfl
   ·rw[hM2 j ho];exact Goes.refl _ _
 refine R.update hk hsz hok' hgo (λj=>?_) (λb j hj=>?_) (λj b hj hb=>?_) (λb _ hb=>by
  by_cases e:l.has b
  ·right
   cases l with
   | nil=>exact e.elim
   | pin _ _ _=>exact hown.elim
   | at_ b' o c=>
    obtain⟨cs,T,fz,k1,k2,_⟩:=hown
    cases e
    exact⟨cs,T,fz,k1,k2⟩
  simp_all) (λj _ h=>by
   by_cases c:j=id
   ·subst c;rw[aX] at h;cases h
   ·rw[a9 _ _ c] at h
    by_cases ho:old=some j
    ·rw[hM1 j ho] at h;cases h
    ·rw[hM2 j ho] at h;exact .inl ⟨h,cK _ _ c⟩) (λj h1 h2=>by
   by_cases c:j=id
   ·subst c;rw[hid] at h1;cases h1
   ·rw[a9 _ _ c] at h2
    by_cases ho:old=some j
    ·obtain⟨_,ks',xs',d,o,h4⟩:=hold j ho
     rw[h4] at h1;cases h1
    simp_all) hzo
 ·by_cases e:j=id
  ·subst e
   left
   unfold EntR
   rw[aX]
   refine⟨bss,by rw[bL];omega,λbb hb b hx=>(hok' b (hok bb hb b hx)).1,λb hb=>?_,λhdp _=>?_⟩
   ·rw[bL] at hb
    simp_all
   ·obtain⟨h1,h2⟩:=hd hdp
    refine⟨λbb hb b hx=>⟨?_,(h2 bb hb b hx).1⟩,h1,λb hb hx=>?_⟩
    ·grind
    ·rw[bL] at hb
     obtain⟨bb,hbb,hx⟩:=List.mem_flatten.1 hx
     have h3:=hok bb hbb b hx
     rcases (hl b hb).2.2 with h | ⟨i,hi,h⟩
     ·grind
     ·exact h3.2.1 ⟨i,(hold i hi).1,h⟩
  ·by_cases ho:old=some j
   ·left
    unfold EntR
    rw[a9 _ _ e,hM1 j ho]
    simp
   ·right
    refine⟨by rw[a9 _ _ e,hM2 j ho],cK _ _ e,λb hm hb=>?_,λhm b hb=>?_⟩
    ·obtain⟨h1,h2⟩:=R.owner hm hb
     refine hw b h2 λi hi hx=>?_
     have h3:=(R.owner (hold i hi).1 hx).1
     rw[h1] at h3
     simp_all
    ·refine(if_neg ?_).trans hb
     ·rintro (⟨i,hi,hx⟩ | hx | hx)
      ·rw[hb] at hx;simp_all
      ·grind
      ·rcases (hl b hx).2.2 with h | ⟨i,hi,h⟩
       ·have:=R.owlt b j hb;omega
       ·have h3:=(R.owner (hold i hi).1 h).1
        rw[hb] at h3
        simp_all
 ·split at hj
  ·rename_i hx
   rcases hx with ⟨i,hi,hx⟩ | hx | hx
   ·have:=R.owlt b i hx;omega
   ·obtain⟨i,hi,_⟩:=hnb b hx;have:=R.owlt b i hi;omega
   simp_all
  ·have:=R.owlt b j hj;omega
 ·by_cases e:j=id
  ·subst e;rw[bL] at hb;simp_all
  ·rw[a9 _ _ e] at hj
   rw[cK _ _ e] at hb
   by_cases ho:old=some j
   ·rw[hM1 j ho] at hj;cases hj
   ·rw[hM2 j ho] at hj;exact R.mutrb j b hj hb
end rel
end Go.Abs
/- Stores. -/
namespace Go.Abs
open Go

theorem vF{w:World}{b o:Nat}{v:Value}(b':Nat):(w.setCell ⟨b,o,none⟩ v).heap[b']? =if b=b' then(w.heap[b']?).map (λx=>match x with | .cells c e f=> .cells (c.setIfInBounds o v) e f | x=>x)else w.heap[b']? :=by
 unfold World.setCell
 grind
/-- A list of cells with a part replaced. -/
def eN(cs:List Value)(o:Nat)(us:List Value):List Value:=cs.take o++us++cs.drop (o+us.length)
theorem fF(cs:List Value)(o:Nat)(us:List Value)(h:o+us.length<=cs.length)(j:Nat):
  (eN cs o us)[j]? =if o<=j/\j<o+us.length then us[j - o]? else cs[j]? :=by
 unfold eN
 by_cases h1:j<o
 ·rw[List.getElem?_append_left (by grind),List.getElem?_append_left (by grind),List.getElem?_take,if_pos h1,if_neg (by omega)]
 grind
theorem fQ(b:Nat):∀ (us:List Value) (o:Nat) (w:World),(w.setCells b o us).os=w.os/\(w.setCells b o us).tape=w.tape/\(w.setCells b o us).output=w.output/\
  (w.setCells b o us).heap.size=w.heap.size/\∀ b',b'≠b->(w.setCells b o us).heap[b']? =w.heap[b']?
 | [],_,_=>⟨rfl,rfl,rfl,rfl,λ_ _=>rfl⟩
 | v::r,o,w=>by
  obtain⟨h1,h2,h3,h4,h5⟩:=fQ b r (o+1) (w.setCell ⟨b,o,none⟩ v)
  refine⟨h1,h2,h3,h4.trans (by simp),λb' hb=>(h5 b' hb).trans ?_⟩
  rw[vF,if_neg (λe=>hb e.symm)]
theorem gD(b T:Nat)(fz:Nat×Nat):∀ (us:List Value) (o:Nat) (w:World) (cs:Array Value),w.heap[b]? =some (.cells cs T fz)->o+us.length<=cs.size->
  ∃ cs',(w.setCells b o us).heap[b]? =some (.cells cs' T fz)/\cs'.toList=eN cs.toList o us
 | [],o,w,cs,h,_=>⟨cs,h,by simp[eN]⟩
 | v::r,o,w,cs,h,hl=>by
  simp only[List.length_cons] at hl
  have h':(w.setCell ⟨b,o,none⟩ v).heap[b]? =some (.cells (cs.setIfInBounds o v) T fz):=by
   rw[vF,if_pos rfl,h];rfl
  obtain⟨cs',h1,h2⟩:=gD b T fz r (o+1) _ _ h' (by grind)
  refine⟨cs',h1,?_⟩
  rw[h2]
  apply List.ext_getElem?
  intro j
  rw[fF _ _ _ (by grind),fF _ _ _ (by omega)]
  grind
theorem LRs.cell{m:Mem}{loc:Nat->Loc}{ok:Nat->Prop}{w:World}:∀ (ls:List Leaf) (us:List Value),LRs m loc ok w ls us->∀ u∈us,u.oneCell'=true
 | [],us,h,u,hu=>by rw[h] at hu;grind
 | l::ls,us,⟨x,us',e,h,hs⟩,u,hu=>by
  rw[e] at hu
  rcases List.mem_cons.1 hu with rfl | hu
  ·exact LR.cell l _ h
  ·exact LRs.cell ls us' hs u hu
theorem lW{w:World}{b o:Nat}{us:List Value}(h:∃ cs T fz,w.heap[b]? =some (.cells cs T fz)/\(fz.1=fz.2\/cs.size<=fz.1)/\o+us.length<=cs.size):SizeLe w (w.setCells b o us) b:=by
 obtain⟨cs,T,fz,hh,_,hle⟩:=h
 intro cs2 T2 fz2 h2
 rw[hh] at h2;cases h2
 obtain⟨cs',e1,e2⟩:=gD b T fz us o w cs hh (by omega)
 have h1:cs'.toList.length=cs.toList.length:=by rw[e2];simp[eN];omega
 grind
section stores
variable {P:Program} {n0:Nat} {ab rb:Nat->Prop} {w0:World} {N:Fix} {t:Nat->AVal} {m:Mem} {a:Act} {w:World} {loc:Nat->Loc} {ow:Nat->Option Nat}
theorem gU {tid:Nat} {i:TyI} (T:TyOk P tid i) {b o:Nat} {us:List Value} {v:Value} (hv:v.cells=us.toArray) (hl:us.length=i.size) (h1:∀ u∈us,u.oneCell'=true)
  {cs:Array Value} {e:Nat} {fz:Nat×Nat} (hh:w.heap[b]? =some (.cells cs e fz)) (hf:(fz.1=fz.2\/cs.size<=fz.1)) (hb:o+us.length<=cs.size):
  (storeVar tid ⟨b,o,none⟩ v).run P w= .ok () (w.setCells b o us):=by
 unfold storeVar
 simp only[Sem.run_bind,T.size,Result.andThen,hv]
 have hsz:us.toArray.size=i.size:=by omega
 simp only[hsz,ne_eq,not_true,if_false]
 have:=run_storeCells_cells (P:=P) b o us 0 w (λj hj=>by rw[iZ hh];grind) (λj hj=>by
  unfold World.frozen?
  grind) h1
 omega
/-- A block that belongs to an entry is written: that entry alone changes. -/
theorem Rel.write (R:Rel n0 ab rb w0 N t m a w loc ow) {id b:Nat} (hm:dU (m id)=true) (hb:(loc id).has b) {e:Ent} (he:dU e=true) (hgo:Goes (m id) e (loc id) (loc id))
  {w':World} (h1:w'.os=w.os) (h2:w'.tape=w.tape) (h3:w'.output=w.output) (h4:w'.heap.size=w.heap.size) (h5:∀ b',b'≠b->w'.heap[b']? =w.heap[b']?)
  (hwb:cO w' b) (hsz:SizeLe w w' b) (hgp:∀ {ks xs},m id= .pin ks xs->fM e=false->tQ id) (ow':Nat->Option Nat) (ho:∀ x j,j≠id->dU (m j)=true->ow x=some j->ow' x=some j) (ho2:∀ x j,ow' x=some j->x<w.heap.size)
  (hE:(∀ x,Ok n0 ab m loc w x->Ok n0 ab (cD m id e) loc w' x/\w'.heap[x]? =w.heap[x]?)->(∀ j,Goes (m j) (cD m id e j) (loc j) (loc j))->
   EntR n0 (Ok n0 ab (cD m id e) loc w') (cD m id e) loc ow' w' id):
  Rel n0 ab rb w0 N t (cD m id e) a w' loc ow':=by
 have hmut:∀ j,dU (cD m id e j)=true->dU (m j)=true:=by
  intro j hj
  by_cases c:j=id
  ·simp_all
  ·rwa [a9 _ _ c] at hj
 have hok:∀ x,Ok n0 ab m loc w x->Ok n0 ab (cD m id e) loc w' x/\w'.heap[x]? =w.heap[x]? :=by
  rintro x ⟨p,q,r⟩
  refine⟨⟨by omega,fun⟨j,hj,hx⟩=>q ⟨j,hmut j hj,hx⟩,r⟩,h5 x λc=>?_⟩
  subst c;exact q ⟨id,hm,hb⟩
 have hg:∀ j,Goes (m j) (cD m id e j) (loc j) (loc j):=by
  intro j
  by_cases c:j=id
  ·subst c;rw[aX];omega
  ·rw[a9 _ _ c];exact Goes.refl _ _
 refine R.update ⟨h1.trans R.keep.os,h2.trans R.keep.tape,h3.trans R.keep.output,by rw[h4];exact R.keep.size,λx hx hr=>?_⟩ (by omega) hok hg (λj=>?_) (λx j hj=>by simp_all) (λj x hj hx=>R.mutrb j x (hmut j hj) hx) (λx _ _=>by
  grind) (λj _ h=>by
   by_cases c:j=id
   ·subst c;rw[aX] at h
    left
    refine⟨?_,rfl⟩
    cases hmj:m j with
    | pin ks xs=>rfl
    | none=>rw[hmj] at hm;cases hm
    | dead=>rw[hmj] at hm;cases hm
    | var ls=>rw[hmj] at hgo;obtain⟨⟨ls',g⟩,_⟩:=hgo;rw[g] at h;cases h
    | arr ks xs d o=>rw[hmj] at hgo;rcases hgo with g | ⟨⟨xs',d',o',g,_⟩,_⟩<;>rw[g] at h<;>cases h
   ·rw[a9 _ _ c] at h;simp_all) (λj h1 h2=>by
   by_cases c:j=id
   ·subst c;rw[aX] at h2
    cases hmj:m j with
    | pin ks xs=>simp_all
    | none=>rw[hmj] at h1;cases h1
    | dead=>rw[hmj] at h1;cases h1
    | var ls=>rw[hmj] at h1;cases h1
    | arr ks xs d o=>rw[hmj] at h1;cases h1
   ·rw[a9 _ _ c,h1] at h2;grind) (λx _=>by
   by_cases c:x=b
   ·simp_all
   ·exact SizeLe.same (h5 x c))
 ·rw[h5 x]
  ·exact R.keep.block x hx hr
  ·intro c
   subst c
   rcases R.mutrb id x hm hb with h | h
   ·have:=R.hn0;omega
   simp_all
 ·by_cases c:j=id
  ·simp_all
  ·right
   refine⟨a9 _ _ c,rfl,λx hj hx=>h5 x λcc=>?_,λhj x hx=>ho x j c hj hx⟩
   subst cc
   have e1:=(R.owner hm hb).1
   have e2:=(R.owner hj hx).1
   rw[e1] at e2
   simp_all
theorem C9{ok:Nat->Prop}{ls new:List Leaf}{us nu:List Value}{off:Nat}(h:LRs m loc ok w ls us)(h':LRs m loc ok w new nu):LRs m loc ok w (DA ls off new) (eN us off nu):=by
 unfold DA eN
 rw[h'.length]
 exact LRs.append _ _ _ _ (LRs.append _ _ _ _ (h.take off) h') (h.drop _)
/-- A store into a variable. -/
theorem Rel.storeVar (R:Rel n0 ab rb w0 N t m a w loc ow) {id:Nat} {ls:List Leaf} (hm:m id= .var ls) {new:List Leaf} {nu:List Value} {off:Nat} (hnew:LRs m loc (Ok n0 ab m loc w) w new nu)
  (hle:off+new.length<=ls.length) {b:Nat} (hb:loc id= .at_ b 0 0):Rel n0 ab rb w0 N t (cD m id (.var (DA ls off new))) a (w.setCells b off nu) loc ow:=by
 have hE:=R.ents id
 unfold EntR at hE
 rw[hm] at hE
 obtain⟨b',cs,T,fz,hl,hh,hf,hs,hw⟩:=hE
 rw[hb] at hl;cases hl
 obtain⟨k1,k2,k3,k4,k5⟩:=fQ b nu off w
 have hnl:=hnew.length
 have hsl:=hs.length
 obtain⟨cs',e1,e2⟩:=gD b T fz nu off w cs hh (by simp_all)
 have hcs:cs'.size=cs.size:=by
  have hcl:cs.toList.length=cs.size:=by simp
  have h1:cs'.toList.length=cs.toList.length:=by rw[e2];simp[eN];omega
  omega
 refine R.write (b:=b) (by rw[hm];rfl) (by rw[hb];rfl) rfl (by rw[hm];exact⟨⟨_,rfl⟩,rfl⟩) k1 k2 k3 k4 k5 ⟨cs',T,fz,e1,by rw[hcs];omega⟩ (λcs2 T2 fz2 h2=>by rw[hh] at h2;simp_all) (λh=>by rw[hm] at h;grind) ow (λ_ _ _ _ h=>h) (λx j h=>R.owlt x j h) λhok hg=>?_
 unfold EntR
 rw[aX]
 refine⟨b,cs',T,fz,hb,e1,?_,?_,hw⟩
 ·omega
 ·rw[e2];exact LRs.mono hok hg _ _ (C9 hs hnew)
end stores
end Go.Abs
/- Stores into elements. -/
namespace Go.Abs
open Go
section rel
variable {P:Program} {n0:Nat} {ab rb:Nat->Prop} {w0:World} {N:Fix} {t:Nat->AVal} {m:Mem} {a:Act} {w:World} {loc:Nat->Loc} {ow:Nat->Option Nat}
theorem IO(us:List Value)(o:Nat):eN us o []=us:=by simp[eN]
theorem Rel.setRow(R:Rel n0 ab rb w0 N t m a w loc ow):∀ (ks:List Kd) (r:Row ks) (off:Nat) (new:List Leaf) (r':Row ks) (wr:List (Nat×Ent)) (p:Bool) (tr:List Nat),
  Does m (Abs.setRow ks r off new) (r',wr,p) tr->∀ (us:List Value) (bb:List Nat) (nu:List Value),RR w ks r us bb->LRs m loc (Ok n0 ab m loc w) w new nu->
  off+new.length<=ks.length+off*(1 - new.length)/\∃ bb' kb mb,RR w ks r' (eN us off nu) bb'/\Made n0 (Ok n0 ab m loc w) m loc ow wr p mb/\kb.Sublist bb/\bb'.Perm (kb++mb)
 | ks,r,off,[],r',wr,p,tr,h,us,bb,nu,hr,hn=>by
  have hnu:nu=[]:=hn
  subst hnu
  obtain⟨e,_⟩:(r',wr,p)=(r,[],true)/\tr=[]:=by cases ks<;>exact h
  cases e
  refine⟨by simp,bb,bb,[],by rw[IO];omega,Made.nil,List.Sublist.refl _,by simp⟩
 | [],_,off,_::_,_,_,_,_,h,_,_,_,_,_=>by cases off<;>exact h.elim
 | k::ks,r,0,l::ls,r',wr,p,tr,h,us,bb,nu,⟨u,us',b,b',e1,e2,h1,h2⟩,⟨x,nu',e3,hl,hs⟩=>by
  unfold Abs.setRow at h
  obtain⟨⟨y,w1,p1⟩,t1,t2,_,h3,h4⟩:=Does.bind _ _ h
  obtain⟨⟨rr,w2,p2⟩,t3,t4,_,h5,h6⟩:=Does.bind _ _ h4
  obtain⟨e4,_⟩:=h6
  cases e4
  obtain⟨b1,q1,m1⟩:=R.leafAt h3 hl
  obtain⟨hle,bb',kb,mb,q2,m2,sub,perm⟩:=Rel.setRow R ks r.2 0 ls rr w2 p2 t3 h5 us' b' nu' h2 hs
  subst e1 e2 e3
  refine⟨by simp_all,b1++bb',kb,b1++mb,⟨x,eN us' 0 nu',b1,bb',?_,rfl,q1,q2⟩,Made.append R m1 m2,sub.trans (List.sublist_append_right _ _),?_⟩
  ·rfl
  grind
 | k::ks,r,o+1,l::ls,r',wr,p,tr,h,us,bb,nu,⟨u,us',b,b',e1,e2,h1,h2⟩,hn=>by
  unfold Abs.setRow at h
  obtain⟨⟨rr,w2,p2⟩,t3,t4,_,h5,h6⟩:=Does.bind _ _ h
  obtain⟨e4,_⟩:=h6
  cases e4
  obtain⟨hle,bb',kb,mb,q2,m2,sub,perm⟩:=Rel.setRow R ks r.2 o (l::ls) rr wr p t3 h5 us' b' nu h2 hn
  subst e1 e2
  refine⟨by grind,b++bb',b++kb,mb,⟨u,eN us' o nu,b,bb',?_,rfl,h1,q2⟩,m2,List.Sublist.append (List.Sublist.refl _) sub,?_⟩
  ·have:o+1+nu.length=(o+nu.length)+1:=by omega
   simp[eN,this]
  grind
theorem yX(bss:List (List Nat))(j:Nat)(bb':List Nat)(h:j<bss.length):List.flatten (bss.set j bb')=List.flatten (bss.take j)++bb'++List.flatten (bss.drop (j+1)):=by
 rw[List.set_eq_take_append_cons_drop,if_pos h];simp
theorem sU(bss:List (List Nat))(j:Nat)(h:j<bss.length):List.flatten bss=List.flatten (bss.take j)++bss[j]++List.flatten (bss.drop (j+1)):=by
 have:=yX bss j bss[j] h
 rwa [List.set_getElem_self] at this
theorem wU{i j k l s n:Nat}(hij:i≠j)(hk:k<s)(hl:l+n<=s):¬(j*s+l<=i*s+k/\i*s+k<j*s+l+n):=by
 rintro ⟨h1,h2⟩
 rcases Nat.lt_or_gt_of_ne hij with h | h
 ·have:(i+1)*s<=j*s:=Nat.mul_le_mul_right s h
  rw[Nat.succ_mul] at this;omega
 ·have:(j+1)*s<=i*s:=Nat.mul_le_mul_right s h
  rw[Nat.succ_mul] at this;omega
/-- A store into an element of a row that is open. -/
theorem Rel.storeArr (R:Rel n0 ab rb w0 N t m a w loc ow) {id:Nat} {ks:List Kd} {xs:List (Row ks)} {deep:Bool} (hm:m id= .arr ks xs deep true) {j of:Nat} {r r':Row ks} (hr:xs[j]? =some r)
  {new:List Leaf} {nu:List Value} {wr:List (Nat×Ent)} {p:Bool} {tr:List Nat} (hd:Does m (Abs.setRow ks r of new) (r',wr,p) tr) (hnew:LRs m loc (Ok n0 ab m loc w) w new nu)
  (hne:new≠[]) (hid:j0 id wr=false) {b o c:Nat} (hb:loc id= .at_ b o c):
  ∃ ow',Rel n0 ab rb w0 N t (bQ m (wr++[(id,.arr ks (xs.set j r') (deep&&p) true)])) a (w.setCells b (o+j*ks.length+of) nu) loc ow'/\
   ∃ cs T fz,w.heap[b]? =some (.cells cs T fz)/\(fz.1=fz.2\/cs.size<=fz.1)/\o+j*ks.length+of+nu.length<=cs.size:=by
 have hE:=R.ents id
 unfold EntR at hE
 rw[hm] at hE
 obtain⟨bss,hown,hok,hblk,hdeep⟩:=hE
 rw[hb] at hown
 obtain⟨cs,T,fz,hh,hf,hs,hc,hl,hrow⟩:=hown
 have hjx:j<xs.length:=(List.getElem?_eq_some_iff.1 hr).1
 have hjb:j<bss.length:=by omega
 obtain⟨us,hrr,hus⟩:=hrow j r bss[j] hr (List.getElem?_eq_getElem hjb)
 obtain⟨hle,bb',kb,mb,hrr',made,sub,perm⟩:=R.setRow ks r of new r' wr p tr hd us bss[j] nu hrr hnew
 have hle':of+new.length<=ks.length:=by
  have:1<=new.length:=by grind
  simp_all
 have hnl:=hnew.length
 have hul:=RR.length _ _ _ _ hrr
 have hsize:o+j*ks.length+of+nu.length<=cs.size:=by
  have:(j+1)*ks.length<=c*ks.length:=Nat.mul_le_mul_right _ (by omega)
  rw[Nat.succ_mul] at this;omega
 have hidw:∀ q∈wr,q.1≠id:=by
  intro q hq e
  have:=(iX id wr).2 ⟨q,hq,e⟩
  rw[hid] at this;simp_all
 have R1:=R.close wr made.took
 have hm1:bQ m wr id= .arr ks xs deep true:=by rw[cE _ _ _ hidw];omega
 have hmade:=made.close R
 have hok1:∀ bb∈bss,∀ x∈bb,Ok n0 ab (bQ m wr) loc w x:=λbb hbb x hx=>Ok.close made.took (hok bb hbb x hx)
 have hbb':∀ x∈bb',Ok n0 ab (bQ m wr) loc w x:=by
  grind
 rw[dX]
 obtain⟨k1,k2,k3,k4,k5⟩:=fQ b nu (o+j*ks.length+of) w
 have hcl:cs.toList.length=cs.size:=by simp
 obtain⟨cs',e1,e2⟩:=gD b T fz nu (o+j*ks.length+of) w cs hh hsize
 have hcsz:cs'.size=cs.size:=by
  have h1:cs'.toList.length=cs.toList.length:=by rw[e2];simp[eN];omega
  omega
 refine⟨λx=>if(deep&&p)=true/\x∈mb then some id else ow x,?_,cs,T,fz,hh,hf,hsize⟩
 refine R1.write (b:=b) (by rw[hm1];rfl) (by rw[hb];rfl) rfl (by rw[hm1];exact .inr ⟨⟨xs.set j r',deep&&p,true,rfl,List.length_set ..⟩,rfl⟩) k1 k2 k3 k4 k5 ⟨cs',T,fz,e1,by rw[hcsz];omega⟩ (λcs2 T2 fz2 h2=>by rw[hh] at h2;simp_all) (λh=>by rw[hm1] at h;grind) _ (λx i hi hmi hx=>?_) (λx i hx=>?_) λhok2 hg=>?_
 ·by_cases hc2:(deep&&p)=true/\x∈mb
  ·exfalso
   have hp:p=true:=by simp_all
   obtain⟨_,q,hq,e⟩:=(made.own hp).2 x hc2.2
   rw[hx] at e
   rw[Option.some.inj e,mN wr made.took q hq] at hmi
   obtain⟨_,_,_,_,_,h2⟩:=made.took q hq
   rw[h2] at hmi;cases hmi
  simp_all
 ·split at hx
  ·rename_i hc2
   exact(hmade x hc2.2).1
  ·exact R.owlt x i hx
 ·unfold EntR
  rw[aX]
  refine⟨bss.set j bb',?_,?_,?_,?_⟩
  ·rw[hb]
   have hsz':cs'.size=cs.size:=by
    omega
   refine⟨cs',T,fz,e1,by rw[hsz'];omega,by rw[hsz'];omega,by rw[List.length_set];omega,by rw[List.length_set,List.length_set];omega,λi r2 b2 hi hb2=>?_⟩
   have hget:∀ k,cs'[k]? =(eN cs.toList (o+j*ks.length+of) nu)[k]? :=λk=>by rw[<- e2,Array.getElem?_toList]
   by_cases hij:i=j
   ·subst hij
    rw[List.getElem?_set_self hjx] at hi
    rw[List.getElem?_set_self hjb] at hb2
    cases hi;cases hb2
    refine⟨eN us of nu,RR.mono _ _ _ _ (λx hx=>(hok2 x (hbb' x hx)).2) hrr',λk u hk=>?_⟩
    rw[hget,fF _ _ _ (by omega)]
    rw[fF _ _ _ (by omega)] at hk
    grind
   ·rw[List.getElem?_set_ne (λe=>hij e.symm)] at hi hb2
    obtain⟨us2,hrr2,hus2⟩:=hrow i r2 b2 hi hb2
    refine⟨us2,RR.mono _ _ _ _ (λx hx=>(hok2 x (hok1 b2 (List.mem_of_getElem? hb2) x hx)).2) hrr2,λk u hk=>?_⟩
    have hul2:=RR.length _ _ _ _ hrr2
    have hk2:k<ks.length:=by rw[<- hul2];grind
    rw[hget,fF _ _ _ (by omega),if_neg]
    ·simp_all
    ·have:=wU (k:=k) (l:=of) (s:=ks.length) (n:=nu.length) hij hk2 (by omega)
     omega
  ·grind
  ·simp_all
  ·intro hdp _
   have hdp':=hdp
   simp only[Bool.and_eq_true] at hdp'
   obtain⟨h1,h2⟩:=hdp'
   obtain⟨d1,d2,d3⟩:=hdeep h1 rfl
   obtain⟨o1,o2⟩:=made.own h2
   have hdis:∀ x∈mb,x∉List.flatten bss:=by
    intro x hx hxf
    obtain⟨bb,hbb,hxb⟩:=List.mem_flatten.1 hxf
    grind
   have hmem:∀ x,x∈List.flatten (bss.set j bb')->x∈List.flatten bss\/x∈mb:=by
    intro x hx
    obtain⟨bb,hbb,hxb⟩:=List.mem_flatten.1 hx
    rcases List.mem_or_eq_of_mem_set hbb with h | h
    ·exact .inl (List.mem_flatten.2 ⟨bb,h,hxb⟩)
    ·subst h
     rcases List.mem_append.1 (perm.mem_iff.1 hxb)with h | h
     ·exact .inl (List.mem_flatten.2 ⟨_,List.getElem_mem hjb,sub.subset h⟩)
     simp_all
   refine⟨λbb hbb x hx=>?_,?_,λx hx hxf=>?_⟩
   ·grind
   ·rw[yX _ _ _ hjb]
    rw[sU _ _ hjb] at d2
    have hperm:(List.flatten (bss.take j)++bb'++List.flatten (bss.drop (j+1))).Perm (mb++(List.flatten (bss.take j)++kb++List.flatten (bss.drop (j+1)))):=by
     grind
    rw[hperm.nodup_iff]
    have hsub:(List.flatten (bss.take j)++kb++List.flatten (bss.drop (j+1))).Sublist (List.flatten (bss.take j)++bss[j]++List.flatten (bss.drop (j+1))):=
     ((List.Sublist.refl _).append sub).append (List.Sublist.refl _)
    refine List.nodup_append.2 ⟨o1,d2.sublist hsub,λx hx y hy e=>?_⟩
    subst e
    have:=hsub.subset hy
    rw[<- sU _ _ hjb] at this
    grind
   grind
end rel
end Go.Abs
/- Operations that make memory. -/
namespace Go.Abs
open Go
section ops
variable {P:Program} {E:Env} (hT:TOk P E.ti)
variable {n0:Nat} {ab rb:Nat->Prop} {w0:World} {N:Fix} {t:Nat->AVal} {m:Mem} {a:Act} {w:World} {loc:Nat->Loc} {ow:Nat->Option Nat}
/-- What an operation leaves. -/
def Post(n0:Nat)(ab rb:Nat->Prop)(w0:World)(N:Fix)(t:Nat->AVal)(m:Mem)(a:Act)(e:Eff)(v:Value)(w:World):Prop:=
 ∃ loc ow,Rel n0 ab rb w0 N t (bQ m e.wr) a w loc ow/\VR (bQ m e.wr) loc (Ok n0 ab (bQ m e.wr) loc w) w e.v v
theorem Post.same(R:Rel n0 ab rb w0 N t m a w loc ow){e:Eff}{v:Value}(h1:e.wr=[])(h2:VR m loc (Ok n0 ab m loc w) w e.v v):Post n0 ab rb w0 N t m a e v w:=by
 refine⟨loc,ow,?_,?_⟩<;>rw[h1]
 ·exact R
 ·exact h2
theorem gN{α:Type}{id:Nat}{k:Q α}{x:α}{tr:List Nat}(h:Does m (fresh id k) x tr):m id= .none/\∃ tr',tr=id::tr'/\Does m k x tr':=by
 obtain⟨tr',e,h⟩:=h
 dsimp only at h
 split at h
 ·simp_all
 ·exact h.elim
theorem mO{i:TyI}(h:i.plain=true):match i.tag with | .ptr | .other=>False | _=>True:=by
 unfold TyI.plain at h
 split at h<;>simp_all
theorem LRs.zeros{ok:Nat->Prop}:∀ (ks:List Kd) (us:List Value),ks.mapM nK=some us->LRs m loc ok w (ks.map uU) us
 | [],us,h=>by simp at h;subst h;rfl
 | k::ks,us,h=>by
  rw[List.mapM_cons] at h
  simp only[Option.bind_eq_bind,Option.bind_eq_some_iff,Option.pure_def,Option.some.injEq] at h
  obtain⟨u,hu,us',hus,rfl⟩:=h
  refine⟨u,us',rfl,?_,LRs.zeros ks us' hus⟩
  cases k<;>simp[nK] at hu<;>subst hu
  ·exact⟨[],⟨rfl,rfl⟩,by simp⟩
  ·exact⟨[],⟨rfl,rfl⟩,by simp⟩
  ·exact⟨[],⟨rfl,rfl⟩,by simp⟩
  ·rfl
/-- A type's zero value. -/
theorem TyOk.zero{tid:Nat}{i:TyI}(T:TyOk P tid i)(h:i.plain=true):∃ us,(∀ w,(zeroValue tid).run P w= .ok (dQ i.agg us) w)/\i.kinds.mapM nK=some us/\us.length=i.size/\(dQ i.agg us).cells=us.toArray/\
  ∃ inf,P.info? tid=some inf/\inf.zero=some (dQ i.agg us)/\inf.size=i.size/\inf.bytes=i.bytes:=by
 obtain⟨inf,h1,h2,h3,hz⟩:=T.info
 obtain⟨z,us,h4,h5,h6,h7,h8⟩:=hz (mO h)
 have hl:us.length=i.size:=by
  rw[<- h7]
  have:=LRs.length (m:=λ_=> .none) (loc:=λ_=> .nil) (ok:=λ_=>True) (w:=default) _ _ (LRs.zeros i.kinds us h5)
  simp_all
 refine⟨us,λw=>by simp[zeroValue,typeInfo,h1,h4,h6,dQ],h5,hl,?_,inf,h1,by rw[h4,h6,dQ],h2,h3⟩
 unfold dQ
 cases ha:i.agg with
 | true=>rfl
 | false=>
  have:=h8 ha
  match us,(show us.length=1 by omega)with
  | [u],_=>
   have hc:=LRs.cell (m:=λ_=> .none) (loc:=λ_=> .nil) (ok:=λ_=>True) (w:=default) _ _ (LRs.zeros i.kinds [u] h5) u (by simp)
   cases u<;>first | rfl | cases hc
include hT
theorem S7 (R:Rel n0 ab rb w0 N t m a w loc ow) {tid id:Nat} {e:Eff} {tr:List Nat}
  (h:Does m (ty E tid λi=>if i.plain then fresh id (.ret ⟨.one (.ptr id 0),[(id,.var (i.kinds.map uU))]⟩)else .fail) e tr):
  ∃ v w',(Instr.alloc tid true (.tuple #[])).run P w= .ok v w'/\Post n0 ab rb w0 N t m a e v w':=by
 obtain⟨i,T,_,h'⟩:=cB hT h;replace h:=h';clear h'
 split at h
 ·rename_i hp
  obtain⟨hm,tr',_,h'⟩:=gN h;replace h:=h';clear h'
  obtain⟨rfl,_⟩:=h
  obtain⟨us,hz,hk,hl,hc,inf,hi,hzz,_⟩:=T.zero hp
  have R':=R.newVar hm (LRs.zeros i.kinds us hk) (w':=w.alloc (.cells us.toArray tid (0,0))) (T:=tid) rfl rfl rfl rfl
  refine⟨.pointer (some ⟨w.heap.size,0,none⟩),w.alloc (.cells us.toArray tid (0,0)),?_,_,_,R',?_⟩
  ·simp[Instr.alloc,hz,newVar,newRow,hc]
  ·show VR (cD m id _) _ _ _ _ _
   simp only[VR,VR1,LR,aX]
   exact⟨w.heap.size,bL _ _ _,rfl⟩
 ·exact h.elim
omit hT in
theorem V1 (R:Rel n0 ab rb w0 N t m a w loc ow) {tid id:Nat} {x:Operand} {e:Eff} {tr:List Nat}
  (h:Does m (ty E tid λi=>eY (cA t x) λls=>fresh id (.ret ⟨.one (.ptr id 0),[(id,.var ls)]⟩)) e tr):
  ∃ v w',(Instr.box tid (a.eval x)).run P w= .ok v w'/\Post n0 ab rb w0 N t m a e v w':=by
 have hv:=R.eval x
 generalize cA t x=q at h hv
 generalize a.eval x=u at hv
 have h':Does m (eY q λls=>fresh id (.ret (⟨.one (.ptr id 0),[(id,.var ls)]⟩:Eff))) e tr:=by
  unfold ty at h
  split at h
  ·omega
  ·exact h.elim
 replace h:=h';clear h'
 obtain⟨ls,hl,h'⟩:=lE h;replace h:=h';clear h'
 obtain⟨hm,tr',_,h'⟩:=gN h;replace h:=h';clear h'
 obtain⟨rfl,_⟩:=h
 obtain⟨us,hc,hls,_⟩:=hv.leaves hl
 have R':=R.newVar hm hls (w':=w.alloc (.cells us.toArray tid (0,0))) (T:=tid) rfl rfl rfl rfl
 refine⟨.pointer (some ⟨w.heap.size,0,none⟩),w.alloc (.cells us.toArray tid (0,0)),?_,_,_,R',?_⟩
 ·simp[Instr.box,newVar,newRow,hc]
 ·show VR (cD m id _) _ _ _ _ _
  simp only[VR,VR1,LR,aX]
  exact⟨w.heap.size,bL _ _ _,rfl⟩

omit hT in
theorem yU(off:Nat):∀ (us:List Value) (k:Nat) (cells:Array Value),off+k+us.length<=cells.size->
  ((us.zipIdx k).foldl (λcs (x:Value×Nat)=>cs.setIfInBounds (off+x.2) x.1) cells).toList=eN cells.toList (off+k) us
 | [],k,cells,_=>by simp[eN]
 | u::us,k,cells,h=>by
  simp only[List.length_cons] at h
  rw[List.zipIdx_cons,List.foldl_cons,yU off us (k+1) _ (by grind)]
  apply List.ext_getElem?
  intro j
  have hcl:cells.toList.length=cells.size:=by simp
  rw[fF _ _ _ (by grind),fF _ _ _ (by omega)]
  grind
omit hT in
theorem DW (place:Nat->Option (Nat×Nat)) (cells:Array Value) (i:Nat) (v:Value) (rest:List (Nat×Value)) {us:List Value} (hv:v.cells=us.toArray) {off:Nat} (hp:place i=some (off,us.length))
  (hle:off+us.length<=cells.size):∃ cells',cells'.toList=eN cells.toList off us/\cells'.size=cells.size/\Instr.fill place cells ((i,v)::rest)=Instr.fill place cells' rest:=by
 have h1:=yU off us 0 cells (by omega)
 refine⟨(us.zipIdx 0).foldl (λcs (x:Value×Nat)=>cs.setIfInBounds (off+x.2) x.1) cells,by omega,?_,?_⟩
 ·have h2:=congrArg List.length h1
  have hcl:cells.toList.length=cells.size:=by simp
  rw[Array.length_toList] at h2
  rw[h2]
  simp[eN]
  omega
 ·rw[Instr.fill,hp]
  grind
omit hT in
theorem AW:∀ (fs:List Field) (places:List (Nat×Nat)),fs.mapM (λf=>(P.info? f.type).map λi=>(f.offset,i.size))=some places->∀ (f:Nat) (fd:Field),fs[f]? =some fd->
  ∃ inf,P.info? fd.type=some inf/\places[f]? =some (fd.offset,inf.size)
 | [],places,_,f,fd,hf=>by simp_all
 | g::fs,places,h,f,fd,hf=>by
  simp only[List.mapM_cons,Option.bind_eq_bind,Option.pure_def,Option.bind_eq_some_iff,Option.some.injEq,Option.map_eq_some_iff] at h
  obtain⟨p,⟨inf,h1,h2⟩,ps,h3,rfl⟩:=h
  cases f with
  | zero=>simp_all
  | succ f=>exact AW fs ps h3 f fd (by simp_all)
omit hT in
theorem yL:∀ (fs:List Field),(∀ f∈fs,∃ inf,P.info? f.type=some inf)->∃ places,fs.mapM (λf=>(P.info? f.type).map λi=>(f.offset,i.size))=some places
 | [],_=>⟨[],by simp⟩
 | f::fs,h=>by
  obtain⟨inf,h1⟩:=h f (List.mem_cons_self ..)
  obtain⟨ps,h2⟩:=yL fs λg hg=>h g (List.mem_cons_of_mem _ hg)
  simp_all
theorem S6(R:Rel n0 ab rb w0 N t m a w loc ow){tid:Nat}{ps:List (Nat×Operand)}{e:Eff}{tr:List Nat}(h:Does m (KK E tid (ps.map λp=>(p.1,cA t p.2))) e tr):
  ∃ v,(Instr.build tid (ps.map λp=>(p.1,a.eval p.2)).toArray).run P w= .ok v w/\e.wr=[]/\VR m loc (Ok n0 ab m loc w) w e.v v:=by
 obtain⟨i,T,_,h'⟩:=cB hT h;replace h:=h';clear h'
 have hu:=T.und
 split at h
 ·rename_i htag
  rw[htag] at hu
  obtain⟨fs,hund,hmap,_,hnz⟩:=hu
  obtain⟨ls,t1,t2,_,h1,h2⟩:=Does.bind _ _ h
  obtain⟨rfl,_⟩:=h2
  obtain⟨us,hz,hk,hl,hc,inf,hinf,hzz,_⟩:=T.zero (by simp[TyI.plain,htag])
  obtain⟨places,hpl⟩:=yL (P:=P) fs.toList λf hf=>by grind
  have key:∀ (ps:List (Nat×Operand)) (cur:List Leaf) (cells:Array Value) (t1:List Nat),LRs m loc (Ok n0 ab m loc w) w cur cells.toList->
    Does m (LY E i cur (ps.map λp=>(p.1,cA t p.2))) ls t1->
    ∃ cells',Instr.fill (places.toArray[·]?) cells (ps.map λp=>(p.1,a.eval p.2))=some cells'/\LRs m loc (Ok n0 ab m loc w) w ls cells'.toList:=by
   intro ps
   induction ps with
   | nil=>intro cur cells t1 hcur hd;obtain⟨rfl,_⟩:=hd;exact⟨cells,rfl,hcur⟩
   | cons p ps ih=>
    intro cur cells t1 hcur hd
    simp only[List.map_cons,LY] at hd
    split at hd
    ·rename_i o u hf
     obtain⟨fd,hfd,ho,hty,hmem⟩:=uK hmap hf
     obtain⟨j,T',hj,h'⟩:=cB hT hd;replace hd:=h';clear h'
     obtain⟨new,hnew,h'⟩:=lE hd;replace hd:=h';clear h'
     split at hd
     ·rename_i hle
      obtain⟨nu,hnc,hnl,_⟩:=(R.eval p.2).leaves hnew
      obtain⟨inf2,hi2,hp2⟩:=AW fs.toList places hpl p.1 fd (by simp_all)
      obtain⟨inf3,hi3,hs3,_⟩:=T'.info
      rw[hty,hi3] at hi2;cases hi2
      have e1:=hnl.length
      have e2:=hcur.length
      have e3:cells.toList.length=cells.size:=by simp
      obtain⟨cells2,c1,c2,c3⟩:=DW (places.toArray[·]?) cells p.1 (a.eval p.2) (ps.map λp=>(p.1,a.eval p.2)) hnc (off:=o) (by
       rw[List.getElem?_toArray,hp2,ho,hs3];simp_all) (by omega)
      obtain⟨cells',d1,d2⟩:=ih (DA cur o new) cells2 t1 (by rw[c1];exact C9 hcur hnl) hd
      simp_all
     ·exact hd.elim
    ·exact hd.elim
  obtain⟨cells',d1,d2⟩:=key ps _ us.toArray t1 (by simpa using LRs.zeros (m:=m) (loc:=loc) (ok:=Ok n0 ab m loc w) (w:=w) i.kinds us hk) h1
  refine⟨.agg cells',run_build w tid _ cells' ?_,rfl,cells'.toList,by simp,d2⟩
  unfold Program.built
  simp_all
 ·exact h.elim
end ops
end Go.Abs
/- Operations that make rows of elements. -/
namespace Go.Abs
open Go
theorem Array.range_zero':Array.range 0=#[]:=by rfl
section ops
variable {P:Program} {E:Env} (hT:TOk P E.ti)
variable {n0:Nat} {ab rb:Nat->Prop} {w0:World} {N:Fix} {t:Nat->AVal} {m:Mem} {a:Act} {w:World} {loc:Nat->Loc} {ow:Nat->Option Nat}
theorem Rel.rowsAt(R:Rel n0 ab rb w0 N t m a w loc ow)(ks:List Kd):∀ (lss:List (List Leaf)) (xs:List (Row ks)) (wr:List (Nat×Ent)) (p:Bool) (tr:List Nat),Does m (Abs.rowsAt ks lss) (xs,wr,p) tr->
  ∀ uss:List (List Value),uss.length=lss.length->(∀ (i:Nat) (ls:List Leaf) (us:List Value),lss[i]? =some ls->uss[i]? =some us->LRs m loc (Ok n0 ab m loc w) w ls us)->
  ∃ bss:List (List Nat),bss.length=lss.length/\List.length xs=lss.length/\Made n0 (Ok n0 ab m loc w) m loc ow wr p (List.flatten bss)/\
   ∀ (i:Nat) (r:Row ks) (bb:List Nat),xs[i]? =some r->bss[i]? =some bb->∃ us,uss[i]? =some us/\RR w ks r us bb
 | [],xs,wr,p,tr,h,uss,hl,_=>by
  obtain⟨e,_⟩:=h;cases e
  exact⟨[],rfl,rfl,Made.nil,λi r bb hi=>by simp⟩
 | ls::lss,xs,wr,p,tr,h,uss,hl,hu=>by
  unfold Abs.rowsAt at h
  obtain⟨⟨x,w1,p1⟩,t1,t2,_,h1,h2⟩:=Does.bind _ _ h
  obtain⟨⟨r,w2,p2⟩,t3,t4,_,h3,h4⟩:=Does.bind _ _ h2
  obtain⟨e4,_⟩:=h4
  cases e4
  match uss,hl with
  | us::uss,hl=>
   obtain⟨b1,q1,m1⟩:=R.rowAt ks ls x w1 p1 t1 h1 us (hu 0 ls us rfl rfl)
   obtain⟨bss,l1,l2,m2,q2⟩:=Rel.rowsAt R ks lss r w2 p2 t3 h3 uss (by simp_all) λi a b ha hb=>hu (i+1) a b ha hb
   refine⟨b1::bss,by grind,by grind,by rw[List.flatten_cons];exact Made.append R m1 m2,λi r' bb hi hb=>?_⟩
   grind
theorem MC(m:Mem):(λj=>if(none:Option Nat)=some j then Ent.dead else m j)=m:=by simp
/-- A new row of elements in a new block. -/
theorem Rel.newArr (R:Rel n0 ab rb w0 N t m a w loc ow) {wr:List (Nat×Ent)} {p:Bool} {bss:List (List Nat)} (made:Made n0 (Ok n0 ab m loc w) m loc ow wr p (List.flatten bss)) {id:Nat} (hid:m id= .none)
  (hidw:j0 id wr=false) {w':World} (h1:w'.os=w.os) (h2:w'.tape=w.tape) (h3:w'.output=w.output) (hsz:w.heap.size<=w'.heap.size) (hlt:∀ b,b<w.heap.size->w'.heap[b]? =w.heap[b]?)
  {l:Loc} (hln:∀ b,b<w'.heap.size->¬ l.has b->b<w.heap.size) (hl:∀ b,l.has b->w.heap.size<=b/\b<w'.heap.size) {ks:List Kd} {xs:List (Row ks)} {deep:Bool} (hd:deep=true->p=true) (hown:OwnAt w' ks xs l bss):
  ∃ loc' ow',Rel n0 ab rb w0 N t (bQ m (wr++[(id,.arr ks xs deep true)])) a w' loc' ow'/\loc'=kO loc id l:=by
 have R1:=R.close wr made.took
 have hne:∀ q∈wr,q.1≠id:=by
  intro q hq e
  have:=(iX id wr).2 ⟨q,hq,e⟩
  rw[hidw] at this;simp_all
 have:=R1.renew none (id:=id) (by rw[cE _ _ _ hne];omega) (λj hj=>by grind) (w':=w') (λb hb=>SizeLe.same (hlt b hb))
  ⟨h1.trans R.keep.os,h2.trans R.keep.tape,h3.trans R.keep.output,Nat.le_trans R.keep.size hsz,λb hb hr=>by rw[hlt b (Nat.lt_of_lt_of_le hb R.keep.size)];exact R.keep.block b hb hr⟩
  hsz (λb hb _=>hlt b hb) (l:=l) (λb hb hn=>hlt b (hln b hb hn)) (λb hb=>⟨Nat.le_trans R.le (hl b hb).1,(hl b hb).2,.inl (hl b hb).1⟩) hown
  (λbb hbb b hb=>made.close R b (List.mem_flatten.2 ⟨bb,hbb,hb⟩)) (if p then List.flatten bss else[]) (λb hb=>by
   cases hp:p with
   | false=>rw[hp] at hb;grind
   | true=>
    rw[hp] at hb
    obtain⟨_,q,hq,e⟩:=(made.own hp).2 b hb
    refine⟨q.1,e,?_⟩
    rw[mN wr made.took q hq]
    obtain⟨_,_,_,_,_,h⟩:=made.took q hq
    rw[h];rfl) (deep:=deep) (λhdp=>by
   have hp:=hd hdp
   rw[hp]
   refine⟨(made.own hp).1,λbb hbb b hb=>?_⟩
   have hm:=List.mem_flatten.2 ⟨bb,hbb,hb⟩
   exact⟨((made.own hp).2 b hm).1,.inr hm⟩)
 obtain⟨loc',ow',hR,e⟩:=this
 refine⟨loc',ow',?_,e⟩
 rw[MC] at hR
 rw[dX]
 exact hR
theorem RR.zero{w:World}:∀ (ks:List Kd) (us:List Value),ks.mapM nK=some us->RR w ks (fH ks) us []
 | [],us,h=>by simp at h;subst h;exact⟨rfl,rfl⟩
 | k::ks,us,h=>by
  rw[List.mapM_cons] at h
  simp only[Option.bind_eq_bind,Option.bind_eq_some_iff,Option.pure_def,Option.some.injEq] at h
  obtain⟨u,hu,us',hus,rfl⟩:=h
  refine⟨u,us',[],[],rfl,rfl,?_,RR.zero ks us' hus⟩
  cases k<;>simp[nK] at hu<;>subst hu
  ·exact⟨rfl,rfl⟩
  ·exact⟨rfl,rfl⟩
  ·exact⟨rfl,rfl⟩
  ·exact⟨none,0,rfl,Nat.le_refl _,.inl ⟨rfl,rfl⟩⟩
include hT
theorem GR(R:Rel n0 ab rb w0 N t m a w loc ow){d tid:Nat}{x y:Operand}{e:Eff}{tr:List Nat}(h:Does m (BC E d tid (cA t x) (cA t y)) e tr):
  ∃ v w',(Instr.makeSlice tid (a.eval x) (a.eval y)).run P w= .ok v w'/\Post n0 ab rb w0 N t m a e v w':=by
 have hv:=R.eval x
 have hx:=R.eval y
 generalize cA t x=q at h hv
 generalize a.eval x=u at hv
 generalize cA t y=qx at h hx
 generalize a.eval y=ux at hx
 obtain⟨i,T,_,h'⟩:=cB hT h;replace h:=h';clear h'
 have hu:=T.und
 split at h
 ·rename_i htag
  rw[htag] at hu
  obtain⟨j,T',_,h'⟩:=cB hT h;replace h:=h';clear h'
  split at h
  case isFalse=>exact h.elim
  rename_i hp
  obtain⟨k,n,rfl,h'⟩:=kZ h;replace h:=h';clear h'
  obtain⟨k2,n2,rfl,h'⟩:=kZ h;replace h:=h';clear h'
  have:=VR.int hv;subst this
  have:=VR.int hx;subst this
  rcases h with ⟨hc,h⟩ | ⟨_,h⟩
  case inr=>exact h.elim
  simp only[Bool.and_eq_true,decide_eq_true_eq] at hc
  obtain⟨⟨c1,c2⟩,rfl⟩:=hc
  obtain⟨hm,tr',_,h'⟩:=gN h;replace h:=h';clear h'
  obtain⟨rfl,_⟩:=h
  obtain⟨us,hz,hk,hl,hcells,inf,hinf,hzz,hsz,hby⟩:=T'.zero hp
  have hfit:=T'.fit
  unfold bound at c2
  have hb:(inf.bytes:Int)*n2<=281474976710656:=by
   rw[hby]
   have h1:(j.bytes:Int)*n2<=4096*n2:=Int.mul_le_mul_of_nonneg_right (by omega) c1
   omega
  have hrun:=run_make w tid i.elem inf (dQ j.agg us) hu hinf hzz k k2 n2 n2 c1 (Int.le_refl _) hb (by omega)
  rw[hcells,hsz] at hrun
  have hkl:=T'.kinds_len (mO hp)
  have hcs:(madeCells us.toArray (n2.toNat*j.size)).size=n2.toNat*j.size:=by simp[madeCells]
  obtain⟨loc',ow',R',e'⟩:=R.newArr (wr:=[]) (p:=true) (bss:=List.replicate n2.toNat []) (by
    have:List.flatten (List.replicate n2.toNat ([]:List Nat))=[]:=by simp
    rw[this];exact Made.nil) hm rfl (w':=w.alloc (.cells (madeCells us.toArray (n2.toNat*j.size)) i.elem)) rfl rfl rfl (by simp) (λb hb=>fN hb)
   (l := .at_ w.heap.size 0 n2.toNat) (λb hb hn=>CE hb hn) (λb hb=>by simp only[Loc.has] at hb;simp_all) (ks:=j.kinds) (xs:=List.replicate n2.toNat (fH j.kinds)) (deep:=true) (λ_=>rfl) (by
    refine⟨madeCells us.toArray (n2.toNat*j.size),i.elem,(0,0),oC w _,.inl rfl,by rw[hcs,hkl];omega,by simp,by simp,λix r bb hi hb=>?_⟩
    rw[List.getElem?_replicate] at hi hb
    split at hi
    ·rename_i hlt
     cases hi
     rw[if_pos hlt] at hb;cases hb
     refine⟨us,RR.zero j.kinds us hk,λc u hcu=>?_⟩
     have hcl:c<us.length:=(List.getElem?_eq_some_iff.1 hcu).1
     have hpos:0<us.length:=by omega
     have hlt2:ix*us.length+c<n2.toNat*us.length:=by
      have:=Nat.mul_le_mul_right us.length (show ix+1<=n2.toNat from hlt)
      rw[Nat.succ_mul] at this;omega
     have hmod:(ix*us.length+c) % us.length=c:=by rw[Nat.mul_add_mod_self_right];exact Nat.mod_eq_of_lt hcl
     rw[hkl,<- hl,Nat.zero_add]
     unfold madeCells
     rw[Array.getElem?_map,Array.getElem?_range,if_pos hlt2]
     simp_all
    simp_all)
  refine⟨_,_,hrun,loc',ow',R',?_⟩
  show VR (cD m (d*32) _) _ _ _ _ _
  simp only[VR,VR1,LR,aX]
  rw[e',bL]
  simp[Loc.val]
 ·exact h.elim

omit hT in
theorem yT:∀ (ps:List (Nat×AVal)) (n:Nat) (lss:List (List Leaf)),v8 n ps=some lss->lss.length=ps.length/\∀ (i:Nat) (p:Nat×AVal),ps[i]? =some p->p.1=n+i/\∃ ls,lss[i]? =some ls/\p.2.leaves=some ls
 | [],n,lss,h=>by simp[v8] at h;simp_all
 | (k,x)::ps,n,lss,h=>by
  unfold v8 at h
  cases hb:Nat.beq k n with
  | false=>rw[hb] at h;grind
  | true=>
   rw[hb] at h
   simp only[cond_true,Option.bind_eq_some_iff] at h
   obtain⟨ls,hl,lss',hr,h⟩:=h
   cases h
   obtain⟨h1,h2⟩:=yT ps (n+1) lss' hr
   refine⟨by grind,λi p hi=>?_⟩
   cases i with
   | zero=>simp at hi;subst hi;simp_all
   | succ i=>
    grind
omit hT in
/-- A literal's cells are its parts' cells, one behind another. -/
theorem DV(s:Nat):∀ (vs:List (Nat×Value)) (n:Nat) (cells:Array Value) (uss:List (List Value)),uss.length=vs.length->(∀ (i:Nat) (p:Nat×Value),vs[i]? =some p->p.1=n+i/\∃ us,uss[i]? =some us/\p.2.cells=us.toArray/\us.length=s)->
  cells.size=(n+vs.length)*s->∃ cells',Instr.fill (λi=>some (i*s,s)) cells vs=some cells'/\cells'.size=cells.size/\∀ k,cells'[k]? =if k<n*s then cells[k]? else(List.flatten uss)[k - n*s]?
 | [],n,cells,uss,hl,_,hs=>by
  have:uss=[]:=List.eq_nil_of_length_eq_zero hl
  subst this
  refine⟨cells,rfl,rfl,λk=>?_⟩
  simp_all
 | (i0,v)::vs,n,cells,uss,hl,h,hs=>by
  match uss,hl with
  | us::uss,hl=>
   obtain⟨e1,us',e2,hv,hus⟩:=h 0 (i0,v) rfl
   simp at e1 e2;subst e1;subst e2
   have hsz:(i0+1)*s<=cells.size:=by rw[hs];exact Nat.mul_le_mul_right _ (by simp)
   rw[Nat.succ_mul] at hsz
   obtain⟨c2,d1,d2,d3⟩:=DW (λi=>some (i*s,s)) cells i0 v vs hv (off:=i0*s) (by rw[hus]) (by omega)
   obtain⟨c3,f1,f2,f3⟩:=DV s vs (i0+1) c2 uss (by simp_all) (λi p hi=>by
    obtain⟨g1,g2⟩:=h (i+1) p (by simp_all)
    grind) (by rw[d2,hs];grind)
   refine⟨c3,by rw[d3,f1],by rw[f2,d2],λk=>?_⟩
   rw[f3]
   have hcl:cells.toList.length=cells.size:=by simp
   have hget:c2[k]? =(eN cells.toList (i0*s) us)[k]? :=by rw[<- d1];simp
   rw[List.flatten_cons,Nat.succ_mul]
   by_cases c1:k<i0*s
   ·rw[if_pos (by omega),if_pos c1,hget,fF _ _ _ (by omega),if_neg (by omega)];simp
   ·rw[if_neg c1]
    by_cases c4:k<i0*s+s
    ·rw[if_pos c4,hget,fF _ _ _ (by omega),if_pos (by omega),List.getElem?_append_left (by omega)]
    grind
theorem E0(R:Rel n0 ab rb w0 N t m a w loc ow){d tid len:Nat}{ps:List (Nat×Operand)}{e:Eff}{tr:List Nat}(h:Does m (y4 E d tid len (ps.map λp=>(p.1,cA t p.2))) e tr):
  ∃ v w',(Instr.buildSlice tid len (ps.map λp=>(p.1,a.eval p.2)).toArray).run P w= .ok v w'/\Post n0 ab rb w0 N t m a e v w':=by
 obtain⟨i,T,_,h'⟩:=cB hT h;replace h:=h';clear h'
 have hu:=T.und
 split at h
 case h_2=>exact h.elim
 rename_i htag
 rw[htag] at hu
 dsimp only at hu
 obtain⟨j,T',_,h'⟩:=cB hT h;replace h:=h';clear h'
 split at h
 case isFalse=>exact h.elim
 rename_i hp
 split at h
 case h_2=>exact h.elim
 rename_i lss hlss
 split at h
 case isFalse=>exact h.elim
 rename_i hlen
 obtain⟨hm,tr',_,h'⟩:=gN h;replace h:=h';clear h'
 obtain⟨⟨xs,wr,p⟩,t1,t2,_,h1,h2⟩:=Does.bind _ _ h
 dsimp only at h2
 split at h2
 ·exact h2.elim
 rename_i hidw
 obtain⟨rfl,_⟩:=h2
 obtain⟨hl1,hget⟩:=yT _ _ _ hlss
 simp only[List.length_map] at hl1 hlen
 have hkl:=T'.kinds_len (mO hp)
 -- the parts' cells
 have hparts:∀ (i:Nat) (q:Nat×Operand),ps[i]? =some q->q.1=i/\∃ ls us,lss[i]? =some ls/\(a.eval q.2).cells=us.toArray/\LRs m loc (Ok n0 ab m loc w) w ls us:=by
  intro i q hq
  obtain⟨g1,ls,g2,g3⟩:=hget i (q.1,cA t q.2) (by rw[List.getElem?_map,hq];rfl)
  obtain⟨us,g4,g5,_⟩:=(R.eval q.2).leaves g3
  simp_all
 let uss:List (List Value):=ps.map λq=>(a.eval q.2).cells.toList
 have huss:∀ (i:Nat) (q:Nat×Operand),ps[i]? =some q->uss[i]? =some (a.eval q.2).cells.toList:=λi q hq=>by grind
 have hLRs:∀ (i:Nat) (ls:List Leaf) (us:List Value),lss[i]? =some ls->uss[i]? =some us->LRs m loc (Ok n0 ab m loc w) w ls us:=by
  grind
 obtain⟨bss,b1,b2,made,b3⟩:=R.rowsAt j.kinds lss xs wr p t1 h1 uss (by grind) hLRs
 have hidw':j0 (d*32) wr=false:=by grind
 have hrows:∀ us∈uss,List.length us=j.size:=by
  intro us hus
  obtain⟨i,hi,e⟩:=List.mem_iff_getElem.1 hus
  have hi1:i<lss.length:=by rw[hl1];grind
  have hxi:i<List.length xs:=by omega
  have hbi:i<bss.length:=by omega
  obtain⟨us',g1,g2⟩:=b3 i _ _ (List.getElem?_eq_getElem hxi) (List.getElem?_eq_getElem hbi)
  rw[List.getElem?_eq_getElem hi,e] at g1
  cases g1
  rw[RR.length _ _ _ _ g2,hkl]
 obtain⟨zs,hz,hk,hl,hcells,inf,hinf,hzz,hsz,hby⟩:=T'.zero hp
 have hfl:∀ (i k:Nat) (us:List Value) (u:Value),uss[i]? =some us->us[k]? =some u->(List.flatten uss)[i*j.size+k]? =some u:=by
  clear huss hLRs b3
  generalize uss=L at hrows
  intro i
  induction i generalizing L with
  | zero=>
   intro k us u h1 h2
   cases L with
   | nil=>simp_all
   | cons x L=>grind
  | succ i ih=>
   intro k us u h1 h2
   cases L with
   | nil=>simp_all
   | cons x L=>
    grind
 obtain⟨hlen,hsmall,hpos,hwide⟩:=hlen
 have hcellsrun:∃ cells,(Instr.buildSlice tid len (ps.map λp=>(p.1,a.eval p.2)).toArray).run P w= .ok (.slice (some ⟨w.heap.size,0,none⟩) len len) (w.alloc (.cells cells i.elem))/\
   cells.size=len*j.size/\∀ k,k<len*j.size->cells[k]? =(List.flatten uss)[k]? :=by
  by_cases hz0:len=0
  ·subst hz0
   have:ps=[]:=List.eq_nil_of_length_eq_zero hlen
   subst this
   exact⟨#[],by simp[Instr.buildSlice,run_underlying hu,sizeOf,typeInfo,hinf,newRow,Instr.fill,Array.range_zero'],by simp,λk hk2=>by omega⟩
  ·have hprod:0<len*j.size:=Nat.mul_pos (by omega) hpos
   have hle:len*j.size<=1024*1024:=Nat.mul_le_mul hsmall hwide
   obtain⟨cells',f1,f2,f3⟩:=DV j.size (ps.map λp=>(p.1,a.eval p.2)) 0 ((Array.range (len*j.size)).map ((dQ j.agg zs).cells[· % (dQ j.agg zs).cells.size]!)) uss (by grind) (λi p hi=>by
    rw[List.getElem?_map] at hi
    grind) (by grind)
   refine⟨cells',?_,by rw[f2];simp,λk _=>by rw[f3];simp⟩
   refine run_buildSlice w tid i.elem len _ cells' inf (dQ j.agg zs) hu hinf hzz (by rw[hsz];omega) (by rw[hsz];omega) ?_
   rw[hsz]
   omega
 obtain⟨cells,hrun,hcs,hcg⟩:=hcellsrun
 have hxl:List.length xs=len:=by omega
 obtain⟨loc',ow',R',e'⟩:=R.newArr (bss:=bss) made hm hidw' (w':=w.alloc (.cells cells i.elem)) rfl rfl rfl (by simp) (λb hb=>fN hb)
  (l := .at_ w.heap.size 0 len) (λb hb hn=>CE hb hn) (λb hb=>by simp only[Loc.has] at hb;subst hb;simp) (ks:=j.kinds) (xs:=xs) (deep:=p) (λh=>h) (by
   refine⟨cells,i.elem,(0,0),oC w _,.inl rfl,by rw[hcs,hkl];omega,by omega,by omega,λix r bb hi hb=>?_⟩
   obtain⟨us,g1,g2⟩:=b3 ix r bb hi hb
   refine⟨us,RR.mono _ _ _ _ (λb hb2=>fN ?_) g2,λk u hk2=>?_⟩
   ·have:=made.close R b (List.mem_flatten.2 ⟨bb,List.mem_of_getElem? hb,hb2⟩)
    exact this.1
   ·have hlu:=hrows us (List.mem_of_getElem? g1)
    have hk3:=(List.getElem?_eq_some_iff.1 hk2).1
    have hix:ix<len:=by rw[<- hxl];grind
    have hlt:ix*j.size+k<len*j.size:=by
     have:=Nat.mul_le_mul_right j.size (show ix+1<=len from hix)
     rw[Nat.succ_mul] at this;omega
    rw[hkl,Nat.zero_add,hcg _ hlt]
    grind)
 refine⟨_,_,hrun,loc',ow',R',?_⟩
 show VR (bQ m (wr++[(d*32,_)])) _ _ _ _ _
 simp only[VR,VR1,LR,dX,bQ,if_true]
 rw[e',bL]
 simp[Loc.val,hxl]
end ops
end Go.Abs
/- Cuts, conversions, appends. -/
namespace Go.Abs
open Go
theorem BX{s:Nat}:∀ (L:List (List Value)),(∀ us∈L,us.length=s)->∀ (i k:Nat) (us:List Value) (u:Value),L[i]? =some us->us[k]? =some u->(List.flatten L)[i*s+k]? =some u
 | [],_,i,k,us,u,h,_=>by grind
 | x::L,hs,0,k,us,u,h1,h2=>by
  grind
 | x::L,hs,i+1,k,us,u,h1,h2=>by
  have hx:=hs x (List.mem_cons_self ..)
  rw[List.flatten_cons,Nat.succ_mul,List.getElem?_append_right (by omega)]
  have:=BX L (λus hus=>hs us (List.mem_cons_of_mem _ hus)) i k us u (by simp_all) h2
  rw[<- this];grind
theorem BW{s:Nat}:∀ (L:List (List Value)),(∀ us∈L,us.length=s)->∀ (k:Nat) (u:Value),(List.flatten L)[k]? =some u->∃ i us,L[i]? =some us/\i*s<=k/\us[k - i*s]? =some u
 | [],_,k,u,h=>by grind
 | x::L,hs,k,u,h=>by
  have hx:=hs x (List.mem_cons_self ..)
  rw[List.flatten_cons] at h
  by_cases c:k<x.length
  ·rw[List.getElem?_append_left c] at h
   exact⟨0,x,rfl,by omega,by simp_all⟩
  ·rw[List.getElem?_append_right (by omega)] at h
   obtain⟨i,us,h1,h2,h3⟩:=BW L (λus hus=>hs us (List.mem_cons_of_mem _ hus)) _ u h
   refine⟨i+1,us,by simp_all,by rw[Nat.succ_mul];omega,?_⟩
   rw[<- h3,Nat.succ_mul];grind
theorem m9{s:Nat}:∀ (L:List (List Value)),(∀ us∈L,us.length=s)->(List.flatten L).length=L.length*s
 | [],_=>by simp
 | x::L,hs=>by rw[List.flatten_cons,List.length_append,m9 L λus hus=>hs us (List.mem_cons_of_mem _ hus),hs x (List.mem_cons_self ..),List.length_cons,Nat.succ_mul];omega
theorem TR.cells{w:World}{ks:List Kd}{ys:List (Row ks)}{v:Value}{bs:List Nat}(h:TR w (.sl ks) ys v bs):
  ∃ A cap,v= .slice A ys.length cap/\ys.length<=cap/\((ys=[]/\bs=[])\/∃ b off bss uss,A=some ⟨b,off,none⟩/\bss.length=ys.length/\uss.length=ys.length/\bs=b::List.flatten bss/\
   (∀ (i:Nat) (r:Row ks) (bb:List Nat) (us:List Value),ys[i]? =some r->bss[i]? =some bb->uss[i]? =some us->RR w ks r us bb)/\(∀ us∈uss,List.length us=ks.length)/\
   ∀ k u,(List.flatten uss)[k]? =some u->w.cell? ⟨b,off+k,none⟩=some u):=by
 obtain⟨A,cap,e,hc,h⟩:=h
 refine⟨A,cap,e,hc,h.imp id ?_⟩
 rintro ⟨b,off,bss,e1,hl,e2,hk⟩
 have hex:∀ i:Nat,∃ us:List Value,∀ (hi:i<List.length ys),RR w ks ys[i] us (bss[i]'(by rw[hl];omega))/\us.length=ks.length/\∀ j u,us[j]? =some u->w.cell? ⟨b,off+i*ks.length+j,none⟩=some u:=by
  intro i
  by_cases hi:i<List.length ys
  ·obtain⟨us,h1,h2,h3⟩:=hk i _ _ (List.getElem?_eq_getElem hi) (List.getElem?_eq_getElem (by rw[hl];omega))
   grind
  ·exact⟨[],λh=>absurd h hi⟩
 let f:=λi=>Classical.choose (hex i)
 have hf:=λi=>Classical.choose_spec (hex i)
 have hlen:∀ us∈(List.range (List.length ys)).map f,List.length us=ks.length:=by
  grind
 refine⟨b,off,bss,(List.range (List.length ys)).map f,e1,hl,by simp,e2,λi r bb us hi hb hu=>?_,hlen,λk u hk2=>?_⟩
 ·grind
 ·obtain⟨i,us,h1,h2,h3⟩:=BW _ hlen k u hk2
  have hlt:i<List.length ys:=by grind
  rw[List.getElem?_map,List.getElem?_range hlt] at h1
  simp at h1;subst h1
  have:=(hf i hlt).2.2 _ u h3
  rw[<- this];congr 2;omega
/-- A part of a slice. -/
theorem TR.sub{w:World}{ks:List Kd}{ys:List (Row ks)}{A:Option Addr}{cap:Nat}{bs:List Nat}(h:TR w (.sl ks) ys (.slice A ys.length cap) bs){l hi:Nat}(h1:l<=hi)(h2:hi<=ys.length):
  ∃ bs',TR w (.sl ks) ((ys.take hi).drop l) (.slice (if cap=l then A else A.map (·.add (l*ks.length))) (hi - l) (cap - l)) bs'/\∀ b∈bs',b∈bs:=by
 obtain⟨A',cap',e,hc,h⟩:=h
 cases e
 have hlen:List.length ((ys.take hi).drop l)=hi - l:=by simp_all
 by_cases hlt:l<hi
 ·rcases h with ⟨hnil,_⟩ | ⟨b,off,bss,rfl,hl,rfl,hk⟩
  ·rw[hnil] at h2;simp_all
  ·have hne:¬ cap=l:=by omega
   refine⟨b::List.flatten ((bss.take hi).drop l),⟨_,cap - l,by rw[hlen],by rw[hlen];omega,.inr ⟨b,off+l*ks.length,(bss.take hi).drop l,by simp[hne,Addr.add_lit],by grind,rfl,λi r bb hr hb=>?_⟩⟩,λx hx=>?_⟩
   ·rw[List.getElem?_drop,List.getElem?_take] at hr hb
    grind
   ·rcases List.mem_cons.1 hx with rfl | hx
    ·simp
    ·obtain⟨bb,hbb,hx⟩:=List.mem_flatten.1 hx
     exact List.mem_cons_of_mem _ (List.mem_flatten.2 ⟨bb,List.mem_of_mem_take (List.mem_of_mem_drop hbb),hx⟩)
 ·refine⟨[],⟨_,cap - l,by rw[hlen],by rw[hlen];omega,.inl ⟨List.eq_nil_of_length_eq_zero (by rw[hlen];omega),rfl⟩⟩,λb hb=>by grind⟩
section ops
variable {P:Program} {E:Env} (hT:TOk P E.ti)
variable {n0:Nat} {ab rb:Nat->Prop} {w0:World} {N:Fix} {t:Nat->AVal} {m:Mem} {a:Act} {w:World} {loc:Nat->Loc} {ow:Nat->Option Nat}
theorem nT(R:Rel n0 ab rb w0 N t m a w loc ow){α:Type}{n:Nat}{lo hi:Option Operand}{k:Nat->Nat->Q α}{e:α}{tr:List Nat}(h:Does m (tP n (lo.map (cA t)) (hi.map (cA t)) k) e tr):
  ∃ l h tr',l<=h/\h<=n/\Does m (k l h) e tr'/\(∃ t0,tr=t0++tr')/\∀ (s:Bool) (cap:Nat),n<=cap->(Instr.sliceBounds s n cap (lo.map a.eval) (hi.map a.eval) none).run P w= .ok (l,h,cap) w:=by
 have low:∀ (hh:Nat) (tr0:List Nat),hh<=n->Does m (match lo.map (cA t)with | none=>k 0 hh | some x=>wI x λ_ l=> .ite (decide (0<=l)&&decide (l<=(hh:Int))) (k l.toNat hh) .fail) e tr0->
   ∃ l,l<=hh/\Does m (k l hh) e tr0/\((lo=none/\l=0)\/∃ x kk,lo=some x/\a.eval x= .int kk (l:Int)):=by
  intro hh tr0 hhn hd
  cases lo with
  | none=>simp_all
  | some x=>
   simp only[Option.map_some] at hd
   have hv:=R.eval x
   generalize cA t x=q at hd hv
   obtain⟨kk,l,rfl,h'⟩:=kZ hd
   have:=VR.int hv
   rcases h' with ⟨hc,h'⟩ | ⟨_,h'⟩
   ·grind
   ·exact h'.elim
 have fin:∀ (l hh:Nat),l<=hh->hh<=n->((lo=none/\l=0)\/∃ x kk,lo=some x/\a.eval x= .int kk (l:Int))->((hi=none/\hh=n)\/∃ x kk,hi=some x/\a.eval x= .int kk (hh:Int))->
   ∀ (s:Bool) (cap:Nat),n<=cap->(Instr.sliceBounds s n cap (lo.map a.eval) (hi.map a.eval) none).run P w= .ok (l,hh,cap) w:=by
  intro l hh h1 h2 h3 h4 s cap hc
  rcases h3 with ⟨rfl,rfl⟩ | ⟨x,kk,rfl,e1⟩<;>rcases h4 with ⟨rfl,rfl⟩ | ⟨y,k2,rfl,e2⟩
  ·rfl
  ·simp[Instr.sliceBounds,Instr.sliceBound,e2,asIntOf];omega
  ·simp[Instr.sliceBounds,Instr.sliceBound,e1,asIntOf];omega
  ·have c1:(hh:Int)<=cap:=by omega
   have c2:(l:Int)<=hh:=by omega
   simp[Instr.sliceBounds,Instr.sliceBound,e1,e2,asIntOf,c1,c2]
   rw[if_pos (by omega)];simp_all
 unfold tP at h
 cases hi with
 | none=>
  obtain⟨l,g1,g2,g3⟩:=low n tr (Nat.le_refl _) h
  exact⟨l,n,tr,g1,Nat.le_refl _,g2,⟨[],rfl⟩,fin l n g1 (Nat.le_refl _) g3 (.inl ⟨rfl,rfl⟩)⟩
 | some y=>
  simp only[Option.map_some] at h
  have hv:=R.eval y
  generalize cA t y=q at h hv
  obtain⟨kk,hh,rfl,h'⟩:=kZ h
  have:=VR.int hv
  rcases h' with ⟨hc,h'⟩ | ⟨_,h'⟩
  ·simp only[Bool.and_eq_true,decide_eq_true_eq] at hc
   obtain⟨l,g1,g2,g3⟩:=low hh.toNat tr (by omega) h'
   exact⟨l,hh.toNat,tr,g1,by omega,g2,⟨[],rfl⟩,fin l hh.toNat g1 (by omega) g3 (.inr ⟨y,kk,rfl,by rw[this];grind⟩)⟩
  ·exact h'.elim
end ops
end Go.Abs
/- Cuts of slices and strings; conversions. -/
namespace Go.Abs
open Go
section ops
variable {P:Program} {E:Env} (hT:TOk P E.ti)
variable {n0:Nat} {ab rb:Nat->Prop} {w0:World} {N:Fix} {t:Nat->AVal} {m:Mem} {a:Act} {w:World} {loc:Nat->Loc} {ow:Nat->Option Nat}
theorem uY(m:Mem)(i:Nat):(λj=>if some i=some j then Ent.dead else m j)=cD m i .dead:=by
 funext j
 unfold cD
 grind
theorem CO{tid:Nat}(hu:P.underlying tid=some .string)(s:ByteArray){lo hi:Option Value}{l hh:Nat}(hb:(Instr.sliceBounds false s.size s.size lo hi none).run P w= .ok (l,hh,s.size) w):
  (Instr.sliceAt tid (.string s) lo hi none).run P w= .ok (.string (s.extract l hh)) w:=by
 simp[Instr.sliceAt,Instr.slice,run_underlying hu,hb]
include hT
theorem S3(R:Rel n0 ab rb w0 N t m a w loc ow){d tid:Nat}{x:Operand}{lo hi:Option Operand}{e:Eff}{tr:List Nat}(h:Does m (PC E d tid (cA t x) (lo.map (cA t)) (hi.map (cA t))) e tr):
  ∃ v,(Instr.sliceAt tid (a.eval x) (lo.map a.eval) (hi.map a.eval) none).run P w= .ok v w/\Post n0 ab rb w0 N t m a e v w:=by
 have hv:=R.eval x
 generalize cA t x=q at h hv
 generalize a.eval x=u at hv
 obtain⟨i,T,_,h'⟩:=cB hT h;replace h:=h';clear h'
 have hu:=T.und
 have hsl:∀ (A:Option Addr) (n cap l hh:Nat) (j:TyI),P.underlying tid=some (.slice i.elem)->TyOk P i.elem j->(∀ (s:Bool) (cap:Nat),n<=cap->(Instr.sliceBounds s n cap (lo.map a.eval) (hi.map a.eval) none).run P w= .ok (l,hh,cap) w)->n<=cap->
   (Instr.sliceAt tid (.slice A n cap) (lo.map a.eval) (hi.map a.eval) none).run P w= .ok (.slice (if cap=l then A else A.map (·.add (l*j.size))) (hh - l) (cap - l)) w:=by
  intro A n cap l hh j hus T' hb hc
  simp[Instr.sliceAt,Instr.slice,run_underlying hus,hb true cap hc,T'.size]
 split at h
 ·rename_i s htag
  rw[htag] at hu
  have:=VR.str hv;subst this
  obtain⟨l,hh,tr',h1,h2,h3,_,hb⟩:=nT R h
  obtain⟨rfl,_⟩:=h3
  exact⟨.string (ByteArray.extract s l hh),CO hu s (hb false (ByteArray.size s) (Nat.le_refl _)),Post.same R rfl (VR.mkStr _)⟩
 ·rename_i ks xs htag
  rw[htag] at hu
  dsimp only at hu
  obtain⟨j,T',_,h'⟩:=cB hT h;replace h:=h';clear h'
  split at h
  case isFalse=>exact h.elim
  rename_i hks
  obtain⟨l,hh,tr',h1,h2,h3,_,hb⟩:=nT R h
  obtain⟨rfl,_⟩:=h3
  obtain⟨bs,hTR,hok⟩:=hv
  obtain⟨A,cap,rfl,hc,_⟩:=hTR.cells
  obtain⟨bs',hT2,hsub⟩:=hTR.sub h1 h2
  refine⟨_,hsl A _ cap l hh j hu T' hb hc,Post.same R rfl ⟨bs',?_,λb hb=>hok b (hsub b hb)⟩⟩
  rw[<- hks];omega
 ·rename_i htag
  rw[htag] at hu
  dsimp only at hu
  obtain⟨j,T',_,h'⟩:=cB hT h;replace h:=h';clear h'
  obtain⟨l,hh,tr',h1,h2,h3,_,hb⟩:=nT R h
  obtain⟨rfl,_⟩:=h3
  have:u= .slice none 0 0:=hv
  subst this
  refine⟨_,hsl none 0 0 l hh j hu T' hb (Nat.le_refl _),Post.same R rfl ?_⟩
  simp_all
 ·rename_i id htag
  rw[htag] at hu
  dsimp only at hu
  obtain⟨j,T',_,h'⟩:=cB hT h;replace h:=h';clear h'
  obtain⟨tr',_,h'⟩:=h;replace h:=h';clear h'
  have hE:=R.ents id
  simp only[VR,VR1,LR] at hv
  unfold EntR at hE
  cases hm:m id with
  | arr ks xs deep opn=>
   rw[hm] at hE h hv
   dsimp only at hv h
   split at h
   case isFalse=>exact h.elim
   rename_i hks
   obtain⟨l,hh,tr',h1,h2,h3,_,hb⟩:=nT R h
   obtain⟨bss,hown,hok,hblk,hdeep⟩:=hE
   split at h3
   ·rename_i hcut
    simp only[Bool.and_eq_true] at hcut
    obtain⟨rfl,_⟩:=hcut
    obtain⟨hnone,tr2,_,h'⟩:=gN h3
    obtain⟨rfl,_⟩:=h'
    subst hv
    -- the part lies in the same block
    have hnew:∃ l',OwnAt w ks ((xs.take hh).drop l) l' ((bss.take hh).drop l)/\(∀ b,l'.has b->(loc id).has b)/\
      (Instr.sliceAt tid ((loc id).val xs.length) (lo.map a.eval) (hi.map a.eval) none).run P w= .ok (l'.val (List.length ((xs.take hh).drop l))) w:=by
     have hlen:List.length ((xs.take hh).drop l)=hh - l:=by simp_all
     cases hl:loc id with
     | pin _ _ _=>rw[hl] at hown;exact hown.elim
     | nil=>
      rw[hl] at hown
      obtain⟨rfl,rfl⟩:=hown
      simp at h2
      have e1:l=0:=by omega
      subst h2;subst e1
      refine⟨.nil,⟨by simp,by simp⟩,(λb hb=>by omega),?_⟩
      have:=hsl none 0 0 0 0 j hu T' hb (Nat.le_refl _)
      simpa [Loc.val] using this
     | at_ b off cap=>
      rw[hl] at hown
      obtain⟨cs,T2,fz,g1,g2,g3,g4,g5,g6⟩:=hown
      refine⟨.at_ b (if cap=l then off else off+l*ks.length) (cap - l),⟨cs,T2,fz,g1,g2,?_,by rw[hlen];omega,by grind,λix r bb hr hbb=>?_⟩,λb hb=>hb,?_⟩
      ·split
       ·grind
       ·have:(l+(cap - l))*ks.length<=cap*ks.length:=Nat.mul_le_mul_right _ (by omega)
        rw[Nat.add_mul] at this;omega
      ·rw[List.getElem?_drop,List.getElem?_take] at hr hbb
       split at hr
       ·rename_i hlt
        rw[if_pos hlt] at hbb
        obtain⟨us,k1,k2⟩:=g6 (l+ix) r bb hr hbb
        refine⟨us,k1,λc u hc=>?_⟩
        rw[if_neg (by omega),<- k2 c u hc,Nat.add_mul];grind
       simp_all
      ·have:=hsl (some ⟨b,off,none⟩) xs.length cap l hh j hu T' hb g4
       rw[Loc.val,this,Loc.val,hlen,hks]
       by_cases e1:cap=l
       ·grind
       ·simp[e1,Addr.add_lit]
    obtain⟨l',hown',hlb,hrun⟩:=hnew
    obtain⟨loc',ow',R',e'⟩:=R.renew (some id) (id:=d*32) hnone (λi hi=>by cases hi;exact⟨by rw[hm];rfl,ks,xs,deep,true,hm⟩) (w':=w) (λb _=>SizeLe.same rfl) R.keep (Nat.le_refl _) (λb _ _=>rfl)
     (l:=l') (λ_ _ _=>rfl) (λb hb=>by
      simp_all) hown' (λbb hbb b hb=>hok bb (List.mem_of_mem_take (List.mem_of_mem_drop hbb)) b hb) [] (λb hb=>by grind) (deep:=deep) (λhdp=>by
      grind)
    rw[uY] at R'
    refine⟨_,hrun,loc',ow',R',?_⟩
    show VR (cD (cD m id .dead) (d*32) _) _ _ _ _ _
    simp only[VR,VR1,LR,aX]
    rw[e',bL]
   ·split at h3
    ·obtain⟨rfl,_⟩:=h3
     obtain⟨bs,hTR,hbs⟩:=n9 hown
     subst hv
     obtain⟨A,cap,e1,hc,_⟩:=hTR.cells
     have hr:=hsl A _ cap l hh j hu T' hb hc
     rw[<- e1] at hr
     refine⟨_,hr,Post.same R rfl ?_⟩
     simp only[VR,VR1,LR]
     rw[hm]
     refine⟨h1,h2,?_⟩
     rw[e1,hks];rfl
    obtain⟨rfl,_⟩:=h3
    have R':=R.close1 hm
    obtain⟨bs,hTR,hbs⟩:=n9 hown
    subst hv
    obtain⟨A,cap,e1,hc,_⟩:=hTR.cells
    rw[e1] at hTR ⊢
    obtain⟨bs',hT2,hsub⟩:=hTR.sub h1 h2
    refine⟨_,hsl A _ cap l hh j hu T' hb hc,loc,ow,R',bs',by rw[<- hks];omega,λb hbx=>?_⟩
    have hbx:=hsub b hbx
    have hE':=R'.ents id
    unfold EntR at hE'
    rw[aX] at hE'
    obtain⟨bss2,_,_,hblk2,_⟩:=hE'
    rcases hbs with ⟨rfl,_⟩ | ⟨b0,o,c,hl,rfl⟩
    ·grind
    ·rcases List.mem_cons.1 hbx with rfl | hbx
     ·exact(hblk2 b (by rw[hl];rfl)).2.2.2 rfl
     ·obtain⟨bb,hbb,hbx⟩:=List.mem_flatten.1 hbx
      have:=Ok.close (wr:=[(id,.arr ks xs deep false)]) (m:=m) (loc:=loc) (w:=w) (n0:=n0) (ab:=ab) (λq hq=>by simp_all) (hok bb hbb b hbx)
      omega
  | _=>rw[hm] at h;exact h.elim
 ·exact h.elim
end ops
end Go.Abs
/- Conversions and appends. -/
namespace Go.Abs
open Go
theorem lT{ks ks':List Kd}{xs:List (Row ks)}{ys:List (Row ks')}(h:tX ks ks' xs=some ys):∃ e:ks=ks',ys=e▸xs:=by
 unfold tX at h
 grind
theorem tY(s:ByteArray)(i:Nat):(fE s)[i]? =(s.data.toList[i]?).map λb=>((b.toNat:Int),()):=by
 exact List.getElem?_map ..
theorem jM(s:ByteArray):List.length (fE s)=s.size:=by
 exact(List.length_map ..).trans ((Array.length_toList ..).trans rfl)
section ops
variable {P:Program} {E:Env} (hT:TOk P E.ti)
variable {n0:Nat} {ab rb:Nat->Prop} {w0:World} {N:Fix} {t:Nat->AVal} {m:Mem} {a:Act} {w:World} {loc:Nat->Loc} {ow:Nat->Option Nat}
/-- The elements of a slice, as a value tells them. -/
theorem J5(R:Rel n0 ab rb w0 N t m a w loc ow){α:Type}{ks:List Kd}{q:AVal}{u:Value}{k:List (Row ks)->Q α}{e:α}{tr:List Nat}(hv:VR m loc (Ok n0 ab m loc w) w q u)(h:Does m (elems ks q k) e tr):
  ∃ xs tr' bs,Does m (k xs) e tr'/\TR w (.sl ks) xs u bs:=by
 unfold elems at h
 split at h
 ·have:u= .slice none 0 0:=hv
  subst this
  exact⟨[],tr,[],h,none,0,rfl,Nat.le_refl _,.inl ⟨rfl,rfl⟩⟩
 ·rename_i ks' xs
  obtain⟨ys,hc,h⟩:=h
  obtain⟨e,rfl⟩:=lT hc
  subst e
  obtain⟨bs,hTR,_⟩:=hv
  grind
 ·rename_i id
  obtain⟨tr',_,h'⟩:=h;replace h:=h';clear h'
  have hE:=R.ents id
  simp only[VR,VR1,LR] at hv
  unfold EntR at hE
  cases hm:m id with
  | arr ks' xs d o'=>
   rw[hm] at hE h hv
   dsimp only at hv h
   obtain⟨ys,hc,h'⟩:=h;replace h:=h';clear h'
   obtain⟨e,rfl⟩:=lT hc
   subst e
   obtain⟨bss,hown,_⟩:=hE
   obtain⟨bs,hTR,_⟩:=n9 hown
   grind
  | _=>rw[hm] at h;exact h.elim
 ·exact h.elim
theorem B7:∀ (l:List Int) (s:ByteArray),(l.foldl (λr n=>r.push (UInt8.ofNat n.toNat)) s)=⟨s.data++(l.map λr=>UInt8.ofNat (Int.toNat r)).toArray⟩
 | [],s=>by simp
 | r::l,s=>by
  rw[List.foldl_cons,B7 l]
  simp
def EV(r:Row [.int .u8]):Int:=r.1
theorem KJ(xs:List (Row [.int .u8])):cQ xs=⟨((xs.map EV).map λr=>UInt8.ofNat (Int.toNat r)).toArray⟩:=by
 unfold cQ
 rw[List.map_map]
 rfl
theorem H0 {xs:List (Row [.int .u8])} {uss:List (List Value)} {bss:List (List Nat)} (hl:bss.length=List.length xs) (hul:uss.length=List.length xs)
  (hrr:∀ (i:Nat) (r:Row [.int .u8]) (bb:List Nat) (us:List Value),xs[i]? =some r->bss[i]? =some bb->uss[i]? =some us->RR w [.int .u8] r us bb) (hlen:∀ us∈uss,List.length us=1):
  List.flatten uss=(xs.map EV).map (Value.int .u8):=by
 apply List.ext_getElem?
 intro i
 have hfl:=m9 uss hlen
 by_cases hi:i<List.length xs
 ·have hu:i<uss.length:=by omega
  have hb:i<bss.length:=by omega
  obtain⟨v,us',b1,b2,e1,_,h2,h3⟩:=hrr i _ _ _ (List.getElem?_eq_getElem hi) (List.getElem?_eq_getElem hb) (List.getElem?_eq_getElem hu)
  have h5:=BX uss hlen i 0 _ v (List.getElem?_eq_getElem hu) (by rw[e1];rfl)
  rw[Nat.mul_one,Nat.add_zero] at h5
  rw[h5,List.getElem?_map,List.getElem?_map,List.getElem?_eq_getElem hi]
  exact congrArg some h2.1
 simp_all
theorem MQ{xs:List (Row [.int .u8])}{u:Value}{bs:List Nat}(h:TR w (.sl [.int .u8]) xs u bs):(Conv.bytesToString u).run P w= .ok (.string (cQ xs)) w:=by
 obtain⟨A,cap,rfl,hc,h⟩:=h.cells
 have fin:∀ a:Addr,(loadCells a (List.length xs)).run P w= .ok ((xs.map EV).map (Value.int .u8)).toArray w->(Conv.bytesToString (.slice (some a) (List.length xs) cap)).run P w= .ok (.string (cQ xs)) w:=by
  intro a ha
  rw[run_bytesToString w a _ cap (xs.map EV) ha,B7,KJ]
  simp
 rcases h with ⟨rfl,_⟩ | ⟨b,off,bss,uss,rfl,hl,hul,_,hrr,hlen,hk⟩
 ·cases A with
  | none=>rfl
  | some a=>rfl
 ·have hcells:=H0 hl hul hrr hlen
  have hload:=run_loadCells_list (P:=P) w ⟨b,off,none⟩ (List.flatten uss) (λj v hj=>by rw[Addr.add_lit];grind)
  simp_all
theorem IZ(R:Rel n0 ab rb w0 N t m a w loc ow){d src dst el:Nat}(hm:m (d*32)= .none)(s:ByteArray){ud:TypeDesc}(hu:P.underlying src=some ud)(hu2:P.underlying dst=some (.slice el))(hu3:P.underlying el=some (.int .u8)):
  ∃ v w',(convert src dst (.string s)).run P w= .ok v w'/\Post n0 ab rb w0 N t m a ⟨.one (.own (d*32)),[(d*32,.arr [.int .u8] (fE s) true true)]⟩ v w':=by
 have hrun:=Lib.run_convert_string_bytes w src dst el s hu hu2 hu3
 have hsize:=Lib.bytesWorld_size w el s
 have hnew:=Lib.bytesWorld_at_new w el s
 have hcs:(Lib.bytesCells w el s).size=ByteArray.size s+(grownCap w (ByteArray.size s) 0 el - ByteArray.size s):=by
  simp[Lib.bytesCells];try rfl
 have hcap:ByteArray.size s<=grownCap w (ByteArray.size s) 0 el:=by
  unfold grownCap Question.cut;simp
 obtain⟨loc',ow',R',e'⟩:=R.newArr (wr:=[]) (p:=true) (bss:=List.replicate (ByteArray.size s) []) (by
   have:List.flatten (List.replicate (ByteArray.size s) ([]:List Nat))=[]:=by simp
   rw[this];exact Made.nil) hm rfl (w':=Lib.bytesWorld w el s) rfl rfl rfl (by omega) (λb hb=>Lib.bytesWorld_at_old w el s b hb)
  (l := .at_ w.heap.size 0 (grownCap w (ByteArray.size s) 0 el)) (λb hb hn=>by have hn':¬ w.heap.size=b:=hn;omega) (λb hb=>by simp only[Loc.has] at hb;omega) (ks:=[.int .u8]) (xs:=fE s) (deep:=true) (λ_=>rfl) (by
   refine⟨_,_,_,hnew,.inr (Nat.le_refl _),by simp_all,by rw[jM];omega,by rw[jM];simp,λix r bb hi hb=>?_⟩
   rw[tY] at hi
   rw[List.getElem?_replicate] at hb
   split at hb
   ·cases hb
    cases hb2:s.data.toList[ix]? with
    | none=>rw[hb2] at hi;grind
    | some y=>
     rw[hb2] at hi;cases hi
     refine⟨[.int .u8 y.toNat],⟨_,[],[],[],rfl,rfl,⟨rfl,rfl⟩,rfl,rfl⟩,λc u hc=>?_⟩
     have hc0:c=0:=by grind
     subst hc0
     simp at hc;subst hc
     have hlt:ix<s.data.size:=by simp_all
     have h1:s.data[ix]? =some y:=by simp_all
     unfold Lib.bytesCells
     grind
   simp_all)
 refine⟨_,_,hrun,loc',ow',R',?_⟩
 show VR (cD m (d*32) _) _ _ _ _ _
 simp only[VR,VR1,LR,aX]
 rw[e',bL,jM]
 rfl
theorem HR{w:World}{b:Nat}{cs:Array Value}{T:Nat}{fz:Nat×Nat}(hh:w.heap[b]? =some (.cells cs T fz))(hf:fz.1=fz.2\/cs.size<=fz.1):
  (w.freeze ⟨b,cs.size,none⟩ 1).os=w.os/\(w.freeze ⟨b,cs.size,none⟩ 1).tape=w.tape/\(w.freeze ⟨b,cs.size,none⟩ 1).output=w.output/\(w.freeze ⟨b,cs.size,none⟩ 1).heap.size=w.heap.size/\
   (∀ b',b'≠b->(w.freeze ⟨b,cs.size,none⟩ 1).heap[b']? =w.heap[b']?)/\∃ fz':Nat×Nat,(w.freeze ⟨b,cs.size,none⟩ 1).heap[b]? =some (.cells cs T fz')/\(fz'.1=fz'.2\/cs.size<=fz'.1):=by
 unfold World.freeze
 rw[if_neg (by omega)]
 grind
theorem wT{w:World}{ty e:Nat}{b o n c:Nat}{cs:Array Value}{T:Nat}{fz:Nat×Nat}(hu:P.underlying ty=some (.slice e))(he:P.underlying e=some (.int .u8))(hh:w.heap[b]? =some (.cells cs T fz)):
  (convert ty ty (.slice (some ⟨b,o,none⟩) n c)).run P w= .ok (.slice (some ⟨b,o,none⟩) n c) (w.freeze ⟨b,cs.size,none⟩ 1):=by
 have hsh:w.shape? b=some (T,cs.size):=by simp[World.shape?,hh]
 simp[convert,run_underlying hu,run_underlying he,markStringish,hsh,Result.andThen]
theorem GU(R:Rel n0 ab rb w0 N t m a w loc ow){id ty el:Nat}{ks:List Kd}{xs:List (Row ks)}(hm:m id= .arr ks xs true true)(hx:0<List.length xs)(hu:P.underlying ty=some (.slice el))(he:P.underlying el=some (.int .u8)):
  ∃ v w',(convert ty ty ((loc id).val (List.length xs))).run P w= .ok v w'/\Post n0 ab rb w0 N t m a ⟨.one (.own id),[(id,.arr ks xs true true)]⟩ v w':=by
 have hE:=R.ents id
 unfold EntR at hE
 rw[hm] at hE
 obtain⟨bss,hown,hok,hb,hd⟩:=hE
 cases hl:loc id with
 | pin _ _ _=>rw[hl] at hown;exact hown.elim
 | nil=>rw[hl] at hown;have:=hown.1;rw[this] at hx;simp_all
 | at_ b o c=>
  rw[hl] at hown
  obtain⟨cs,T,fz,hh,hf,h1,h2,h3,h4⟩:=hown
  obtain⟨q1,q2,q3,q4,q5,fz',q6,q7⟩:=HR hh hf
  obtain⟨d1,d2,d3⟩:=hd rfl rfl
  have hbb:(loc id).has b:=by rw[hl];rfl
  refine⟨_,_,wT hu he hh,loc,ow,?_,?_⟩
  ·refine R.write (b:=b) (by rw[hm];rfl) hbb (e:= .arr ks xs true true) rfl (by rw[hm];exact Goes.refl _ _) q1 q2 q3 q4 q5 ⟨cs,T,fz',q6,q7⟩ (λcs2 T2 fz2 e=>by rw[hh] at e;grind) (λe=>by rw[hm] at e;grind) ow (λ_ _ _ _ h=>h) (λx j h=>R.owlt x j h) λhk _=>?_
   unfold EntR
   rw[aX]
   refine⟨bss,?_,λbb hbb x hx=>(hk x (hok bb hbb x hx)).1,λx hx=>?_,λ_ _=>⟨d1,d2,d3⟩⟩
   ·rw[hl]
    refine⟨cs,T,fz',q6,q7,h1,h2,h3,λi r bb hi hbb'=>?_⟩
    obtain⟨us,g1,g2⟩:=h4 i r bb hi hbb'
    exact⟨us,RR.mono _ _ _ _ (λx hx=>(hk x (hok bb (List.mem_of_getElem? hbb') x hx)).2) g1,g2⟩
   simp_all
  ·show VR (cD m id _) _ _ _ _ _
   simp only[VR,VR1,LR,aX]
   rw[hl];rfl
include hT
theorem M2(R:Rel n0 ab rb w0 N t m a w loc ow){d src dst:Nat}{x:Operand}{e:Eff}{tr:List Nat}(h:Does m (HW E d src dst (cA t x)) e tr):
  ∃ v w',(convert src dst (a.eval x)).run P w= .ok v w'/\Post n0 ab rb w0 N t m a e v w':=by
 have hv:=R.eval x
 generalize cA t x=q at h hv
 generalize a.eval x=u at hv
 obtain⟨i,T,_,h'⟩:=cB hT h;replace h:=h';clear h'
 obtain⟨j,T2,_,h'⟩:=cB hT h;replace h:=h';clear h'
 have hu:=T.und
 have hu2:=T2.und
 split at h
 ·rename_i k1 k2 k3 n htag1 htag2
  rw[htag1] at hu
  rw[htag2] at hu2
  have:=VR.int hv;subst this
  obtain⟨rfl,_⟩:=h
  exact⟨_,w,by simp[convert,run_underlying hu,run_underlying hu2,Conv.intToInt],Post.same R rfl (VR.mkInt _ _)⟩
 ·rename_i s htag1 htag2
  rw[htag1] at hu
  rw[htag2] at hu2
  dsimp only at hu2
  obtain⟨el,T3,_,h'⟩:=cB hT h;replace h:=h';clear h'
  have hu3:=T3.und
  split at h
  ·rename_i htag3
   rw[htag3] at hu3
   obtain⟨hm,tr',_,h'⟩:=gN h;replace h:=h';clear h'
   obtain⟨rfl,_⟩:=h
   have:=VR.str hv;subst this
   exact IZ R hm s hu hu2 hu3
  ·exact h.elim
 ·rename_i id htag1 htag2
  rw[htag1] at hu
  rw[htag2] at hu2
  dsimp only at hu hu2
  obtain⟨el,T3,_,h'⟩:=cB hT h;replace h:=h';clear h'
  have hu3:=T3.und
  split at h
  ·rename_i htag3
   rw[htag3] at hu3
   split at h
   case isFalse=>exact h.elim
   rename_i hsd
   subst hsd
   obtain⟨tr',_,h'⟩:=h;replace h:=h';clear h'
   simp only[VR,VR1,LR] at hv
   cases hm:m id with
   | arr ks xs deep opn=>
    rw[hm] at h hv
    dsimp only at h hv
    cases deep with
    | false=>exact h.elim
    | true=>
     cases opn with
     | false=>exact h.elim
     | true=>
      subst hv
      rcases h with ⟨hx,h⟩ | ⟨_,h⟩
      case inr=>exact h.elim
      replace hx:=of_decide_eq_true hx
      obtain⟨rfl,_⟩:=h
      exact GU R hm hx hu2 hu3
   | _=>rw[hm] at h;exact h.elim
  ·exact h.elim
 ·rename_i htag1 htag2
  rw[htag1] at hu
  rw[htag2] at hu2
  dsimp only at hu
  obtain⟨el,T3,_,h'⟩:=cB hT h;replace h:=h';clear h'
  have hu3:=T3.und
  split at h
  ·rename_i htag3
   rw[htag3] at hu3
   obtain⟨xs,tr',bs,h',hTR⟩:=J5 R hv h
   obtain⟨rfl,_⟩:=h'
   have hb:=MQ (P:=P) hTR
   obtain⟨A,cap,rfl,_⟩:=hTR.cells
   exact⟨_,w,by
    have:(convert src dst (.slice A (List.length xs) cap)).run P w=(Conv.bytesToString (.slice A (List.length xs) cap)).run P w:=by
     simp[convert,run_underlying hu,run_underlying hu2,run_underlying hu3]
    rw[this];omega,Post.same R rfl (VR.mkStr _)⟩
  ·exact h.elim
 ·exact h.elim
end ops
end Go.Abs
