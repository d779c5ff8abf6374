/-
  The abstract machine: a deterministic evaluator of the model's code over data, in which a slice that nobody writes is a list. No statement of a seat is proved here.
  How the abstract machine's values and memory stand to the model's. No statement of a seat is proved here.
  Memory: what a read gives, what a new block and a write leave. No statement of a seat is proved here.
  Memory: a new block, a write, memory that is not written from here on. No statement of a seat is proved here.
  Memory that is not written from here on: what is seen of it. No statement of a seat is proved here.
-/
import Derived.WalkKit
import Derived.RangeFuncIn
import Derived.RangeFuncRecord
import Derived.RangeFuncLeaves
import Derived.OrdersIn
set_option linter.unusedVariables false
set_option linter.unusedSimpArgs false
namespace Go.Ab
structure Ref where
 d:Nat
 t:Nat
 g:Nat
 k:Nat:=0
deriving DecidableEq,Inhabited
inductive AV where
 | v (x:Value)
 | agg (cs:List AV)
 | tup (vs:List AV)
 | cw (esz:Nat) (es:List AV) (cap:Option Nat)
 | cM (r:Ref) (off len:Nat) (cap:Option Nat)
 | fsl (esz:Nat) (es:List AV) (cap:Option Nat)
 | ptr (r:Ref) (i j:Nat)
 | iptr (esz:Nat) (es:List AV) (i j:Nat)
 | fn (f:Fn) (first captured:List AV)
 | ifc (t:TypeId) (x:AV)
 | yld (r:Ref)
 | mp (r:Ref)
 | ch (r:Ref)
 | lp (f:FuncId) (nt:Nat) (ps:List Tmp) (assign body:Code) (tm:List AV)
def AV.undef:AV := .v Go.undef
instance:Inhabited AV:=⟨AV.undef⟩
def AV.cells:AV→List AV
 | .agg cs=>cs
 | x=>[x]
def AV.one:AV→Bool
 | .v (.tuple _) | .v (.agg _) | .agg _ | .tup _ | .fsl .. | .lp .. => false
 | _=>true
structure bN where
 esz:Nat
 es:List AV
 arr:Bool
 jb:Bool
deriving Inhabited
def scalar:Value→Bool
 | .bool _ | .int _ _ | .float _ _ | .complex _ _ _ | .string _=>true
 | .pointer none | .slice none 0 0 | .map none | .chan none | .nilFunc | .nilIface=>true
 | .tuple vs=>vs.isEmpty
 | _=>false
def iB(x:Value):Option AV:=if scalar x then some (.v x) else none
def ofValue:Value→Option AV
 | .agg cs=>(cs.toList.mapM iB).map .agg
 | .func f first captured=>if first.isEmpty&&captured.isEmpty then some (.fn f [] []) else none
 | .tuple vs=>if vs.isEmpty then some (.v (.tuple #[])) else (vs.toList.mapM iB).map .tup
 | .iface t x=>(iB x).map (.ifc t)
 | x=>iB x
def Eg:AV→Option Value
 | .v x=>some x
 | _=>none
def fP:AV→Option Value
 | .v x=>some x
 | .agg cs=>(cs.mapM Eg).map fun l => .agg l.toArray
 | _=>none
def bz{α:Type}(P:Program):Sem α→Option α
 | .pure a=>some a
 | .program k=>bz P (k P)
 | .mark _ k=>bz P k
 | _=>none
abbrev ab:=List (Ref × Option bN)
abbrev dk:=Ref→Option bN
def ab.get:ab→Ref→Option bN
 | [],_=>none
 | (r',b) :: h,r=>if r'=r then b else ab.get h r
def ab.gen:ab→Nat→Nat→Nat
 | [],_,_=>0
 | (r',_) :: h,d,t=>if r'.d=d∧r'.t=t then r'.g+1 else ab.gen h d t
def ab.put:ab→Ref→Option bN→ab
 | [],r,b=>[(r,b)]
 | (r',b') :: h,r,b=>if r'=r then (r,b) :: h else (r',b') :: ab.put h r b
def cU:List AV→Nat→AV
 | [],_=>AV.undef
 | x :: _,0=>x
 | _ :: l,n+1=>cU l n
def tn:List AV→Nat→AV→List AV
 | [],0,v=>[v]
 | [],n+1,v=>AV.undef :: tn [] n v
 | _ :: l,0,v=>v :: l
 | x :: l,n+1,v=>x :: tn l n v
structure St where
 tm:List AV
 hp:ab
def aU(P:Program)(t:TypeId):Option Nat:=(P.info? t).map (·.size)
def lA(P:Program)(t:TypeId):Option Nat:=(P.info? t).map (·.bytes)
def eG(P:Program)(t:TypeId):Option AV:=((P.info? t).bind (·.zero)).bind ofValue
def dD(P:Program)(t:TypeId):Option Bool:=(P.underlying t).map fun | .struct _ | .array _ _=>true | _=>false
def me(P:Program)(t:TypeId)(f:Nat):Option (Nat × TypeId) :=
 match P.underlying t with
 | some (.struct fs)=>(fs[f]?).map fun x=>(x.offset,x.type)
 | _=>none
def dY(P:Program)(t:TypeId):Option TypeId :=
 match P.underlying t with
 | some (.slice e)=>some e
 | _=>none
def iy(P:Program)(t:TypeId):Option (Nat × TypeId) :=
 match P.underlying t with
 | some (.array n e)=>some (n,e)
 | _=>none
def eL(es:List AV)(i j n:Nat)(isAgg:Bool):Option AV :=
 match es[i]? with
 | none=>none
 | some e =>
  if isAgg then (if j+n≤e.cells.length∧0<n then some (.agg ((e.cells.drop j).take n)) else none) else e.cells[j]?
def patch(cs:List AV)(j:Nat)(new:List AV):List AV:=cs.take j++new++cs.drop (j+new.length)
def oE(e:AV)(j:Nat)(new:List AV):Option AV :=
 match e with
 | .agg cs=>if j+new.length≤cs.length then some (.agg (patch cs j new)) else none
 | _=>match j,new with
  | 0,[x]=>some x
  | _,_=>none
def fb(es:List AV)(i j:Nat)(new:List AV):Option (List AV) :=
 match es[i]? with
 | none=>none
 | some e=>(oE e j new).map fun e'=>es.set i e'
def view(g:dk):Nat→AV→Option AV
 | 0,_=>none
 | n+1,x =>
  match x with
  | .v x=>some (.v x)
  | .agg cs=>(cs.mapM (view g n)).map .agg
  | .tup cs=>(cs.mapM (view g n)).map .tup
  | .cw esz es cap=>some (.cw esz es cap)
  | .fsl .. => none
  | .iptr esz es i j=>some (.iptr esz es i j)
  | .cM r off len cap =>
   match g r with
   | some b=>if b.arr=true∧off+len≤b.es.length then some (.cw b.esz ((b.es.drop off).take len) cap) else none
   | none=>none
  | .ptr r i j =>
   match g r with
   | some b=>if b.arr then some (.iptr b.esz b.es i j) else (b.es.mapM (view g n)).map fun es => .iptr b.esz es i j
   | none=>none
  | .fn f a b=>match a.mapM (view g n),b.mapM (view g n) with
   | some a,some b=>some (.fn f a b)
   | _,_=>none
  | .ifc t x=>(view g n x).map (.ifc t)
  | .yld _ | .mp _ | .ch _ | .lp .. => none
def aH(g:dk):Nat→AV→List Ref
 | 0,_=>[]
 | n+1,x =>
  match x with
  | .agg cs | .tup cs=>cs.flatMap (aH g n)
  | .cM r _ _ _=>[r]
  | .ptr r _ _=>r :: (match g r with | some b=>if b.arr then [] else b.es.flatMap (aH g n) | none=>[])
  | .fn _ a b=>a.flatMap (aH g n)++b.flatMap (aH g n)
  | .ifc _ x=>aH g n x
  | .mp r=>[r]
  | .ch r=>[r]
  | _=>[]
def flat:Nat→AV→Bool
 | 0,_=>false
 | n+1,x =>
  match x with
  | .v _=>true
  | .agg cs | .tup cs=>cs.all (flat n)
  | .ifc _ x=>flat n x
  | .fn _ a b=>a.all (flat n)&&b.all (flat n)
  | _=>false
def cq(H:ab):List Ref→ab
 | []=>H
 | r :: rs=>match H.get r with
  | some b=>cq (H.put r (some { b with jb:=true})) rs
  | none=>cq H rs
def ic(g:dk)(rs:List Ref):Bool:=rs.all fun r=>match g r with | some b=>b.jb | none=>false
def depth:Nat:=8
def aZ(tm:List AV):Operand→Option AV
 | .tmp t=>some (cU tm t)
 | .const v=>ofValue v
 | .func f=>some (.fn (.func f) [] [])
 | .global _=>none
def intOf:AV→Option Int
 | .v (.int _ n)=>some n
 | _=>none
def Am:AV→Option Bool
 | .v (.bool b)=>some b
 | _=>none
def cg:Nat:=140737488355328
def cT(g:dk):AV→Option (Nat × List AV)
 | .v (.string s)=>some (1,s.data.toList.map fun b => .v (.int .u8 b.toNat))
 | .cw esz es _=>some (esz,es)
 | .cM r off len _=>match g r with
  | some b=>if b.arr=true∧off+len≤b.es.length then some (b.esz,(b.es.drop off).take len) else none
  | none=>none
 | _=>none
def bounds(len:Nat)(cap:Option Nat)(lo hi mx:Option Int):Option (Nat × Nat × Option Nat) :=
 match mx with
 | some m =>
  match hi with
  | some h=>if 0≤lo.getD 0∧lo.getD 0≤h∧h≤m∧m≤cap.getD len∧h≤len then some ((lo.getD 0).toNat,h.toNat,some (m.toNat - (lo.getD 0).toNat)) else none
  | none=>none
 | none=>if 0≤lo.getD 0∧lo.getD 0≤hi.getD len∧hi.getD len≤len then some ((lo.getD 0).toNat,(hi.getD len).toNat,cap.map (· - (lo.getD 0).toNat)) else none
def jH(tm:List AV):Option Operand→Option (Option Int)
 | none=>some none
 | some o=>match (aZ tm o).bind intOf with
  | some n=>some (some n)
  | none=>none
def u6(P:Program)(t:TypeId)(cs:List AV)(off:Nat):Option AV :=
 match dD P t,aU P t with
 | some true,some n=>if off+n≤cs.length then some (.agg ((cs.drop off).take n)) else none
 | some false,_=>cs[off]?
 | _,_=>none
def kE(place:Nat→Option (Nat × Nat))(cells:List AV):List (Nat × AV)→Option (List AV)
 | []=>some cells
 | (i,v) :: rest =>
  match place i with
  | none=>none
  | some (off,size) =>
   if v.cells.length=size∧off+size≤cells.length then kE place (patch cells off v.cells) rest else none
def aL(P:Program)(t:TypeId)(i:Nat):Option (Nat × Nat) :=
 match me P t i with
 | some (off,ft)=>(aU P ft).map fun n=>(off,n)
 | none=>none
def fu(P:Program)(t:TypeId):Option (List (Nat × Nat)) :=
 match P.underlying t with
 | some (.struct fs)=>fs.toList.mapM fun f=>(P.info? f.type).map fun i=>(f.offset,i.size)
 | _=>none
def fZ(es:List AV):List (Nat × AV)→Option (List AV)
 | []=>some es
 | (i,v) :: rest=>if i<es.length then fZ (es.set i v) rest else none
def ga(tm:List AV)(ps:List (Nat × Operand)):Option (List (Nat × AV)) :=
 ps.mapM fun(i,o)=>(aZ tm o).map fun x=>(i,x)
def B8(P:Program)(op:BinOp)(t:TypeId)(xo yo:Operand)(x y:Value):Option Value :=
 bz P (do eqGuard op t xo yo x y;binOp op t x y)
def rq:AV→Option Nat
 | .v (.slice none 0 0)=>some 0
 | .cw _ es _=>some es.length
 | .cM _ _ n _=>some n
 | _=>none
def Fz(f:Value→Value→Sem Value)(P:Program)(args:List AV):Option AV :=
 match args.mapM Eg with
 | some (x :: rest)=>(bz P (rest.foldlM f x)).bind iB
 | _=>none
def byteOf:AV→Option UInt8
 | .v (.int .u8 n)=>some (UInt8.ofNat n.toNat)
 | _=>none
abbrev gz:=Option (AV × List bN)
def cF(x:Option AV):gz:=x.map (·,[])
def B4(ev:Operand→Option AV)(c a b:Operand):gz :=
 match (ev c).bind Am with
 | some true=>cF (ev a)
 | some false=>cF (ev b)
 | none=>none
def bY(P:Program)(r:Ref)(e:TypeId):gz :=
 match eG P e,aU P e with
 | some z,some n=>if z.cells.length=n∧z.cells.all AV.one∧0<n then some (.ptr r 0 0,[⟨n,[z],false,false⟩]) else none
 | _,_=>none
def cD(P:Program)(r:Ref)(e:TypeId)(x:Option AV):gz :=
 match x,aU P e with
 | some x,some n=>if x.cells.length=n∧x.cells.all AV.one∧0<n then some (.ptr r 0 0,[⟨n,[x],false,false⟩]) else none
 | _,_=>none
def cK(P:Program)(t:TypeId)(vs:Option (List (Nat × AV))):gz :=
 match eG P t,vs with
 | some (.agg z),some vs =>
  match iy P t with
  | some (_,e)=>match aU P e with
   | some n=>(kE (fun i=>some (i * n,n)) z vs).map fun cs=>(.agg cs,[])
   | none=>none
  | none=>match fu P t with
   | some ps=>(kE (ps[·]?) z vs).map fun cs=>(.agg cs,[])
   | none=>none
 | _,_=>none
def eT(g:dk)(vs:List (Nat × AV)):Option (List (Nat × AV)):=vs.mapM fun(i,x)=>(view g depth x).map (i,·)
def ck(g:dk)(xs:List AV):List Ref:=xs.flatMap (aH g depth)
def mkSlice(P:Program)(g:dk)(t:TypeId)(n:Nat)(vs:List (Nat × AV)):Option bN :=
 match dY P t with
 | none=>none
 | some e=>match eT g vs,eG P e,aU P e with
  | some ws,some z,some s =>
   if 0<s∧n * s≤16777216∧z.cells.length=s∧z.cells.all AV.one∧ws.all (fun p=>p.2.cells.length=s&&p.2.cells.all AV.one) then
    (fZ (List.replicate n z) ws).map fun es=>⟨s,es,true,false⟩
   else none
  | _,_,_=>none
def fG(P:Program)(draw:Bool)(g:dk)(r:Ref)(t:TypeId)(n:Nat)(vs:Option (List (Nat × AV))):gz :=
 match vs with
 | none=>none
 | some vs=>if ic g (ck g (vs.map (·.2))) then (mkSlice P g t n vs).map fun b=>(if draw then (.cw b.esz b.es (some n),[]) else (.cM r 0 n (some n),[b])) else none
def aj(P:Program)(g:dk)(t:TypeId)(a:Option AV):gz :=
 match a,dD P t,aU P t with
 | some (.ptr r' i j),some ag,some n=>match g r' with
  | some b=>cF (eL b.es i j n ag)
  | none=>none
 | some (.iptr _ es i j),some ag,some n=>cF (eL es i j n ag)
 | _,_,_=>none
def jX(x:Option AV):gz :=
 match x with
 | some (.ptr r' i j)=>some (.ptr r' i j,[])
 | some (.iptr n es i j)=>some (.iptr n es i j,[])
 | some (.fn (.func f) a b)=>some (.fn (.func f) a b,[])
 | _=>none
def HA:AV→Bool
 | .cw .. | .cM .. => true
 | _=>false
def mo:AV→Bool
 | .v (.slice none 0 0)=>true
 | _=>false
def aE(P:Program)(op:BinOp)(t:TypeId)(xo yo:Operand)(x y:Option AV):gz :=
 match x,y with
 | some x,some y =>
  if HA x&&mo y||HA y&&mo x then
   match P.underlying t,op with
   | some (.slice _),.eql=>some (.v (.bool false),[])
   | some (.slice _),.neq=>some (.v (.bool true),[])
   | _,_=>none
  else
   match fP x,fP y with
   | some x,some y=>cF ((B8 P op t xo yo x y).bind iB)
   | _,_=>none
 | _,_=>none
def wM(P:Program)(op:UnOp)(x:Option AV):gz :=
 cF (((x.bind Eg).bind fun x=>bz P (Op.unary op x)).bind iB)
def eR(P:Program)(t:TypeId):Bool :=
 match P.underlying t with
 | some (.slice e)=>(match P.underlying e with | some (.int .u8)=>true | _=>false)
 | _=>false
def isStr(P:Program)(t:TypeId):Bool:=match P.underlying t with | some .string=>true | _=>false
def cW(P:Program)(g:dk)(r:Ref)(src dst:TypeId)(x:Option AV):gz :=
 match x with
 | some (.v (.slice none 0 0))=>if eR P src&&isStr P dst then some (.v (.string .empty),[]) else none
 | some (.v (.string s)) =>
  if isStr P src&&isStr P dst then some (.v (.string s),[])
  else if isStr P src&&eR P dst then
   (if s.size≤cg then some (.cM r 0 s.size none,[⟨1,s.data.toList.map fun b => .v (.int .u8 b.toNat),true,false⟩]) else none)
  else none
 | some (.v x)=>cF ((bz P (Go.convert src dst x)).bind iB)
 | some x=>if eR P src&&isStr P dst then
  match cT g x with
  | some (_,es)=>(es.mapM byteOf).map fun l=>(.v (.string ⟨l.toArray⟩),[])
  | none=>none
  else if src == dst&&eR P src then
   match x with
   | .cM r' _ _ _=>(match g r' with
    | some b=>if b.esz=1 then some (x,[]) else none
    | none=>none)
   | _=>none
  else none
 | none=>none
def oL(P:Program)(t:TypeId)(x:Option AV):gz :=
 match P.underlying t with
 | some (.interface _)=>none
 | some _=>x.map fun x=>(.ifc t x,[])
 | none=>none
def sG(f:Fn)(first captured:Option (List AV)):gz :=
 match first,captured with
 | some a,some b=>some (.fn f a b,[])
 | _,_=>none
def u4(P:Program)(r:Ref)(t:TypeId)(l c:Option AV):gz :=
 match dY P t,l.bind intOf,c.bind intOf with
 | some e,some l,some c=>match eG P e,aU P e,lA P e with
  | some z,some s,some b =>
   if 0≤l∧l≤c∧c * b≤cg∧c≤9223372036854775807∧0<s∧z.cells.length=s∧z.cells.all AV.one then some (.cM r 0 l.toNat none,[⟨s,List.replicate l.toNat z,true,false⟩]) else none
  | _,_,_=>none
 | _,_,_=>none
def eQ(P:Program)(g:dk)(t:TypeId)(x:Option AV)(lo hi mx:Option (Option Int)):gz :=
 match lo,hi,mx with
 | some lo,some hi,some mx =>
  match x with
  | some (.v (.slice none 0 0))=>if ((dY P t).bind (aU P)).isSome then (bounds 0 (some 0) lo hi mx).map fun _=>(.v (.slice none 0 0),[]) else none
  | some (.v (.string s))=>if isStr P t&&mx.isNone then (bounds s.size none lo hi none).map fun(l,h,_)=>(.v (.string (s.extract l h)),[]) else none
  | some (.cw esz es cap)=>if (dY P t).bind (aU P)=some esz then (bounds es.length cap lo hi mx).map fun(l,h,c)=>(.cw esz ((es.drop l).take (h - l)) c,[]) else none
  | some (.cM r' off len cap)=>(match g r' with
   | some b=>if (dY P t).bind (aU P)=some b.esz then (bounds len cap lo hi mx).map fun(l,h,c)=>(.cM r' (off+l) (h - l) c,[]) else none
   | none=>none)
  | _=>none
 | _,_,_=>none
def ra(P:Program)(g:dk)(t:TypeId)(x:Option AV)(lo hi mx:Option (Option Int)):gz :=
 match lo,hi,mx,x with
 | some lo,some hi,some none,some (.cM r' off len cap)=>(match g r' with
  | some b=>if (dY P t).bind (aU P)=some b.esz∧0≤lo.getD 0∧lo.getD 0≤hi.getD len∧hi.getD len≤cap.getD len then
   some (.cM r' (off+(lo.getD 0).toNat) ((hi.getD len).toNat - (lo.getD 0).toNat) (cap.map (· - (lo.getD 0).toNat)),[]) else none
  | none=>none)
 | _,_,_,_=>none
def G0(P:Program)(g:dk)(t:TypeId)(args:List AV):gz :=
 match args,dY P t with
 | [.cM r _ _ _,.cM r' _ _ _],some e=>(match g r,g r',aU P e with
  | some b,some b',some z=>if r≠r'∧1<b.esz∧b.esz=z∧b'.esz=z then some (.v (.bool false),[]) else none
  | _,_,_=>none)
 | _,_=>none
def AB(pP:FuncId→Option TypeId)(draw:Bool)(f:Operand):Option TypeId:=match draw,f with
 | false,.func fi=>pP fi
 | _,_=>none
@[simp] theorem tx(pP:FuncId→Option TypeId)(f:Operand):AB pP true f=none:=by cases f<;>rfl
def aa(P:Program)(t:TypeId)(x:Option AV)(f:Nat):gz :=
 match aL P t f with
 | some (off,s)=>if 0<s then
  match x with
  | some (.ptr r' i j)=>some (.ptr r' i (j+off),[])
  | some (.iptr n es i j)=>some (.iptr n es i (j+off),[])
  | _=>none
  else none
 | none=>none
def lC(P:Program)(t:TypeId)(x:Option AV)(f:Nat):gz :=
 match me P t f,x with
 | some (off,ft),some (.agg cs)=>cF (u6 P ft cs off)
 | _,_=>none
def aM(P:Program)(g:dk)(t:TypeId)(x ix:Option AV):gz :=
 match ix.bind intOf with
 | some k =>
  match dY P t with
  | some e=>match x,aU P e with
   | some (.cw esz es _),some s=>if 0≤k∧k<es.length∧s=esz then some (.iptr esz es k.toNat 0,[]) else none
   | some (.cM r' off len _),some s=>(match g r' with
    | some b=>if 0≤k∧k<len∧s=b.esz then some (.ptr r' (off+k.toNat) 0,[]) else none
    | none=>none)
   | _,_=>none
  | none=>match iy P t with
   | some (n,e)=>match x,aU P e with
    | some (.ptr r' i j),some s=>if 0≤k∧k<n then some (.ptr r' i (j+k.toNat * s),[]) else none
    | some (.iptr esz es i j),some s=>if 0≤k∧k<n then some (.iptr esz es i (j+k.toNat * s),[]) else none
    | _,_=>none
   | none=>none
 | none=>none
def nL(P:Program)(t:TypeId)(x ix:Option AV):gz :=
 match ix.bind intOf,x with
 | some k,some (.agg cs)=>(match iy P t with
  | some (n,e)=>(match aU P e with
   | some s=>if 0≤k∧k<n then cF (u6 P e cs (k.toNat * s)) else none
   | none=>none)
  | none=>none)
 | some k,some (.v (.string s))=>if isStr P t∧0≤k then cF ((s[k.toNat]?).map fun b => .v (.int .u8 b.toNat)) else none
 | _,_=>none
def o3(P:Program)(x:Option AV)(want:TypeId)(ok:Bool):gz :=
 match P.underlying want,x with
 | some (.interface _),_=>none
 | some _,some (.ifc t y) =>
  if t=want then some ((if ok then .tup [y,.v (.bool true)] else y),[])
  else if ok then (eG P want).map fun z=>(.tup [z,.v (.bool false)],[]) else none
 | some _,some (.v .nilIface)=>if ok then (eG P want).map fun z=>(.tup [z,.v (.bool false)],[]) else none
 | _,_=>none
def aF(x:Option AV)(i:Nat):gz :=
 match x with
 | some (.tup vs)=>cF (vs[i]?)
 | _=>none
def bw(ents:List AV):bN:=⟨0,.v (.bool true) :: ents,false,false⟩
def hJ(g:dk)(r:Ref):Option (List AV):=match g r with
 | some ⟨0,.v (.bool true) :: ents,false,_⟩=>some ents
 | _=>none
def gG(cap:Nat)(cl:Bool)(buf:List AV):bN:=⟨0,.v (.bool false) :: .v (.int .i64 cap) :: .v (.bool cl) :: buf,false,false⟩
def JW(g:dk)(r:Ref):Option (Nat × Bool × List AV):=match g r with
 | some ⟨0,.v (.bool false) :: .v (.int .i64 cap) :: .v (.bool cl) :: buf,false,_⟩=>some (cap.toNat,cl,buf)
 | _=>none
def BP(P:Program)(t:TypeId):Option TypeId:=match P.underlying t with
 | some (.chan _ e)=>some e
 | _=>none
def Dy(P:Program)(t:TypeId):Option (TypeId × TypeId):=match P.underlying t with
 | some (.map k e)=>some (k,e)
 | _=>none
def vt:AV→Option Value
 | .tup [k,_]=>fP k
 | _=>none
def CQ:AV→Option AV
 | .tup [_,v]=>some v
 | _=>none
def tB(P:Program)(empty:Bool)(kt:TypeId)(k:Value)(ks:List Value):Option (Option Nat) :=
 match bz P (Instr.checkKey empty 10000 kt k) with
 | some _=>(bz P (Instr.findKey kt k (ks.map fun x=>⟨x,Go.undef,0⟩))).map fun o=>o.map (·.1)
 | none=>none
def da(P:Program)(g:dk)(t:TypeId)(x k:Option AV)(ok:Bool):gz :=
 match Dy P t,x,k.bind fP with
 | some (kt,et),some (.mp r),some kv=>(match hJ g r with
  | some ents=>(match ents.mapM vt with
   | some ks=>(match tB P ks.isEmpty kt kv ks with
    | some (some i)=>(ents[i]?.bind CQ).map fun v=>((if ok then .tup [v,.v (.bool true)] else v),[])
    | some none=>(eG P et).map fun z=>((if ok then .tup [z,.v (.bool false)] else z),[])
    | none=>none)
   | none=>none)
  | none=>none)
 | _,_,_=>none
def re(P:Program)(g:dk)(t:Option TypeId)(r:Ref):gz :=
 match t.bind (Dy P),hJ g r with
 | some _,some ents=>some (.v (.int .i64 ents.length),[])
 | _,_=>none
def J9:Value→Value→Bool
 | .bool a,.bool b=>a == b
 | .int k n,.int k' n'=>decide (k=k')&&decide (n=n')
 | .string s,.string t=>decide (s=t)
 | .slice none a b,.slice none a' b'=>Nat.beq a a'&&Nat.beq b b'
 | .nilFunc,.nilFunc=>true
 | .nilIface,.nilIface=>true
 | _,_=>false
def E3:Nat→AV→AV→Bool
 | 0,_,_=>false
 | n+1,x,y =>
  match x,y with
  | .v u,.v v=>J9 u v
  | .agg cs,.agg ds=>Nat.beq cs.length ds.length&&(cs.zip ds).all fun p=>E3 n p.1 p.2
  | .cw z es c,.cw z' es' c'=>Nat.beq z z'&&decide (c=c')&&Nat.beq es.length es'.length&&(es.zip es').all fun p=>E3 n p.1 p.2
  | _,_=>false
def Ew(r r':Ref):Bool:=Nat.beq r.t r'.t&&Nat.beq r.g r'.g&&Nat.beq r.d r'.d&&Nat.beq r.k r'.k
def wX:Nat→AV→AV→Bool
 | 0,_,_=>false
 | n+1,x,y =>
  match x,y with
  | .v u,.v v=>J9 u v
  | .agg cs,.agg ds=>Nat.beq cs.length ds.length&&(cs.zip ds).all fun p=>wX n p.1 p.2
  | .tup cs,.tup ds=>Nat.beq cs.length ds.length&&(cs.zip ds).all fun p=>wX n p.1 p.2
  | .cw z es c,.cw z' es' c'=>Nat.beq z z'&&decide (c=c')&&Nat.beq es.length es'.length&&(es.zip es').all fun p=>wX n p.1 p.2
  | .cM r a b c,.cM r' a' b' c'=>Ew r r'&&Nat.beq a a'&&Nat.beq b b'&&decide (c=c')
  | .ptr r i j,.ptr r' i' j'=>Ew r r'&&Nat.beq i i'&&Nat.beq j j'
  | .mp r,.mp r'=>Ew r r'
  | .ch r,.ch r'=>Ew r r'
  | .fn (.func f) a b,.fn (.func f') a' b'=>Nat.beq f f'&&(Nat.beq a.length a'.length&&(a.zip a').all fun p=>wX n p.1 p.2)&&(Nat.beq b.length b'.length&&(b.zip b').all fun p=>wX n p.1 p.2)
  | .ifc t x,.ifc t' x'=>Nat.beq t t'&&wX n x x'
  | _,_=>false
def F8(k k':bN):Bool:=Nat.beq k.esz k'.esz&&k.arr == k'.arr&&k.jb == k'.jb&&Nat.beq k.es.length k'.es.length&&(k.es.zip k'.es).all fun p=>wX 8 p.1 p.2
def CB(H H':ab):Bool:=H.all fun p=>match H.get p.1 with
 | none=>true
 | some k=>match H'.get p.1 with
  | none=>false
  | some k'=>F8 k k'
def Of(xs ys:List AV):Bool:=Nat.beq xs.length ys.length&&(xs.zip ys).all fun p=>E3 8 p.1 p.2
def FA:List (FuncId × List AV × AV)→FuncId→List AV→Option AV
 | [],_,_=>none
 | (g,xs,y) :: T,f,args=>if Nat.beq g f&&Of xs args then some y else FA T f args
def aN(r:Ref):Nat→AV→List bN→AV × List bN
 | 0,x,bs=>(x,bs)
 | n+1,x,bs =>
  match x with
  | .fsl esz es cap=>if esz=0 then (.mp { r with k:=bs.length},bs++[⟨0,es,false,false⟩]) else (.cM { r with k:=bs.length} 0 es.length cap,bs++[⟨esz,es,true,false⟩])
  | .agg cs=>let (ys,bs):=cs.foldl (fun(p:List AV × List bN) c=>let (y,bs):=aN r n c p.2;(p.1++[y],bs)) ([],bs);(.agg ys,bs)
  | .tup cs=>let (ys,bs):=cs.foldl (fun(p:List AV × List bN) c=>let (y,bs):=aN r n c p.2;(p.1++[y],bs)) ([],bs);(.tup ys,bs)
  | .ifc t x=>let (y,bs):=aN r n x bs;(.ifc t y,bs)
  | x=>(x,bs)
inductive sn where
 | fn (f:FuncId)
 | yld (r:Ref)
def vj(m:Nat):Bool:=m == 1||m == 3
def yC:Nat→AV→Bool
 | 0,_=>false
 | n+1,x =>
  match x with
  | .v _=>true
  | .agg cs | .tup cs=>cs.all (yC n)
  | .fsl z es _=>z != 0&&es.all (flat depth)
  | .cw _ es _=>es.isEmpty
  | .ifc _ x=>yC n x
  | _=>false
structure IB where
 f:ab→ab→Bool
 ok : ∀H H',f H H'=true →∀q k,H.get q=some k→H'.get q=some k
def N6:IB:=⟨fun _ _=>false,fun _ _ h=>by cases h⟩
structure Env where
 P:Program
 strict:Oper→Bool
 apart:Array Oper→List (Tmp × Tmp)
 mode:FuncId→Nat
 allowed:FuncId→Bool
 spec:FuncId→List AV→Option AV
 ok:Array Oper→Bool:=fun _=>true
 jb:Oper→Bool:=fun _=>false
 wide:Oper→Bool:=fun _=>false
 pP:FuncId→Option TypeId:=fun _=>none
 thrSpec:FuncId→List AV→ab→Option (AV × ab):=fun _ _ _=>none
 sm:IB:=N6
def ik(E:Env)(pc:FuncId→List AV→Option AV)(g:dk)(r:Ref)(f:Option AV)(args:List AV):gz :=
 match f with
 | some (.fn (.func fi) first captured) =>
  if E.mode fi=2 then none else
  match (first++args++captured).mapM (view g depth) with
  | some xs=>match pc fi xs with
   | some y=>if flat depth y||ic g (ck g (first++args++captured))||(E.mode fi == 3&&yC depth y) then some (aN r depth y []) else none
   | none=>none
  | none=>none
 | _=>none
def DD(P:Program)(t:Option TypeId)(x:AV):gz :=
 match t with
 | none=>none
 | some t=>match iy P t with
  | some (n,_)=>some (.v (.int .i64 n),[])
  | none=>if isStr P t then (match x with | .v (.string s)=>some (.v (.int .i64 s.size),[]) | _=>none)
   else if (dY P t).isSome then (rq x).map fun n=>(.v (.int .i64 n),[]) else none
def mq(P:Program)(g:dk)(e:TypeId)(x:AV):Option (Nat × List AV) :=
 match x with
 | .v (.slice none 0 0)=>(aU P e).map fun z=>(z,[])
 | .v (.int _ n)=>match eG P e,aU P e with
  | some w,some z=>if 0≤n∧n≤cg∧w.cells.length=z∧w.cells.all AV.one then some (z,List.replicate n.toNat w) else none
  | _,_=>none
 | x=>cT g x
def isNum:AV→Bool
 | .v (.int _ _)=>true
 | _=>false
def isInt(P:Program)(t:TypeId):Bool:=match P.underlying t with | some (.int _)=>true | _=>false
def gK(P:Program)(g:dk)(r:Ref)(t t':Option TypeId)(s x:AV):gz :=
 match t.bind (dY P) with
 | none=>none
 | some e =>
  if (t'.bind P.underlying).isNone∨(t'.map (isInt P)).getD false≠isNum x then none else
  match aU P e,lA P e,eG P e,mq P g e x with
  | some z,some by',some zz,some (ez,new) =>
   if ez≠z∨z=0∨by'=0∨zz.cells.length≠z then none else
   match s with
   | .v (.slice none 0 0)=>if new=[] then some (s,[]) else if new.length * by'≤cg then some (.cM r 0 new.length none,[⟨z,new,true,false⟩]) else none
   | .cw n es cap=>if n≠z then none else if new=[] then some (s,[]) else
    match cap with
    | some k=>if k<es.length+new.length∧(es.length+new.length) * by'≤cg then some (.cM r 0 (es.length+new.length) none,[⟨z,es++new,true,false⟩]) else none
    | none=>none
   | .cM r' off len cap=>(match g r' with
    | some b=>if b.esz≠z∨b.arr=false then none else if new=[] then some (s,[]) else
     (match cap with
     | some k=>if off+len≤b.es.length∧k<len+new.length∧(len+new.length) * by'≤cg then
      some (.cM r 0 (len+new.length) none,[⟨z,(b.es.drop off).take len++new,true,false⟩]) else none
     | none=>none)
    | none=>none)
   | _=>none
  | _,_,_,_=>none
def S4(P:Program)(t:Option TypeId)(x:AV):gz :=
 match t.bind (dY P),x with
 | some _,.v (.slice none 0 0)=>some (.v (.int .i64 0),[])
 | some _,.cw _ _ (some k)=>some (.v (.int .i64 k),[])
 | some _,.cM _ _ _ (some k)=>some (.v (.int .i64 k),[])
 | _,_=>none
def aJ(P:Program)(draw:Bool)(g:dk)(r:Ref)(b:Builtin)(ts:Array TypeId)(args:List AV):gz :=
 match b,args with
 | .len,[.mp r']=>if draw then none else re P g ts[0]? r'
 | .len,[x]=>DD P ts[0]? x
 | .min,args=>cF (Fz Builtin.min2 P args)
 | .max,args=>cF (Fz Builtin.max2 P args)
 | .append,[s,x]=>gK P g r ts[0]? ts[1]? s x
 | .cap,[x]=>S4 P ts[0]? x
 | _,_=>none
def vn(b:Bool)(bs:List bN):List bN:=if b then bs.map (fun k => { k with jb:=true}) else bs
def cB(E:Env)(pc:FuncId→List AV→Option AV)(draw:Bool)(g:dk)(tm:List AV)(r:Ref)(o:Oper):gz :=
 match o.op with
 | .move x | .assign x=>cF (aZ tm x)
 | .pick c a b=>B4 (aZ tm) c a b
 | .alloc e=>bY E.P r e
 | .box e x=>cD E.P r e (aZ tm x)
 | .build t ps=>cK E.P t (ga tm ps.toList)
 | .buildSlice t n ps=>fG E.P (draw && !E.strict o) g r t n (ga tm ps.toList)
 | .load t a=>aj E.P g t (aZ tm a)
 | .nilCheck x=>jX (aZ tm x)
 | .binOp op t xo yo _=>aE E.P op t xo yo (aZ tm xo) (aZ tm yo)
 | .unOp op _ x=>wM E.P op (aZ tm x)
 | .convert src dst x=>cW E.P g r src dst (aZ tm x)
 | .makeInterface t x=>oL E.P t (aZ tm x)
 | .makeFunc f first captured=>sG f (first.toList.mapM (aZ tm)) (captured.toList.mapM (aZ tm))
 | .makeSlice t l c=>u4 E.P r t (aZ tm l) (aZ tm c)
 | .makeMap _ none=>some (.mp r,[bw []])
 | .lookup t x k ok=>da E.P g t (aZ tm x) (aZ tm k) ok
 | .slice t x lo hi mx=>cond (E.wide o && !draw) (ra E.P g t (aZ tm x) (jH tm lo) (jH tm hi) (jH tm mx)) (eQ E.P g t (aZ tm x) (jH tm lo) (jH tm hi) (jH tm mx))
 | .fieldAddr t x f=>aa E.P t (aZ tm x) f
 | .field t x f=>lC E.P t (aZ tm x) f
 | .indexAddr t x ix=>aM E.P g t (aZ tm x) (aZ tm ix)
 | .index t x ix=>nL E.P t (aZ tm x) (aZ tm ix)
 | .typeAssert x _ want ok=>o3 E.P (aZ tm x) want ok
 | .extract x i=>aF (aZ tm x) i
 | .call c =>
  match c.args.toList.mapM (aZ tm) with
  | none=>none
  | some args =>
   match c.callee with
   | .value f=>(match AB E.pP draw f with
    | some t=>G0 E.P g t args
    | none=>(ik E pc g r (aZ tm f) args).map fun p=>(p.1,vn (E.jb o) p.2))
   | .invoke _ _=>none
   | .builtin b=>aJ E.P (draw&&(E.strict o || !(match c.args.toList with | [.tmp _]=>true | _=>false))) g r b c.argTypes args
 | _=>none
def keyed(r:Ref):Nat→List bN→ab→ab
 | _,[],g=>g
 | k,b :: bs,g=>keyed r (k+1) bs (({ r with k:=k},some b) :: g)
abbrev dz:=Option (AV × ab)
def aT(P:Program)(H:ab)(t:TypeId)(a x:Option AV):dz :=
 match a,x,aU P t with
 | some (.ptr r' i j),some x,some n =>
  match H.get r' with
  | some b =>
   if x.cells.length=n∧x.cells.all AV.one∧b.jb=false then
    (if b.arr=true then
     match view H.get depth x with
     | some y=>if r'∈aH H.get depth x then none else if y.cells.all AV.one=true then (fb b.es i j y.cells).map fun es=>(AV.undef,(cq H (aH H.get depth x)).put r' (some { b with es})) else none
     | none=>none
    else (fb b.es i j x.cells).map fun es=>(AV.undef,H.put r' (some { b with es})))
   else none
  | none=>none
 | _,_,_=>none
def ig(P:Program)(H:ab)(r:Ref)(t:TypeId)(n:Nat)(vs:Option (List (Nat × AV))):dz :=
 match vs with
 | none=>none
 | some vs=>(mkSlice P H.get t n vs).map fun b=>(.cM r 0 n (some n),(r,some b) :: cq H (ck H.get (vs.map (·.2))))
def kJ(E:Env)(pc:FuncId→List AV→Option AV)(tc:sn→List AV→ab→dz)(H:ab)(r:Ref)(f:Option AV)(args:List AV):dz :=
 match f with
 | some (.fn (.func g) first captured) =>
  if E.mode g=2 then tc (.fn g) (first++args++captured) H else
  match (first++args++captured).mapM (view H.get depth) with
  | some xs=>(pc g xs).map fun y=>((aN r depth y []).1,keyed r 0 (aN r depth y []).2 (cq H (ck H.get (first++args++captured))))
  | none=>none
 | some (.yld q)=>tc (.yld q) args H
 | _=>none
def m3(b:Bool)(sm:IB)(H:ab)(x:dz):dz:=match b,x with
 | true,some (y,H')=>if flat depth y&&(CB H H'||sm.f H H') then some (y,H) else none
 | _,x=>x
def kn(P:Program)(H:ab)(t t':Option TypeId)(s x:AV):dz :=
 match t.bind (dY P) with
 | none=>none
 | some e =>
  if (t'.bind P.underlying).isNone∨(t'.map (isInt P)).getD false≠isNum x then none else
  match aU P e,lA P e,eG P e,mq P H.get e x with
  | some z,some by',some zz,some (ez,new) =>
   if ez≠z∨z=0∨by'=0∨new=[]∨zz.cells.length≠z then none else
   match s with
   | .cM r' off len none=>(match H.get r' with
    | some b=>if off=0∧b.arr=true∧b.esz=z∧len=b.es.length∧(len+new.length) * by'≤cg then
     some (.cM ⟨r'.d,r'.t,H.gen r'.d r'.t,0⟩ 0 (len+new.length) none,(⟨r'.d,r'.t,H.gen r'.d r'.t,0⟩,some ⟨z,b.es++new,true,b.jb⟩) :: H.put r' none) else none
    | none=>none)
   | _=>none
  | _,_,_,_=>none
def Gk(P:Program)(H:ab)(t:Option TypeId)(dst x:AV):dz :=
 match t.bind (dY P) with
 | none=>none
 | some e=>match aU P e with
  | none=>none
  | some z=>match (if mo x then some (z,[]) else cT H.get x) with
   | none=>none
   | some (ez,src)=>if ez≠z∨z=0 then none else
    match dst with
    | .v (.slice none 0 0)=>some (.v (.int .i64 0),H)
    | .cM r' off len _=>(match H.get r' with
     | some b =>
      if b.arr=true∧b.esz=z∧b.jb=false∧off+len≤b.es.length then
       some (.v (.int .i64 (Nat.min src.length len:Nat)),H.put r' (some { b with es:=b.es.take off++src.take (Nat.min src.length len)++b.es.drop (off+Nat.min src.length len)})) else none
     | none=>none)
    | _=>none
def Bv(P:Program)(H:ab)(t:Option TypeId)(dst x:AV):dz :=
 match (t.bind (dY P)).bind (aU P),dst,x with
 | some z,.cM r off len _,.cM r2 off2 uK _=>(match H.get r,H.get r2 with
  | some b,some b2 =>
   if b.arr=true∧b2.arr=true∧b.esz=z∧b2.esz=z∧0<z∧b.jb=false∧off≤b.es.length∧off2+Nat.min uK len≤b2.es.length then
    some (.v (.int .i64 (Nat.min uK len:Nat)),H.put r (some { b with es:=b.es.take off++(b2.es.drop off2).take (Nat.min uK len)++b.es.drop (off+Nat.min uK len)})) else none
  | _,_=>none)
 | _,_,_=>none
def dO(P:Program)(H:ab)(t:TypeId)(m k x:Option AV):dz :=
 match Dy P t,m,k,x with
 | some (kt,_),some (.mp r),some k,some x=>(match fP k,hJ H.get r with
  | some kv,some ents=>(match ents.mapM vt with
   | some ks=>(match tB P false kt kv ks with
    | some (some i)=>if ((ks[i]?).map fun k0=>Instr.sameBits 10000 k0 kv)=some true then some (AV.undef,H.put r (some (bw (ents.set i (.tup [k,x]))))) else none
    | some none=>some (AV.undef,H.put r (some (bw (ents++[.tup [k,x]]))))
    | none=>none)
   | none=>none)
  | _,_=>none)
 | _,_,_,_=>none
def eF(P:Program)(H:ab)(t:TypeId)(m k:Option AV):dz :=
 match Dy P t,m,k with
 | some (kt,et),some (.mp r),some k=>(match fP k,hJ H.get r with
  | some kv,some ents=>(match ents.mapM vt with
   | some ks=>(match tB P false kt kv ks with
    | some (some i)=>if ((ks[i]?).map fun k0=>Instr.sameBits 10000 k0 kv)=some true then (ents[i]?.bind CQ).map fun v=>(.tup [v,.v (.int .i64 i)],H.put r (some (bw (ents.set i (.tup [k,v]))))) else none
    | some none=>(eG P et).map fun z=>(.tup [z,.v (.int .i64 ents.length)],H.put r (some (bw (ents++[.tup [k,z]]))))
    | none=>none)
   | none=>none)
  | _,_=>none)
 | _,_,_=>none
def dn(H:ab)(m s x:Option AV):dz :=
 match m,s,x with
 | some (.mp r),some (.v (.int _ n)),some x=>(match hJ H.get r with
  | some ents=>if 0≤n then (match ents[n.toNat]? with
   | some (.tup [k,_])=>some (AV.undef,H.put r (some (bw (ents.set n.toNat (.tup [k,x])))))
   | _=>none) else none
  | none=>none)
 | _,_,_=>none
def oF(P:Program)(H:ab)(r:Ref)(t:TypeId)(n:Option AV):dz :=
 match n,(BP P t).bind (lA P) with
 | some (.v (.int _ n)),some b=>if 0≤n∧n≤1000000∧b≤1000000 then some (.ch r,keyed r 0 [gG n.toNat false []] H) else none
 | _,_=>none
def wF(H:ab)(c x:Option AV):dz :=
 match c,x with
 | some (.ch r),some x=>(match JW H.get r with
  | some (cap,false,buf)=>if buf.length<cap∧flat depth x=true then some (AV.undef,H.put r (some (gG cap false (buf++[x])))) else none
  | _=>none)
 | _,_=>none
def TP(ok:Bool)(x:AV)(b:Bool):AV:=if ok then .tup [x,.v (.bool b)] else x
def ue(P:Program)(H:ab)(t:TypeId)(c:Option AV)(ok:Bool):dz :=
 match c,(BP P t).bind (eG P) with
 | some (.ch r),some z=>(match JW H.get r with
  | some (cap,cl,x :: buf)=>some (TP ok x true,H.put r (some (gG cap cl buf)))
  | some (_,true,[])=>some (TP ok z false,H)
  | _=>none)
 | _,_=>none
def KS:Op→Bool
 | .send .. | .recv .. => true
 | _=>false
def evalW(E:Env)(pc:FuncId→List AV→Option AV)(tc:sn→List AV→ab→dz)(H:ab)(tm:List AV)(r:Ref)(o:Oper):dz :=
 match o.op with
 | .store t a x=>aT E.P H t (aZ tm a) (aZ tm x)
 | .mapUpdate t m k x | .insert t m k x=>dO E.P H t (aZ tm m) (aZ tm k) (aZ tm x)
 | .mapEntry t m k=>eF E.P H t (aZ tm m) (aZ tm k)
 | .entryStore _ m s x=>dn H (aZ tm m) (aZ tm s) (aZ tm x)
 | .buildSlice t n ps=>ig E.P H r t n (ga tm ps.toList)
 | .makeChan t n=>oF E.P H r t (aZ tm n)
 | .send c x=>wF H (aZ tm c) (aZ tm x)
 | .recv t c ok=>ue E.P H t (aZ tm c) ok
 | .call c =>
  match c.args.toList.mapM (aZ tm) with
  | none=>none
  | some args =>
   match c.callee with
   | .value f=>m3 (E.jb o) E.sm H (kJ E pc tc H r (aZ tm f) args)
   | .invoke _ _=>none
   | .builtin b =>
    match b,args with
    | .append,[s,x]=>kn E.P H c.argTypes[0]? c.argTypes[1]? s x
    | .copy,[dst,x]=>cond (E.wide o) (Bv E.P H c.argTypes[0]? dst x) (Gk E.P H c.argTypes[0]? dst x)
    | _,_=>none
 | _=>none
def wanted(ops:Array Oper)(tm:List AV)(o:Oper):Option Bool :=
 match o.guard with
 | none=>some true
 | some (j,want) =>
  match (ops[j]?).bind (·.dst) with
  | some t=>(match cU tm t with
   | .v (.bool b)=>some (b == want)
   | .v (.tuple vs)=>if vs.isEmpty then some false else none
   | _=>none)
  | none=>some false
def Sz(E:Env):Op→Bool
 | .store .. | .mapUpdate .. | .insert .. | .mapEntry .. | .entryStore .. => true
 | .call c=>match c.callee with
  | .builtin .append | .builtin .copy=>true
  | .value (.func g)=>E.mode g == 2
  | .value (.tmp _)=>true
  | _=>false
 | _=>false
def wE:Op→Bool
 | .buildSlice .. => true
 | _=>false
def gB(E:Env)(o:Oper):Bool:=(!E.strict o&&Sz E o.op)||(E.jb o&&wE o.op)
def dq(nt:Nat)(tm:List AV)(dst:Option Tmp)(x:AV):Option (List AV) :=
 match dst with
 | none=>some tm
 | some d=>if d<nt then some (tn tm d x) else none
def evalOp(E:Env)(pc:FuncId→List AV→Option AV)(tc:sn→List AV→ab→dz)(nt dep:Nat)(draw:Bool)(ops:Array Oper)(o:Oper)(st:St):Option St :=
 match wanted ops st.tm o with
 | none=>none
 | some false=>(dq nt st.tm o.dst AV.undef).map fun tm => { st with tm}
 | some true =>
  match cB E pc draw st.hp.get st.tm ⟨dep,o.dst.getD 0,st.hp.gen dep (o.dst.getD 0),0⟩ o with
  | some (x,bs)=>(dq nt st.tm o.dst x).map fun tm=>⟨tm,keyed ⟨dep,o.dst.getD 0,st.hp.gen dep (o.dst.getD 0),0⟩ 0 bs st.hp⟩
  | none =>
   if draw && !gB E o then none else
   match evalW E pc tc st.hp st.tm ⟨dep,o.dst.getD 0,st.hp.gen dep (o.dst.getD 0),0⟩ o with
   | some (x,H)=>(dq nt st.tm o.dst x).map fun tm=>⟨tm,H⟩
   | none=>none
def kY(E:Env)(pc:FuncId→List AV→Option AV)(tc:sn→List AV→ab→dz)(nt dep:Nat)(draw:Bool)(ops:Array Oper):List Oper→St→Option St
 | [],st=>some st
 | o :: rest,st=>match evalOp E pc tc nt dep draw ops o st with
  | some st'=>kY E pc tc nt dep draw ops rest st'
  | none=>none
def iA(P:Program)(st:St):ResultVar→Option AV
 | .tmp t=>some (cU st.tm t)
 | .cell a t=>match cU st.tm a,dD P t,aU P t with
  | .ptr r i j,some g,some n=>match st.hp.get r with
   | some b=>eL b.es i j n g
   | none=>none
  | _,_,_=>none
def qm(P:Program)(fn:Func)(st:St):Option AV :=
 match fn.results.toList.mapM (iA P st) with
 | some []=>some (.v (.tuple #[]))
 | some [x]=>some x
 | some xs=>some (.tup xs)
 | none=>none
def codeOk(ok:Array Oper→Bool):Code→Bool
 | .region _ ops draw => !draw||ok ops
 | .seq a b | .cond _ a b=>codeOk ok a&&codeOk ok b
 | .block _ c | .loop c | .scope c=>codeOk ok c
 | .rangeFunc _ _ a b=>codeOk ok a&&codeOk ok b
 | _=>true
def k5(ok:Array Oper→Bool):Item→Bool
 | .code c | .inLoop c=>codeOk ok c
 | _=>true
def qA(E:Env)(run:Option Ref→Nat→Nat→List Item→St→Option St)(dep:Nat)(f:FuncId)(args:List AV)(H:ab):Option (AV × ab) :=
 if E.allowed f then
  match E.P.funcs[f]? with
  | some fn=>match fn.body with
   | some c=>if args.length≤fn.ntmps then
    match run none fn.ntmps dep [.code c] ⟨args,H⟩ with
    | some st=>(qm E.P fn st).map (·,st.hp)
    | none=>none
    else none
   | none=>none
  | none=>none
 else none
def dN(g:dk):Nat→AV→Option AV
 | 0,_=>none
 | n+1,x =>
  match x with
  | .agg cs=>(cs.mapM (dN g n)).map .agg
  | .tup cs=>(cs.mapM (dN g n)).map .tup
  | .ifc t x=>(dN g n x).map (.ifc t)
  | .cM r 0 len cap =>
   match g r with
   | some b=>if b.arr=true∧len≤b.es.length then some (if b.jb then .cw b.esz (b.es.take len) cap else .fsl b.esz (b.es.take len) cap) else none
   | none=>none
  | .mp r =>
   match hJ g r with
   | some ents=>if ents.all (flat depth) then some (.fsl 0 (.v (.bool true) :: ents) none) else none
   | none=>none
  | x=>view g (n+1) x
def dv(E:Env)(run:Option Ref→Nat→Nat→List Item→St→Option St)(f:FuncId)(args:List AV):Option AV :=
 match E.spec f args with
 | some y=>some y
 | none=>match qA E run 0 f args [] with
  | some (x,H)=>if vj (E.mode f)=true then (if (aH H.get depth x).Nodup then dN H.get depth x else none) else view H.get depth x
  | none=>none
def iC(st:Nat)(inf:AV):bN:=⟨0,[.v (.int .i64 st),inf],false,false⟩
def tE(H:ab)(r:Ref):Option (Nat × AV):=match H.get r with
 | some ⟨0,[.v (.int .i64 st),inf],_,_⟩=>some (st.toNat,inf)
 | _=>none
def rW(tm:List AV):List Tmp→List AV→List AV
 | t :: ts,x :: xs=>rW (tn tm t x) ts xs
 | _,_=>tm
def wg(E:Env)(run:Option Ref→Nat→Nat→List Item→St→Option St)(dep:Nat)(r:Ref)(args:List AV)(H:ab):Option (AV × ab) :=
 match tE H r with
 | some (0,.lp f nt ps assign body tm) =>
  if args.length=ps.length∧ps.all (· < nt)=true∧codeOk E.ok assign=true∧codeOk E.ok body=true then
   (match run (some r) nt dep [.code assign,.beginRound,.code body] ⟨rW tm ps args,H⟩ with
   | some st=>(match tE st.hp r with
    | some (0,_)=>some (.v (.bool true),st.hp)
    | some (n+2,_)=>some (.v (.bool false),st.hp)
    | _=>none)
   | none=>none)
  else none
 | _=>none
def eH(E:Env)(run:Option Ref→Nat→Nat→List Item→St→Option St)(dep:Nat)(t:sn)(args:List AV)(H:ab):Option (AV × ab) :=
 match t with
 | .fn f=>(match E.thrSpec f args H with
  | some z=>some z
  | none=>if E.mode f=2 then qA E run (dep+1) f args H else none)
 | .yld r=>wg E run (dep+1) r args H
def r8(rd:Option Ref)(st:St)(n:Nat):Option St:=match rd with
 | none=>if n=2 then some st else none
 | some r=>match tE st.hp r with
  | some (1,inf)=>some { st with hp:=st.hp.put r (some (iC n inf))}
  | _=>none
def oc(E:Env)(ops:Array Oper):List (Tmp × Tmp):=E.apart ops
def gJ:AV→Option Ref
 | .ptr r _ _=>some r
 | .cM r _ _ _=>some r
 | .mp r=>some r
 | .ch r=>some r
 | _=>none
def Az(tm:List AV)(p:Tmp × Tmp):Bool:=match gJ (cU tm p.1),gJ (cU tm p.2) with
 | some r,some r'=>decide (r≠r')
 | _,_=>true
def sC(st:St)(o:Oper):Bool:=match o.op with
 | .store _ (.tmp t) _=>(match cU st.tm t with
  | .ptr r _ _=>(match st.hp.get r with
   | some b => !b.arr
   | none=>false)
  | _=>true)
 | _=>true
def Sv:Op→Option Tmp
 | .buildSlice _ _ ps=>(match ps.toList with
  | [(_,.tmp t)]=>some t
  | _=>none)
 | _=>none
def C8(E:Env)(st:St)(o:Oper):Bool := !(E.jb o&&wE o.op)||(match Sv o.op with
 | some t=>(match cU st.tm t with
  | .cM .. => true
  | .v _=>true
  | _=>false)
 | none=>false)
def o6(E:Env)(ops:Array Oper)(st:St):Bool:=(oc E ops).isEmpty||((oc E ops).all (Az st.tm)&&(ops.toList.all (sC st)&&ops.toList.all (C8 E st)))
def ct(E:Env):Nat→(rd:Option Ref)→(nt dep:Nat)→List Item→St→Option St
 | 0,_,_,_,_,_=>none
 | n+1,rd,nt,dep,items,st =>
  match items with
  | []=>(match rd with
   | none=>some st
   | some _=>r8 rd st 0)
  | .beginRound :: k=>(match rd with
   | none=>none
   | some r=>match tE st.hp r with
    | some (0,inf)=>ct E n rd nt dep k { st with hp:=st.hp.put r (some (iC 1 inf))}
    | _=>none)
  | .code c :: k =>
   (match c with
   | .skip | .label _=>ct E n rd nt dep k st
   | .ret=>r8 rd st 2
   | .seq a b=>ct E n rd nt dep (.code a :: .code b :: k) st
   | .cond c a b =>
    (match (aZ st.tm c).bind Am with
    | some true=>ct E n rd nt dep (.code a :: k) st
    | some false=>ct E n rd nt dep (.code b :: k) st
    | none=>none)
   | .block id b=>ct E n rd nt dep (.code b :: .inBlock id :: k) st
   | .scope b=>ct E n rd nt dep (.code b :: .inScope b :: k) st
   | .loop b=>ct E n rd nt dep (.code b :: .inLoop b :: k) st
   | .exit id=>(match exitTo id k with
    | some k'=>ct E n rd nt dep k' st
    | none=>if rd.isSome then r8 rd st (id+3) else none)
   | .region _ ops draw=>(match kY E (dv E (ct E n)) (eH E (ct E n) dep) nt dep draw ops ops.toList st with
    | some st'=>if draw && !o6 E ops st' then none else ct E n rd nt dep k st'
    | none=>none)
   | .rangeFunc g ps assign body=>(match rd,aZ st.tm g with
    | none,some (.fn (.func gi) first captured) =>
     (match eH E (ct E n) dep (.fn gi) (first++[.yld ⟨dep,nt,st.hp.gen dep nt,0⟩]++captured)
      ((⟨dep,nt,st.hp.gen dep nt,0⟩,some (iC 0 (.lp 0 nt ps.toList assign body st.tm))) :: st.hp) with
     | some (_,H')=>(match tE H' ⟨dep,nt,st.hp.gen dep nt,0⟩ with
      | some (0,_)=>ct E n rd nt dep k ⟨st.tm,H'.put ⟨dep,nt,st.hp.gen dep nt,0⟩ none⟩
      | some (2,_)=>some ⟨st.tm,H'.put ⟨dep,nt,st.hp.gen dep nt,0⟩ none⟩
      | some (id+3,_)=>(match exitTo id k with
       | some k'=>ct E n rd nt dep k' ⟨st.tm,H'.put ⟨dep,nt,st.hp.gen dep nt,0⟩ none⟩
       | none=>none)
      | _=>none)
     | none=>none)
    | _,_=>none)
   | _=>none)
  | .inLoop b :: k=>ct E n rd nt dep (.code b :: .inLoop b :: k) st
  | .inBlock _ :: k | .inScope _ :: k=>ct E n rd nt dep k st
  | _=>none
def ep(o:Oper):List Nat:=(o.after.toList.filter (Region.binds .any)).map (·.on)
def xy(acc:List Nat):List Nat→Nat
 | []=>0
 | j :: js=>(2 ^ j ||| acc.getD j 0) ||| xy acc js
def dy:List Oper→List Nat→List Nat
 | [],acc=>acc
 | o :: os,acc=>dy os (acc++[xy acc (ep o)])
def Jx(c:Call):Bool:=match c.args.toList with
 | [.tmp _]=>true
 | _=>false
def ib:Op→Bool
 | .move _ | .assign _ | .pick .. | .binOp .. | .unOp .. | .makeInterface .. | .makeFunc .. | .fieldAddr .. | .field .. | .index .. | .typeAssert .. | .extract .. | .nilCheck _ | .build .. => false
 | .call c=>match c.callee with
  | .builtin .len=>Jx c
  | .builtin .min | .builtin .max=>false
  | _=>true
 | _=>true
def Hy:Op→Bool
 | .call c=>(match c.callee with
  | .builtin .len=>true
  | _=>false)
 | _=>false
def so(E:Env)(o:Oper):Bool:=ib o.op && !(E.strict o&&Hy o.op)
def gl(ops:Array Oper)(i:Nat):Option Tmp:=(ops[i]?).bind (·.dst)
def lk(E:Env)(ops:Array Oper)(i:Nat):Bool:=(List.range (i+1)).any fun j=>match ops[j]? with
 | some o=>gB E o
 | none=>false
def s7(ops:Array Oper)(A:List Nat)(oi oj:Oper)(i j:Nat):Bool :=
 (oj.dst.isNone||oi.dst != oj.dst) &&
 (match oj.dst with | some d => !(oi.looksAt ops).contains d||(A.getD i 0).testBit j | none=>true) &&
 (match oi.dst with | some d => !(oj.looksAt ops).contains d||(A.getD i 0).testBit j | none=>true)
def Ji(E:Env)(ops:Array Oper)(A:List Nat)(oi oj:Oper)(i j:Nat):Bool :=
 s7 ops A oi oj i j &&
 (!(so E oi&&so E oj&&lk E ops i)||(A.getD i 0).testBit j)
def yw(E:Env)(ops:Array Oper):Bool :=
 (List.range ops.size).all fun i=>match ops[i]? with
  | some oi=>(ep oi).all (· < i)&&(!so E oi||gB E oi||oi.dst.isSome) &&
   (List.range i).all fun j=>match ops[j]? with
    | some oj=>Ji E ops (dy ops.toList []) oi oj i j
    | none=>true
  | none=>true
def wT(P:Program):Op→Option Tmp
 | .load _ (.tmp t)=>some t
 | .indexAddr _ (.tmp t) _=>some t
 | .slice _ (.tmp t) _ _ _=>some t
 | .convert _ dst (.tmp t)=>if eR P dst then none else some t
 | .lookup _ (.tmp t) _ _=>some t
 | .call c=>match c.callee with
  | .builtin .len=>(match c.args.toList with
   | [.tmp t]=>some t
   | _=>none)
  | _=>none
 | _=>none
def storeT:Op→Option Tmp
 | .store _ (.tmp t) _=>some t
 | _=>none
def Dd:Op→Option Tmp
 | .call c=>match c.callee with
  | .builtin .append=>(match c.args.toList with
   | .tmp t :: _=>some t
   | _=>none)
  | _=>none
 | _=>none
def LR:Op→Option Tmp
 | .mapUpdate _ (.tmp t) _ _=>some t
 | .insert _ (.tmp t) _ _=>some t
 | .mapEntry _ (.tmp t) _=>some t
 | .entryStore _ (.tmp t) _ _=>some t
 | _=>none
def BL(o:Op):Option Tmp:=match LR o with
 | some t=>some t
 | none=>Dd o
def mS(E:Env)(o:Oper):Bool:=E.jb o && !E.strict o&&(match o.op with
 | .call c=>(match c.callee with
  | .value (.func g)=>E.mode g == 2
  | _=>false)
 | _=>false)
def cls(E:Env)(o:Oper):Nat :=
 if so E o then (if (storeT o.op).isSome then 2 else if (wT E.P o.op).isSome then 1 else if gB E o then 4 else 3) else 0
def jY(E:Env)(o:Oper):Option Tmp:=match storeT o.op with
 | some t=>some t
 | none=>match wT E.P o.op with
  | some t=>some t
  | none=>if wE o.op then Sv o.op else BL o.op
def settled(E:Env)(ops:Array Oper)(oi oj:Oper):Bool:=match jY E oi,jY E oj with
 | some a,some b=>(oc E ops).contains (a,b)||(oc E ops).contains (b,a)
 | _,_=>false
def blind(E:Env)(o:Oper):Bool:=cls E o == 3&&(match o.op with
 | .alloc _ | .makeMap _ none=>true
 | .call c=>c.args.toList.isEmpty&&(match c.callee with
  | .value (.func _)=>true
  | _=>false)
 | _=>false)
def JH(E:Env)(o:Oper):Bool:=cls E o == 3&&(match o.op with
 | .alloc _ | .makeMap _ none=>true
 | _=>false)
def lT(E:Env)(oi oj:Oper):Bool:=JH E oi&&((Dd oj.op).isSome&&oj.dst.isSome)
def m5(E:Env)(oi oj:Oper):Bool:=(cls E oi == 2&&Nat.ble 3 (cls E oj) && !blind E oj)||(cls E oj == 2&&Nat.ble 3 (cls E oi) && !blind E oi)||(Nat.ble 3 (cls E oi)&&Nat.ble 3 (cls E oj)&&(cls E oi == 4||cls E oj == 4) && !lT E oi oj && !lT E oj oi)
def yG(ci cj:Nat):Bool:=(ci == 2&&(cj == 1||cj == 2))||(cj == 2&&ci == 1)||(ci == 1&&cj == 4)||(ci == 4&&cj == 1)
def Jv(E:Env)(ops:Array Oper)(A:List Nat)(oi oj:Oper)(i j:Nat):Bool :=
 s7 ops A oi oj i j &&
 (!m5 E oi oj||(A.getD i 0).testBit j) &&
 (!yG (cls E oi) (cls E oj)||mS E oi||mS E oj||(A.getD i 0).testBit j||settled E ops oi oj)
def IW(ops:Array Oper)(i:Nat)(t:Option Tmp):Bool:=match t with
 | some t=>(List.range ops.size).all fun k=>gl ops k != some t||decide (k<i)
 | none=>false
def Ky(E:Env)(ops:Array Oper)(i:Nat)(o:Oper):Bool:=match cls E o with
 | 0=>true
 | 3=>o.dst.isSome
 | _=>mS E o||IW ops i (jY E o)
def Og(E:Env)(ops:Array Oper):Bool := !(oc E ops).isEmpty &&
 (List.range ops.size).all fun i=>match ops[i]? with
  | some oi=>(ep oi).all (· < i)&&Ky E ops i oi &&
   (List.range i).all fun j=>match ops[j]? with
    | some oj=>Jv E ops (dy ops.toList []) oi oj i j
    | none=>true
  | none=>true
def Ad(E:Env)(ops:Array Oper):Bool:=yw E ops||Og E ops
end Go.Ab
namespace Go.Ab
theorem lD{α:Type}{P:Program}{s:Sem α} : ∀ {a:α},bz P s=some a →∀w,s.run P w = .ok a w:=by
 induction s with
 | pure a=>intro b h w;simp[bz]at h;subst h;rfl
 | program k ih=>intro a h w;exact ih P h w
 | mark m k ih=>intro a h w;exact ih h w
 | _=>intro a h;simp[bz]at h
theorem gY{α β:Type}{f:α→Option β} : ∀ {l:List α} {l':List β},l.mapM f=some l'→l'.length=l.length:=by
 intro l
 induction l with
 | nil=>intro l' h;simp at h;subst h;rfl
 | cons a l ih =>
  intro l' h
  simp only[List.mapM_cons,Option.pure_def,Option.bind_eq_bind,Option.bind_eq_some_iff]at h
  obtain⟨b,_,bs,hbs,hh⟩:=h
  simp at hh
  subst hh
  simp[ih hbs]
theorem nM{α β:Type}{f:α→Option β} : ∀ {l:List α} {l':List β},l.mapM f=some l' →∀(i:Nat)(y:β),l'[i]?=some y →∃x,l[i]?=some x∧f x=some y:=by
 intro l
 induction l with
 | nil=>intro l' h i y hy;simp at h;subst h;simp at hy
 | cons a l ih =>
  intro l' h i y hy
  simp only[List.mapM_cons,Option.pure_def,Option.bind_eq_bind,Option.bind_eq_some_iff]at h
  obtain⟨b,hb,bs,hbs,hh⟩:=h
  simp at hh
  subst hh
  cases i with
  | zero=>simp at hy;subst hy;exact⟨a,rfl,hb⟩
  | succ i=>simp at hy;simpa using ih hbs i y hy
theorem gZ{α β:Type}{f:α→Option β}{l:List α}{l':List β}(h:l.mapM f=some l')(i:Nat)(x:α)(hx:l[i]?=some x) : ∃y,l'[i]?=some y∧f x=some y:=by
 have hl:=gY h
 have hi:i<l'.length:=by rw[hl];exact(List.getElem?_eq_some_iff.1 hx).1
 obtain⟨x',hx',hf⟩:=nM h i l'[i] (List.getElem?_eq_getElem hi)
 rw[hx]at hx'
 cases hx'
 exact⟨_,List.getElem?_eq_getElem hi,hf⟩
abbrev Mem:=Nat→Nat→Option Value
structure Loc where
 b:Nat
 esz:Nat
 n:Nat
abbrev Map:=Ref→Option Loc
def ed:Map:=fun _=>none
inductive VR (M:Mem):Map→AV→Value→Prop
 | v {ι x} (h:scalar x=true):VR M ι (.v x) x
 | agg {ι cs vs} (hl:cs.length=vs.size) (h : ∀(i:Nat) c u,cs[i]?=some c→vs[i]?=some u→VR M ι c u):VR M ι (.agg cs) (.agg vs)
 | tup {ι cs vs} (h0:cs≠[]) (hl:cs.length=vs.size) (h : ∀(i:Nat) c u,cs[i]?=some c→vs[i]?=some u→VR M ι c u):VR M ι (.tup cs) (.tuple vs)
 | cw {ι esz es cap a c} (cell:Nat→Nat→Value) (hs:a.spot=none∨es=[]) (hc:es.length≤c) (hk : ∀k,cap=some k→c=k)
  (hm : ∀i j,i<es.length→j<esz→M a.block (a.off+(i * esz+j))=some (cell i j)∧(cell i j).oneCell'=true)
  (he : ∀e∈es,e.cells.length=esz)
  (h : ∀(i j:Nat) e x,es[i]?=some e→e.cells[j]?=some x→VR M ed x (cell i j)):VR M ι (.cw esz es cap) (.slice (some a) es.length c)
 | cM {ι r off len cap l a c} (hr:ι r=some l) (hb:a.block=l.b) (hs:a.spot=none) (ha:c=0∨a.off=off * l.esz) (hc:len≤c) (hn:c=0∨off+c≤l.n)
  (hk : ∀k,cap=some k→c=k) (hz:0<l.esz):VR M ι (.cM r off len cap) (.slice (some a) len c)
 | ptr {ι r i j l} (hr:ι r=some l) (hz:0<l.esz):VR M ι (.ptr r i j) (.pointer (some ⟨l.b,i * l.esz+j,none⟩))
 | iptr {ι esz es i j b o} (cell:Nat→Nat→Value)
  (hm : ∀i j,i<es.length→j<esz→M b (o+(i * esz+j))=some (cell i j)∧(cell i j).oneCell'=true)
  (he : ∀e∈es,e.cells.length=esz)
  (h : ∀(i j:Nat) e x,es[i]?=some e→e.cells[j]?=some x→VR M ed x (cell i j)):VR M ι (.iptr esz es i j) (.pointer (some ⟨b,o+(i * esz+j),none⟩))
 | fn {ι f a b a' b'} (ha:a.length=a'.size) (hb:b.length=b'.size) (h : ∀(i:Nat) c u,a[i]?=some c→a'[i]?=some u→VR M ι c u)
  (h' : ∀(i:Nat) c u,b[i]?=some c→b'[i]?=some u→VR M ι c u):VR M ι (.fn f a b) (.func f a' b')
 | ifc {ι t x u} (h:VR M ι x u):VR M ι (.ifc t x) (.iface t u)
 | yld {ι r l} (hr:ι r=some l) (hz:l.esz=0):VR M ι (.yld r) (.func (.yield l.b) #[] #[])
 | mp {ι r l} (hr:ι r=some l) (hz:l.esz=0):VR M ι (.mp r) (.map (some l.b))
 | ch {ι r l} (hr:ι r=some l) (hz:l.esz=0):VR M ι (.ch r) (.chan (some l.b))
theorem VR.mono{M M':Mem}(hM : ∀b o x,M b o=some x→M' b o=some x){ι:Map}{x:AV}{u:Value}(h:VR M ι x u) :
 ∀ι':Map,(∀r l,ι r=some l→ι' r=some l)→VR M' ι' x u:=by
 induction h with
 | v h=>intro ι' _;exact .v h
 | agg hl _ ih=>intro ι' hi;exact .agg hl fun i c u hc hu=>ih i c u hc hu ι' hi
 | tup h0 hl _ ih=>intro ι' hi;exact .tup h0 hl fun i c u hc hu=>ih i c u hc hu ι' hi
 | cw cell hs hc hk hm he _ ih =>
  intro ι' hi
  exact .cw cell hs hc hk (fun i j h1 h2=>⟨hM _ _ _ (hm i j h1 h2).1,(hm i j h1 h2).2⟩) he fun i j e x h1 h2=>ih i j e x h1 h2 ed (fun _ _ h=>h)
 | cM hr hb hs ha hc hn hk hz=>intro ι' hi;exact .cM (hi _ _ hr) hb hs ha hc hn hk hz
 | ptr hr hz=>intro ι' hi;exact .ptr (hi _ _ hr) hz
 | yld hr hz=>intro ι' hi;exact .yld (hi _ _ hr) hz
 | mp hr hz=>intro ι' hi;exact .mp (hi _ _ hr) hz
 | ch hr hz=>intro ι' hi;exact .ch (hi _ _ hr) hz
 | iptr cell hm he _ ih =>
  intro ι' hi
  exact .iptr cell (fun i j h1 h2=>⟨hM _ _ _ (hm i j h1 h2).1,(hm i j h1 h2).2⟩) he fun i j e x h1 h2=>ih i j e x h1 h2 ed (fun _ _ h=>h)
 | fn ha hb _ _ ih ih'=>intro ι' hi;exact .fn ha hb (fun i c u hc hu=>ih i c u hc hu ι' hi) fun i c u hc hu=>ih' i c u hc hu ι' hi
 | ifc _ ih=>intro ι' hi;exact .ifc (ih ι' hi)
theorem VR.up{M:Mem}{x:AV}{u:Value}(h:VR M ed x u)(ι:Map):VR M ι x u:=h.mono (fun _ _ _ h=>h) ι (fun _ _ h=>by cases h)
def jC(M:Mem)(ι:Map)(xs:List AV)(us:List Value):Prop:=xs.length=us.length ∧∀(i:Nat) x u,xs[i]?=some x→us[i]?=some u→VR M ι x u
theorem jC.nil{M:Mem}{ι:Map}:jC M ι [] []:=⟨rfl,fun i x u h=>by simp at h⟩
theorem jC.cons{M:Mem}{ι:Map}{x:AV}{u:Value}{xs:List AV}{us:List Value}(h:VR M ι x u)(hs:jC M ι xs us):jC M ι (x :: xs) (u :: us) :=
 ⟨by simp[hs.1],fun i y v hy hv=>by
  cases i with
  | zero=>simp at hy hv;subst hy;subst hv;exact h
  | succ i=>simp at hy hv;exact hs.2 i y v hy hv⟩
theorem jC.append{M:Mem}{ι:Map}{xs ys:List AV}{us vs:List Value}(h:jC M ι xs us)(h':jC M ι ys vs):jC M ι (xs++ys) (us++vs) :=
 ⟨by simp[h.1,h'.1],fun i y v hy hv=>by
  rcases Nat.lt_or_ge i xs.length with hi | hi
  ·rw[List.getElem?_append_left hi]at hy
   rw[List.getElem?_append_left (h.1 ▸ hi)]at hv
   exact h.2 i y v hy hv
  ·rw[List.getElem?_append_right hi]at hy
   rw[List.getElem?_append_right (h.1 ▸ hi)]at hv
   rw[←h.1]at hv
   exact h'.2 _ y v hy hv⟩
theorem jC.mono{M M':Mem}{ι ι':Map}{xs:List AV}{us:List Value}(h:jC M ι xs us)(hM : ∀b o x,M b o=some x→M' b o=some x)(hι : ∀r l,ι r=some l→ι' r=some l):jC M' ι' xs us :=
 ⟨h.1,fun i x u hx hu=>(h.2 i x u hx hu).mono hM ι' hι⟩
theorem jC.take{M:Mem}{ι:Map}{xs:List AV}{us:List Value}(h:jC M ι xs us)(n:Nat):jC M ι (xs.take n) (us.take n) :=
 ⟨by simp[h.1],fun i x u hx hu=>by
  rw[List.getElem?_take]at hx hu
  split at hx
  ·rename_i hlt;rw[if_pos hlt]at hu;exact h.2 i x u hx hu
  ·cases hx⟩
theorem jC.drop{M:Mem}{ι:Map}{xs:List AV}{us:List Value}(h:jC M ι xs us)(n:Nat):jC M ι (xs.drop n) (us.drop n) :=
 ⟨by simp[h.1],fun i x u hx hu=>by
  rw[List.getElem?_drop]at hx hu
  exact h.2 _ x u hx hu⟩
theorem VR.oe{M:Mem}{ι:Map}{cs:List AV}{vs:Array Value}:VR M ι (.agg cs) (.agg vs)↔jC M ι cs vs.toList :=
 ⟨fun h=>by cases h with | agg hl h=>exact⟨by simpa using hl,fun i x u hx hu=>h i x u hx (by simpa using hu)⟩,
  fun h => .agg (by simpa using h.1) fun i c u hc hu=>h.2 i c u hc (by simpa using hu)⟩
theorem VR.cells{M:Mem}{ι:Map}{x:AV}{u:Value}(h:VR M ι x u):jC M ι x.cells u.cells.toList:=by
 have one : ∀ {x:AV} {u:Value},VR M ι x u→x.cells=[x]→u.cells = #[u]→jC M ι x.cells u.cells.toList:=by
  intro x u h hx hu
  rw[hx,hu]
  exact jC.cons h jC.nil
 cases h with
 | agg hl h=>exact⟨by simpa [AV.cells,Value.cells] using hl,fun i x u hx hu=>h i x u (by simpa [AV.cells] using hx) (by simpa [Value.cells] using hu)⟩
 | v h =>
  refine one (.v h) rfl ?_
  cases u<;>first | rfl | (simp[scalar]at h)
 | tup h0 hl h=>exact one (.tup h0 hl h) rfl rfl
 | cw cell hs hc hk hm he h=>exact one (.cw cell hs hc hk hm he h) rfl rfl
 | cM hr hb hs ha hc hn hk hz=>exact one (.cM hr hb hs ha hc hn hk hz) rfl rfl
 | ptr hr hz=>exact one (.ptr hr hz) rfl rfl
 | yld hr hz=>exact one (.yld hr hz) rfl rfl
 | mp hr hz=>exact one (.mp hr hz) rfl rfl
 | ch hr hz=>exact one (.ch hr hz) rfl rfl
 | iptr cell hm he h=>exact one (.iptr cell hm he h) rfl rfl
 | fn ha hb h h'=>exact one (.fn ha hb h h') rfl rfl
 | ifc h=>exact one (.ifc h) rfl rfl
theorem VR.one{M:Mem}{ι:Map}{x:AV}{u:Value}(h:VR M ι x u)(hx:x.one=true):u.oneCell'=true:=by
 cases h with
 | v h=>cases u<;>first | rfl | (simp[AV.one]at hx)
 | agg hl h=>simp[AV.one]at hx
 | tup h0 hl h=>simp[AV.one]at hx
 | cw=>rfl
 | cM=>rfl
 | ptr=>rfl
 | iptr=>rfl
 | fn=>rfl
 | ifc=>rfl
 | yld=>rfl
 | mp=>rfl
 | ch=>rfl
theorem lE{M:Mem}{ι:Map}{u:Value}{x:AV}(h:iB u=some x):VR M ι x u:=by
 unfold iB at h
 split at h
 ·cases h;exact .v (by assumption)
 ·cases h
theorem yD{M:Mem}{ι:Map}{us:List Value}{xs:List AV}(h:us.mapM iB=some xs):jC M ι xs us :=
 ⟨gY h,fun i x u hx hu=>by
  obtain⟨u',hu',hf⟩:=nM h i x hx
  rw[hu]at hu';cases hu'
  exact lE hf⟩
theorem gT{M:Mem}{ι:Map}{u:Value}{x:AV}(h:ofValue u=some x):VR M ι x u:=by
 cases u with
 | agg cs =>
  simp only[ofValue,Option.map_eq_some_iff]at h
  obtain⟨xs,hxs,rfl⟩:=h
  exact VR.oe.2 (yD hxs)
 | func f a b =>
  simp only[ofValue]at h
  split at h
  ·rename_i hab
   cases h
   simp at hab
   obtain⟨rfl,rfl⟩:=hab
   exact .fn rfl rfl (fun i c u hc=>by simp at hc) (fun i c u hc=>by simp at hc)
  ·cases h
 | tuple vs =>
  simp only[ofValue]at h
  split at h
  ·rename_i hv
   simp at hv
   subst hv
   cases h
   exact .v rfl
  ·rename_i hv
   simp only[Option.map_eq_some_iff]at h
   obtain⟨xs,hxs,rfl⟩:=h
   have hs:=yD (M:=M) (ι:=ι) hxs
   refine .tup ?_ (by simpa using hs.1) fun i c u hc hu=>hs.2 i c u hc (by simpa using hu)
   intro e
   subst e
   have:=hs.1
   simp at this
   exact hv (by simpa using Array.eq_empty_of_size_eq_zero this.symm)
 | iface t x =>
  simp only[ofValue,Option.map_eq_some_iff]at h
  obtain⟨y,hy,rfl⟩:=h
  exact .ifc (lE hy)
 | _=>exact lE (by simpa [ofValue] using h)
theorem IN{M:Mem}{ι:Map}{x:AV}{u v:Value}(h:VR M ι x u)(hx:Eg x=some v):u=v:=by
 cases h<;>simp[Eg]at hx
 exact hx
theorem qi{M:Mem}{ι:Map}{x:AV}{u v:Value}(h:VR M ι x u)(hx:fP x=some v):u=v:=by
 cases h<;>simp[fP]at hx
 ·exact hx
 ·rename_i cs vs hl hh
  obtain⟨l,hl',rfl⟩:=hx
  congr 1
  apply Array.ext_getElem?
  intro i
  rcases Nat.lt_or_ge i vs.size with hi | hi
  ·have hlen:=gY hl'
   have hi':i<l.length:=by omega
   obtain⟨c,hc,hf⟩:=nM hl' i l[i] (List.getElem?_eq_getElem hi')
   have:=IN (hh i c vs[i] hc (Array.getElem?_eq_getElem hi)) hf
   simp[this,Array.getElem?_eq_getElem hi,List.getElem?_eq_getElem hi']
  ·have hlen:=gY hl'
   rw[Array.getElem?_eq_none hi]
   simp
   omega
def bN.map(k:bN)(ι:Map):Map:=if k.arr then ed else ι
def zw(z sz:Nat)(fz:Nat × Nat):Prop:=(∀o,o<sz →¬(fz.1≤o∧(o<fz.2∨fz.2<fz.1)))∧(1<z →¬(fz.1≤sz∧sz<fz.2))
theorem zw.zero(z n:Nat):zw z n (0,0):=⟨fun o _ h=>by simp at h,fun _ h=>by simp at h⟩
structure eX (M:Mem) (ι:Map) (w:World) (l:Loc) (k:bN):Prop where
 esz:l.esz=k.esz
 heap : ∃arr T fz,w.heap[l.b]?=some (.cells arr T fz)∧arr.size=l.n * k.esz∧zw k.esz arr.size fz ∧
  ∀(i j:Nat) e x,k.es[i]?=some e→e.cells[j]?=some x →∃u,arr[i * k.esz+j]?=some u∧u.oneCell'=true∧VR M (k.map ι) x u
 len:k.es.length≤l.n
 cells : ∀e∈k.es,e.cells.length=k.esz
 frozen : ∀o x,M l.b o=some x→k.jb=true∧o<k.es.length * k.esz
def ye(n:Nat)(r:Loop):Prop:=match n with
 | 0=>r.state = .ready∧r.pending=none
 | 1=>r.state = .busy
 | 2=>r.state = .done∧r.pending=some .ret
 | id+3=>r.state = .done∧r.pending=some (.exit id)
def Di(M:Mem)(ι:Map)(w:World)(l:Loc)(k:bN):Prop :=
 ∃(n nt:Nat) (ps:List Tmp) (assign body:Code) (tm:List AV) (r:Loop),k.esz=0∧k.arr=false∧k.es=[.v (.int .i64 n),.lp 0 nt ps assign body tm]∧w.heap[l.b]?=some (.loop r)∧r.params=ps.toArray∧r.assign=assign∧r.body=body ∧
  r.tmps.size=nt∧(∀t,VR M ι (cU tm t) (r.tmps.getD t undef))∧ye n r
def ID(M:Mem)(ι:Map)(w:World)(l:Loc)(k:bN):Prop :=
 ∃(ents:List AV) (entries:Array MapEntry),k.esz=0∧k.arr=false∧k.es = .v (.bool true) :: ents∧w.heap[l.b]?=some (.map entries entries.size)∧entries.size=ents.length ∧
  ∀(i:Nat) ent e,ents[i]?=some ent→entries[i]?=some e →∃ka va,ent = .tup [ka,va]∧fP ka=some e.key∧VR M ι va e.val∧e.born=i
def Dk(M:Mem)(ι:Map)(w:World)(l:Loc)(k:bN):Prop :=
 ∃(cap s r:Nat) (cl:Bool) (buf:List AV) (arr:Array Value),k.esz=0∧k.arr=false∧k.es = .v (.bool false) :: .v (.int .i64 cap) :: .v (.bool cl) :: buf∧w.heap[l.b]?=some (.chan cap arr cl s r false) ∧
  arr.size=buf.length ∧∀(i:Nat) x u,buf[i]?=some x→arr[i]?=some u→VR M ι x u
def kU(M:Mem)(ι:Map)(w:World)(l:Loc)(k:bN):Prop:=Di M ι w l k∨ID M ι w l k∨Dk M ι w l k
structure mb (M:Mem) (ι:Map) (w:World) (l:Loc) (k:bN):Prop where
 esz:l.esz=k.esz
 cellsOk:0<k.esz→eX M ι w l k
 objOk:k.esz=0→kU M ι w l k
 frozen : ∀o x,M l.b o=some x→k.jb=true∧o<k.es.length * k.esz
theorem eX.Mz{M:Mem}{ι:Map}{w:World}{l:Loc}{k:bN}(h:eX M ι w l k)(hz:0<k.esz):mb M ι w l k:=⟨h.esz,fun _=>h,fun e=>by omega,h.frozen⟩
theorem kU.zero{M:Mem}{ι:Map}{w:World}{l:Loc}{k:bN}(h:kU M ι w l k):k.esz=0∧k.arr=false:=by
 rcases h with ⟨n,nt,ps,as,bd,tm,r,h1,h2,_⟩ | ⟨ents,entries,h1,h2,_⟩ | ⟨_,_,_,_,_,_,h1,h2,_⟩
 ·exact⟨h1,h2⟩
 ·exact⟨h1,h2⟩
 ·exact⟨h1,h2⟩
theorem kU.obj{M:Mem}{ι:Map}{w:World}{l:Loc}{k:bN}(h:kU M ι w l k):(∃r,w.heap[l.b]?=some (.loop r))∨(∃es c,w.heap[l.b]?=some (.map es c)) ∨∃a b c d e f,w.heap[l.b]?=some (.chan a b c d e f):=by
 rcases h with ⟨n,nt,ps,as,bd,tm,r,_,_,_,h,_⟩ | ⟨ents,entries,_,_,_,h,_⟩ | ⟨_,_,_,_,_,_,_,_,_,h,_⟩
 ·exact .inl ⟨_,h⟩
 ·exact .inr (.inl ⟨_,_,h⟩)
 ·exact .inr (.inr ⟨_,_,_,_,_,_,h⟩)
theorem kU.same{M:Mem}{ι:Map}{w:World}{l:Loc}{k k':bN}(h:kU M ι w l k)(h1:k'.esz=k.esz)(h2:k'.arr=k.arr)(h3:k'.es=k.es):kU M ι w l k':=by
 rcases h with ⟨n,nt,ps,as,bd,tm,r,g1,g2,g3,g4⟩ | ⟨ents,entries,g1,g2,g3,g4⟩ | ⟨c,s,r,cl,buf,arr,g1,g2,g3,g4⟩
 ·exact .inl ⟨n,nt,ps,as,bd,tm,r,h1.trans g1,h2.trans g2,h3.trans g3,g4⟩
 ·exact .inr (.inl ⟨ents,entries,h1.trans g1,h2.trans g2,h3.trans g3,g4⟩)
 ·exact .inr (.inr ⟨c,s,r,cl,buf,arr,h1.trans g1,h2.trans g2,h3.trans g3,g4⟩)
theorem kU.Mz{M:Mem}{ι:Map}{w:World}{l:Loc}{k:bN}(h:kU M ι w l k)(hl:l.esz=0)(hf : ∀o x,M l.b o=some x→False):mb M ι w l k :=
 ⟨by rw[hl,h.zero.1],fun e=>by have:=h.zero.1;omega,fun _=>h,fun o x hx=>(hf o x hx).elim⟩
theorem mb.pos{M:Mem}{ι:Map}{w:World}{l:Loc}{k:bN}(h:mb M ι w l k)(ha:k.arr=true):0<k.esz:=by
 rcases Nat.eq_zero_or_pos k.esz with e | e
 ·have:=(h.objOk e).zero.2;rw[ha]at this;cases this
 ·exact e
structure fh (M:Mem) (ι:Map) (g:dk) (w:World):Prop where
 mem : ∀b o x,M b o=some x→w.cell? ⟨b,o,none⟩=some x
 live : ∀r k,g r=some k →∃l,ι r=some l∧mb M ι w l k
 inj : ∀r r' k k' l l',g r=some k→g r'=some k'→ι r=some l→ι r'=some l'→l.b=l'.b→r=r'
theorem fh.at{M:Mem}{ι:Map}{g:dk}{w:World}(hS:fh M ι g w){r:Ref}{b:bN}{l:Loc}(hl:ι r=some l)(hz:0<l.esz)(hb:g r=some b):eX M ι w l b:=by
 obtain⟨l',hl',hk⟩:=hS.live r b hb
 rw[hl]at hl';cases hl'
 exact hk.cellsOk (by have:=hk.esz;omega)
theorem kU.mono{M M':Mem}{ι ι':Map}{w w':World}{l:Loc}{k:bN}(h:kU M ι w l k)(hM : ∀b o x,M b o=some x→M' b o=some x)(hι : ∀r l,ι r=some l→ι' r=some l)(hw:w'.heap[l.b]?=w.heap[l.b]?):kU M' ι' w' l k:=by
 rcases h with ⟨n,nt,ps,as,bd,tm,r,h0,h00,h1,h2,h3,h4,h5,h6,h7,h8⟩ | ⟨ents,entries,h0,h1,h2,h3,h4,h5⟩ | ⟨c,s,r,cl,buf,arr,h0,h1,h2,h3,h4,h5⟩
 ·exact .inl ⟨n,nt,ps,as,bd,tm,r,h0,h00,h1,by rw[hw];exact h2,h3,h4,h5,h6,fun t=>(h7 t).mono hM ι' hι,h8⟩
 ·exact .inr (.inl ⟨ents,entries,h0,h1,h2,by rw[hw];exact h3,h4,fun i ent e a b=>by obtain⟨ka,va,c1,c2,c3⟩:=h5 i ent e a b;exact⟨ka,va,c1,c2,c3.1.mono hM ι' hι,c3.2⟩⟩)
 ·exact .inr (.inr ⟨c,s,r,cl,buf,arr,h0,h1,h2,by rw[hw];exact h3,h4,fun i x u a b=>(h5 i x u a b).mono hM ι' hι⟩)
structure pA (M:Mem) (ι:Map) (g:dk) (w:World) (M':Mem) (ι':Map) (g':dk) (w':World):Prop where
 os:w'.os=w.os
 tape:w'.tape=w.tape
 output:w'.output=w.output
 size:w.heap.size≤w'.heap.size
 chg : ∀b,b<w.heap.size→(∀r k l,g r=some k→ι r=some l→l.b≠b)→w'.heap[b]?=w.heap[b]?
 mem : ∀b o x,M b o=some x→M' b o=some x
 map : ∀r l,ι r=some l→ι' r=some l
 live : ∀r k l,g' r=some k→ι' r=some l→w.heap.size≤l.b ∨∃r0 k0 l0,g r0=some k0∧ι r0=some l0∧l0.b=l.b
 new : ∀b o x,M' b o=some x→M b o=some x∨w.heap.size≤b ∨∃r0 k0 l0,g r0=some k0∧ι r0=some l0∧l0.b=b
theorem pA.refl{M:Mem}{ι:Map}{g:dk}{w:World}:pA M ι g w M ι g w :=
 ⟨rfl,rfl,rfl,Nat.le_refl _,fun _ _ _=>rfl,fun _ _ _ h=>h,fun _ _ h=>h,fun r k l h h' => .inr ⟨r,k,l,h,h',rfl⟩,fun _ _ _ h => .inl h⟩
theorem pA.trans{M ι g w M' ι' g' w' M'' ι'' g'' w''}(h:pA M ι g w M' ι' g' w')(h':pA M' ι' g' w' M'' ι'' g'' w''):pA M ι g w M'' ι'' g'' w'':=by
 have hlive : ∀b,b<w.heap.size→(∀r k l,g r=some k→ι r=some l→l.b≠b) →∀r k l,g' r=some k→ι' r=some l→l.b≠b:=by
  intro b hb hno r k l hg hl e
  rcases h.live r k l hg hl with h1 | ⟨r0,k0,l0,h1,h2,h3⟩
  ·omega
  ·exact hno r0 k0 l0 h1 h2 (h3.trans e)
 refine⟨h'.os.trans h.os,h'.tape.trans h.tape,h'.output.trans h.output,Nat.le_trans h.size h'.size,?_,fun b o x hx=>h'.mem b o x (h.mem b o x hx),
  fun r l hl=>h'.map r l (h.map r l hl),?_,?_⟩
 ·intro b hb hno
  rw[h'.chg b (Nat.lt_of_lt_of_le hb h.size) (hlive b hb hno),h.chg b hb hno]
 ·intro r k l hg hl
  rcases h'.live r k l hg hl with h1 | ⟨r0,k0,l0,h1,h2,h3⟩
  ·exact .inl (Nat.le_trans h.size h1)
  ·rcases h.live r0 k0 l0 h1 h2 with h4 | ⟨r1,k1,l1,h4,h5,h6⟩
   ·exact .inl (h3 ▸ h4)
   ·exact .inr ⟨r1,k1,l1,h4,h5,h6.trans h3⟩
 ·intro b o x hx
  rcases h'.new b o x hx with h1 | h1 | ⟨r0,k0,l0,h1,h2,h3⟩
  ·exact h.new b o x h1
  ·exact .inr (.inl (Nat.le_trans h.size h1))
  ·rcases h.live r0 k0 l0 h1 h2 with h4 | ⟨r1,k1,l1,h4,h5,h6⟩
   ·exact .inr (.inl (h3 ▸ h4))
   ·exact .inr (.inr ⟨r1,k1,l1,h4,h5,h6.trans h3⟩)
end Go.Ab
namespace Go.Ab
theorem jl{w:World}{b o:Nat}{arr:Array Value}{T:TypeId}{fz:Nat × Nat}(h:w.heap[b]?=some (.cells arr T fz)):w.cell? ⟨b,o,none⟩=arr[o]?:=by
 simp[World.cell?,h]
theorem fW(b o n:Nat):(⟨b,o,none⟩:Addr).add n=⟨b,o+n,none⟩:=by
 unfold Addr.add;split<;>simp_all
theorem jo{a:Addr}(h:a.spot=none):a=⟨a.block,a.off,none⟩:=by cases a;simp_all
theorem tl{P:Program}{t:TypeId}{n:Nat}(h:aU P t=some n) : ∃i,P.info? t=some i∧i.size=n:=by
 simpa [aU] using h
theorem cO{P:Program}{t:TypeId}{n:Nat}(h:aU P t=some n)(w:World):(sizeOf t).run P w = .ok n w:=by
 obtain⟨i,hi,rfl⟩:=tl h
 simp[sizeOf,typeInfo,hi]
theorem bH{P:Program}{t:TypeId}{d:TypeDesc}(h:P.underlying t=some d)(w:World):(underlying t).run P w = .ok d w:=by
 simp[underlying,h]
theorem we{P:Program}{t:TypeId}{b:Bool}(h:dD P t=some b)(w:World):(isAgg t).run P w = .ok b w:=by
 simp only[dD,Option.map_eq_some_iff]at h
 obtain⟨d,hd,rfl⟩:=h
 simp only[isAgg,Sem.run_bind,bH hd,Result.andThen_ok]
 cases d<;>rfl
theorem sF{P:Program}{t:TypeId}{z:AV}(h:eG P t=some z)(w:World) : ∃u,(zeroValue t).run P w = .ok u w∧ofValue u=some z:=by
 simp only[eG,Option.bind_eq_some_iff]at h
 obtain⟨u,⟨i,hi,hz⟩,hu⟩:=h
 exact⟨u,by simp[zeroValue,typeInfo,hi,hz],hu⟩
def Cells(M:Mem)(ι:Map)(w:World)(b o:Nat)(xs:List AV):Prop :=
 ∀(j:Nat) x,xs[j]?=some x →∃u,w.cell? ⟨b,o+j,none⟩=some u∧u.oneCell'=true∧VR M ι x u
theorem Cells.values{M ι w b o}{xs:List AV}(h:Cells M ι w b o xs) : ∃us:List Value,jC M ι xs us∧(∀u∈us,u.oneCell'=true) ∧∀(j:Nat) u,us[j]?=some u→w.cell? ⟨b,o+j,none⟩=some u:=by
 induction xs generalizing o with
 | nil=>exact⟨[],jC.nil,by simp,by simp⟩
 | cons x xs ih =>
  obtain⟨u,hu,h1,hr⟩:=h 0 x rfl
  obtain⟨us,h2,h3,h4⟩:=ih (o:=o+1) fun j y hy=>by
   have:=h (j+1) y (by simpa using hy)
   rwa [show o+(j+1)=o+1+j by omega]at this
  refine⟨u :: us,jC.cons hr h2,by simpa [h1] using h3,?_⟩
  intro j v hv
  cases j with
  | zero=>simp at hv;subst hv;exact hu
  | succ j =>
   simp at hv
   have:=h4 j v hv
   rwa [show o+(j+1)=o+1+j by omega]
theorem Cells.sub{M ι w b o}{xs:List AV}(h:Cells M ι w b o xs)(j n:Nat):Cells M ι w b (o+j) ((xs.drop j).take n):=by
 intro i x hx
 rw[List.getElem?_take]at hx
 split at hx
 ·rw[List.getElem?_drop]at hx
  obtain⟨u,h1,h2⟩:=h _ x hx
  exact⟨u,by rwa [show o+j+i=o+(j+i) by omega],h2⟩
 ·cases hx
theorem q9{P:Program}{t:TypeId}{ag:Bool}{n:Nat}(hg:dD P t=some ag)(hn:aU P t=some n){M ι w b o}{cs:List AV}{j:Nat}{y:AV}
 (hc:Cells M ι w b o cs)
 (hr:(if ag then (if j+n≤cs.length∧0<n then some (AV.agg ((cs.drop j).take n)) else none) else cs[j]?)=some y) :
 ∃u,(loadVar t ⟨b,o+j,none⟩).run P w = .ok u w∧VR M ι y u:=by
 cases ag with
 | false =>
  simp at hr
  obtain⟨u,hu,_,hv⟩:=hc j y hr
  exact⟨u,by simp[loadVar,we hg,hu],hv⟩
 | true =>
  simp at hr
  obtain⟨⟨h1,h2⟩,rfl⟩:=hr
  obtain⟨us,hvs,_,hcell⟩:=(hc.sub j n).values
  have hlen:us.length=n:=by rw[←hvs.1];simp;omega
  refine⟨.agg us.toArray,?_,VR.oe.2 (by simpa using hvs)⟩
  have hl:=run_loadCells_list (P:=P) w ⟨b,o+j,none⟩ us (fun k v hk=>by rw[fW];exact hcell k v hk)
  rw[hlen]at hl
  simp[loadVar,we hg,cO hn,hl]
theorem eX.cell{M ι w l k}(h:eX M ι w l k)(i:Nat){e:AV}(he:k.es[i]?=some e):Cells M (k.map ι) w l.b (i * k.esz) e.cells:=by
 obtain⟨arr,T,fz,hh,_,_,hc⟩:=h.heap
 intro j x hx
 obtain⟨u,hu,h1,h2⟩:=hc i j e x he hx
 exact⟨u,by rw[jl hh];exact hu,h1,h2⟩
theorem bN.map_le(k:bN)(ι:Map) : ∀r l,k.map ι r=some l→ι r=some l:=by
 intro r l h
 unfold bN.map at h
 split at h
 ·cases h
 ·exact h
theorem KA{P:Program}{t:TypeId}{ag:Bool}{n:Nat}(hg:dD P t=some ag)(hn:aU P t=some n){M ι g w}(hS:fh M ι g w)
 {r:Ref} {i j:Nat} {k:bN} {y:AV} {a:Value} (ha:VR M ι (.ptr r i j) a) (hk:g r=some k) (hr:eL k.es i j n ag=some y) :
 ∃u,(Instr.loadAt t a).run P w = .ok u w∧VR M ι y u:=by
 cases ha with | ptr hl hz =>
 have hb:=hS.at hl hz hk
 unfold eL at hr
 split at hr
 ·cases hr
 ·rename_i e he
  obtain⟨u,h1,h2⟩:=q9 hg hn (hb.cell i he) hr
  refine⟨u,?_,h2.mono (fun _ _ _ h=>h) ι (k.map_le ι)⟩
  rw[←hb.esz]at h1
  simp[Instr.loadAt,Instr.sureAddr,h1]
theorem Cells.Th{M:Mem}{w:World}(hm : ∀b o x,M b o=some x→w.cell? ⟨b,o,none⟩=some x){esz b o i:Nat}{es:List AV}{cell:Nat→Nat→Value}
 (h1 : ∀i j,i<es.length→j<esz→M b (o+(i * esz+j))=some (cell i j)∧(cell i j).oneCell'=true)
 (he : ∀e∈es,e.cells.length=esz) (h : ∀(i j:Nat) e x,es[i]?=some e→e.cells[j]?=some x→VR M ed x (cell i j)) {e:AV} (hi:es[i]?=some e):Cells M ed w b (o+i * esz) e.cells:=by
 intro j x hx
 have hj:j<esz:=by
  rw[←he e (List.mem_of_getElem? hi)]
  exact(List.getElem?_eq_some_iff.1 hx).1
 have hlt:i<es.length:=(List.getElem?_eq_some_iff.1 hi).1
 refine⟨cell i j,?_,(h1 i j hlt hj).2,h i j e x hi hx⟩
 rw[show o+i * esz+j=o+(i * esz+j) by omega]
 exact hm _ _ _ (h1 i j hlt hj).1
theorem Ow{P:Program}{t:TypeId}{ag:Bool}{n:Nat}(hg:dD P t=some ag)(hn:aU P t=some n){M ι w}(hm : ∀b o x,M b o=some x→w.cell? ⟨b,o,none⟩=some x)
 {esz i j:Nat} {es:List AV} {y:AV} {a:Value} (ha:VR M ι (.iptr esz es i j) a) (hr:eL es i j n ag=some y) :
 ∃u,(Instr.loadAt t a).run P w = .ok u w∧VR M ι y u:=by
 cases ha with | iptr cell h1 he h =>
 rename_i b o
 unfold eL at hr
 split at hr
 ·cases hr
 ·rename_i e hi
  obtain⟨u,h2,h3⟩:=q9 hg hn (Cells.Th hm h1 he h hi) hr
  refine⟨u,?_,h3.up ι⟩
  rw[show o+i * esz+j=o+(i * esz+j) by omega]at h2
  simp[Instr.loadAt,Instr.sureAddr,h2]
end Go.Ab
namespace Go.Ab
structure Aq (w w':World) (o:Obj):Prop where
 os:w'.os=w.os
 tape:w'.tape=w.tape
 output:w'.output=w.output
 heap:w'.heap=w.heap.push o
theorem Aq.cell{w w':World}{o:Obj}(h:Aq w w' o){a:Addr}{x:Value}(hx:w.cell? a=some x):w'.cell? a=some x:=by
 have hb:=World.block_lt_of_cell? w a hx
 unfold World.cell? at hx ⊢
 rw[h.heap,Array.getElem?_push_lt hb,←Array.getElem?_eq_getElem hb]
 exact hx
theorem Aq.old{w w':World}{o:Obj}(h:Aq w w' o)(b:Nat)(hb:b<w.heap.size):w'.heap[b]?=w.heap[b]?:=by
 rw[h.heap,Array.getElem?_push_lt hb,←Array.getElem?_eq_getElem hb]
def gp(ι:Map)(q:Ref)(l:Loc):Map:=fun r=>if r=q then some l else ι r
def iz(g:dk)(q:Ref)(k:bN):dk:=fun r=>if r=q then some k else g r
theorem yb{ι:Map}{q:Ref}{l:Loc}(hq:ι q=none) : ∀r l',ι r=some l'→gp ι q l r=some l':=by
 intro r l' h
 unfold gp
 split
 ·subst_vars;rw[hq]at h;cases h
 ·exact h
theorem fh.QI{M ι g w}(h:fh M ι g w){q:Ref}(hq:ι q=none):g q=none:=by
 cases hg:g q with
 | none=>rfl
 | some k=>obtain⟨l,hl,_⟩:=h.live q k hg;rw[hq]at hl;cases hl
theorem eX.lt{M ι w l k}(h:eX M ι w l k):l.b<w.heap.size:=by
 obtain⟨arr,T,fz,hh,_⟩:=h.heap
 exact(Array.getElem?_eq_some_iff.1 hh).1
theorem kU.lt{M ι w l k}(h:kU M ι w l k):l.b<w.heap.size:=by
 rcases h.obj with ⟨_,hh⟩ | ⟨_,_,hh⟩ | ⟨_,_,_,_,_,_,hh⟩
 ·exact(Array.getElem?_eq_some_iff.1 hh).1
 ·exact(Array.getElem?_eq_some_iff.1 hh).1
 ·exact(Array.getElem?_eq_some_iff.1 hh).1
theorem mb.lt{M ι w l k}(h:mb M ι w l k):l.b<w.heap.size:=by
 rcases Nat.eq_zero_or_pos k.esz with e | e
 ·exact(h.objOk e).lt
 ·exact(h.cellsOk e).lt
theorem mb.OS{M ι w l k}(h:mb M ι w l k){arr:Array Value}{T:TypeId}{fz:Nat × Nat}(hh:w.heap[l.b]?=some (.cells arr T fz)):eX M ι w l k∧0<k.esz:=by
 rcases Nat.eq_zero_or_pos k.esz with e | e
 ·rcases(h.objOk e).obj with ⟨_,h2⟩ | ⟨_,_,h2⟩ | ⟨_,_,_,_,_,_,h2⟩
  ·rw[hh]at h2;cases h2
  ·rw[hh]at h2;cases h2
  ·rw[hh]at h2;cases h2
 ·exact⟨h.cellsOk e,e⟩
theorem eX.cV{M ι w l k M' ι' w'}(h:eX M ι w l k)(hM : ∀b o x,M b o=some x→M' b o=some x)(hι : ∀r l,ι r=some l→ι' r=some l)
 (hb:w'.heap[l.b]?=w.heap[l.b]?) (hf : ∀o x,M' l.b o=some x→k.jb=true∧o<k.es.length * k.esz):eX M' ι' w' l k:=by
 obtain⟨arr,T,fz,hh,h1,h2,h3⟩:=h.heap
 refine⟨h.esz,⟨arr,T,fz,hb ▸ hh,h1,h2,?_⟩,h.len,h.cells,hf⟩
 intro i j e x he hx
 obtain⟨u,hu,ho,hv⟩:=h3 i j e x he hx
 refine⟨u,hu,ho,hv.mono hM _ ?_⟩
 intro r l' hl
 unfold bN.map at hl ⊢
 split
 ·rename_i ha;rw[if_pos ha]at hl;exact hl
 ·rename_i ha;rw[if_neg ha]at hl;exact hι r l' hl
theorem mb.cV{M ι w l k M' ι' w'}(h:mb M ι w l k)(hM : ∀b o x,M b o=some x→M' b o=some x)(hι : ∀r l,ι r=some l→ι' r=some l)
 (hb:w'.heap[l.b]?=w.heap[l.b]?) (hf : ∀o x,M' l.b o=some x→k.jb=true∧o<k.es.length * k.esz):mb M' ι' w' l k :=
 ⟨h.esz,fun e=>(h.cellsOk e).cV hM hι hb hf,fun e=>(h.objOk e).mono hM hι hb,hf⟩
theorem fh.alloc{M ι g w}(hS:fh M ι g w){q:Ref}(hq:ι q=none){w':World}{arr:Array Value}{T:TypeId}{fz:Nat × Nat}(hw:Aq w w' (.cells arr T fz))
 (k:bN) (hz:0<k.esz) (n:Nat) (hsz:arr.size=n * k.esz) (hfz:zw k.esz arr.size fz) (hlen:k.es.length≤n) (hcells : ∀e∈k.es,e.cells.length=k.esz)
 (hc : ∀(i j:Nat) e x,k.es[i]?=some e→e.cells[j]?=some x →∃u,arr[i * k.esz+j]?=some u∧u.oneCell'=true∧VR M (k.map ι) x u) :
 fh M (gp ι q ⟨w.heap.size,k.esz,n⟩) (iz g q k) w'∧pA M ι g w M (gp ι q ⟨w.heap.size,k.esz,n⟩) (iz g q k) w':=by
 have hle:=yb (l:=⟨w.heap.size,k.esz,n⟩) hq
 have hMlt : ∀b o x,M b o=some x→b<w.heap.size:=fun b o x h=>World.block_lt_of_cell? w ⟨b,o,none⟩ (hS.mem b o x h)
 have hnew:w'.heap[w.heap.size]?=some (.cells arr T fz):=by rw[hw.heap];simp
 refine⟨⟨fun b o x h=>hw.cell (hS.mem b o x h),?_,?_⟩,⟨hw.os,hw.tape,hw.output,by rw[hw.heap];simp,fun b hb _=>hw.old b hb,fun _ _ _ h=>h,hle,?_,fun _ _ _ h => .inl h⟩⟩
 ·intro r k' hr
  unfold iz at hr
  split at hr
  ·rename_i e
   subst e
   cases hr
   refine⟨⟨w.heap.size,k.esz,n⟩,by simp[gp],eX.Mz ⟨rfl,⟨arr,T,fz,hnew,hsz,hfz,?_⟩,hlen,hcells,?_⟩ hz⟩
   ·intro i j e x he hx
    obtain⟨u,hu,ho,hv⟩:=hc i j e x he hx
    refine⟨u,hu,ho,hv.mono (fun _ _ _ h=>h) _ ?_⟩
    intro r' l' hl
    unfold bN.map at hl ⊢
    split
    ·rename_i ha;rw[if_pos ha]at hl;exact hl
    ·rename_i ha;rw[if_neg ha]at hl;exact hle r' l' hl
   ·intro o x h
    exact absurd (hMlt _ _ _ h) (Nat.lt_irrefl _)
  ·obtain⟨l,hl,hb⟩:=hS.live r k' hr
   exact⟨l,hle r l hl,hb.cV (fun _ _ _ h=>h) hle (hw.old _ hb.lt) hb.frozen⟩
 ·intro r r' k1 k2 l1 l2 h1 h2 h3 h4 h5
  unfold iz at h1 h2
  unfold gp at h3 h4
  by_cases e1:r=q<;>by_cases e2:r'=q
  ·rw[e1,e2]
  ·rw[if_pos e1]at h3;rw[if_neg e2]at h2 h4
   obtain⟨l,hl,hb⟩:=hS.live r' k2 h2
   rw[hl]at h4;cases h4;cases h3
   exact absurd hb.lt (by rw[←h5];exact Nat.lt_irrefl _)
  ·rw[if_neg e1]at h1 h3;rw[if_pos e2]at h4
   obtain⟨l,hl,hb⟩:=hS.live r k1 h1
   rw[hl]at h3;cases h3;cases h4
   exact absurd hb.lt (by rw[h5];exact Nat.lt_irrefl _)
  ·rw[if_neg e1]at h1 h3;rw[if_neg e2]at h2 h4
   exact hS.inj r r' k1 k2 l1 l2 h1 h2 h3 h4 h5
 ·intro r k' l hr hl
  unfold iz at hr
  unfold gp at hl
  split at hr
  ·rename_i e;rw[if_pos e]at hl;cases hl;exact .inl (Nat.le_refl _)
  ·rename_i e;rw[if_neg e]at hl;exact .inr ⟨r,k',l,hr,hl,rfl⟩
def bW(w:World)(b:Nat)(o:Obj):World := { w with heap:=w.heap.setIfInBounds b o}
theorem eI{w:World}{b:Nat}{o:Obj}(hb:b<w.heap.size):(bW w b o).heap[b]?=some o:=by simp[bW,hb]
theorem ei{w:World}{b b':Nat}{o:Obj}(h:b≠b'):(bW w b o).heap[b']?=w.heap[b']?:=by simp[bW,Array.getElem?_setIfInBounds_ne h]
def cz(arr:Array Value)(o:Nat)(us:List Value):Array Value:=(arr.toList.take o++us++arr.toList.drop (o+us.length)).toArray
theorem fH{arr:Array Value}{o:Nat}{us:List Value}(h:o+us.length≤arr.size)(i:Nat) :
 (cz arr o us)[i]?=if o≤i∧i<o+us.length then us[i - o]? else arr[i]?:=by
 unfold cz
 simp only[List.getElem?_toArray]
 have ho:(arr.toList.take o).length=o:=by simp;omega
 rcases Nat.lt_or_ge i o with h1 | h1
 ·rw[List.append_assoc,List.getElem?_append_left (by omega),List.getElem?_take,if_pos h1,if_neg (by omega)]
  simp
 ·rcases Nat.lt_or_ge i (o+us.length)with h2 | h2
  ·rw[List.append_assoc,List.getElem?_append_right (by omega),List.getElem?_append_left (by omega),if_pos ⟨h1,h2⟩,ho]
  ·rw[List.getElem?_append_right (by simp;omega),List.getElem?_drop,if_neg (by omega)]
   simp only[List.length_append,ho,Array.getElem?_toList]
   congr 1
   omega
theorem gq{arr:Array Value}{o:Nat}{us:List Value}(h:o+us.length≤arr.size):(cz arr o us).size=arr.size:=by
 simp[cz];omega
theorem kp{P:Program}{b:Nat}{T:TypeId}{fz:Nat × Nat}(o:Nat) : ∀(us:List Value)(i:Nat)(arr:Array Value)(w:World),w.heap[b]?=some (.cells arr T fz) →
 o+i+us.length≤arr.size→(∀j,j<arr.size →¬(fz.1≤j∧(j<fz.2∨fz.2<fz.1)))→(∀u∈us,u.oneCell'=true) →
 (storeCells ⟨b,o,none⟩ us i).run P w = .ok () (bW w b (.cells (cz arr (o+i) us) T fz)):=by
 intro us
 induction us with
 | nil =>
  intro i arr w hw hs hf h1
  have hb:=(Array.getElem?_eq_some_iff.1 hw).1
  have e:cz arr (o+i) []=arr:=by simp[cz]
  have e2:bW w b (.cells arr T fz)=w:=by
   have:w.heap.setIfInBounds b (.cells arr T fz)=w.heap:=by
    apply Array.ext_getElem?
    intro k
    by_cases hk:b=k
    ·subst hk;rw[hw,Array.getElem?_setIfInBounds_self_of_lt hb]
    ·rw[Array.getElem?_setIfInBounds_ne hk]
   unfold bW
   rw[this]
  simp[storeCells,e,e2]
 | cons u us ih =>
  intro i arr w hw hs hf h1
  have hb:=(Array.getElem?_eq_some_iff.1 hw).1
  simp only[List.length_cons]at hs
  have hc:w.cell? ⟨b,o+i,none⟩=some arr[o+i]:=by rw[jl hw];exact Array.getElem?_eq_getElem (by omega)
  have hfr:w.frozen? ⟨b,o+i,none⟩=false:=by
   have:=hf (o+i) (by omega)
   simp only[World.frozen?,hw]
   simp only[Bool.and_eq_false_iff,decide_eq_false_iff_not]
   by_cases h:fz.1≤o+i
   ·exact .inr fun h'=>this ⟨h,.inl h'⟩
   ·exact .inl h
  have hset:w.setCell ⟨b,o+i,none⟩ u=bW w b (.cells (arr.setIfInBounds (o+i) u) T fz):=by
   unfold World.setCell bW
   congr 1
   apply Array.ext_getElem?
   intro k
   rw[Array.getElem?_modify]
   by_cases hk:b=k
   ·subst hk;rw[hw,Array.getElem?_setIfInBounds_self_of_lt hb];simp
   ·simp[hk,Array.getElem?_setIfInBounds_ne hk]
  have hone:=h1 u (by simp)
  have ih':=ih (i+1) (arr.setIfInBounds (o+i) u) (bW w b (.cells (arr.setIfInBounds (o+i) u) T fz)) (eI hb) (by simp;omega) (by simpa using hf) (fun v hv=>h1 v (by simp[hv]))
  simp only[storeCells,Sem.run_bind,fW,run_store P w _ u _ hone,hc,hfr,hset]
  simp only[Bool.false_eq_true, ↓reduceIte,Result.andThen_ok]
  rw[ih']
  congr 1
  unfold bW
  simp only[Array.setIfInBounds_setIfInBounds]
  congr 3
  apply Array.ext_getElem?
  intro k
  rw[fH (by simp;omega),fH (by simp;omega)]
  by_cases h2:k=o+i
  ·subst h2
   rw[if_neg (by omega),if_pos ⟨Nat.le_refl _,by simp⟩]
   simp[show o+i<arr.size by omega]
  ·by_cases h3:o+(i+1)≤k∧k<o+(i+1)+us.length
   ·rw[if_pos h3,if_pos (by simp;omega)]
    rw[show k - (o+i)=(k - (o+(i+1)))+1 by omega]
    simp
   ·rw[if_neg h3,if_neg (by simp;omega)]
    rw[Array.getElem?_setIfInBounds_ne (by omega)]
theorem fh.mark{M ι g w}(hS:fh M ι g w){r:Ref}{k:bN}{l:Loc}(hk:g r=some k)(hl:ι r=some l){arr:Array Value}{T:TypeId}{fz0 fz:Nat × Nat}{w':World}
 (hh:w.heap[l.b]?=some (.cells arr T fz0)) (hw:w'=bW w l.b (.cells arr T fz)) (hfz:zw k.esz arr.size fz):fh M ι g w'∧pA M ι g w M ι g w':=by
 obtain⟨l',hl',hb⟩:=hS.live r k hk
 rw[hl]at hl';cases hl'
 have hlt:=hb.lt
 have hnew:w'.heap[l.b]?=some (.cells arr T fz):=by rw[hw];exact eI hlt
 have hold : ∀b,l.b≠b→w'.heap[b]?=w.heap[b]?:=fun b hne=>by rw[hw];exact ei hne
 have hcell : ∀b o,w'.cell? ⟨b,o,none⟩=w.cell? ⟨b,o,none⟩:=by
  intro b o
  by_cases hne:l.b=b
  ·subst hne;rw[jl hnew,jl hh]
  ·exact World.cell?_of_block (hold b hne)
 refine⟨⟨fun b o x h=>by rw[hcell];exact hS.mem b o x h,?_,hS.inj⟩,?_⟩
 ·intro r' k1 hr
  obtain⟨l1,hl1,hb1⟩:=hS.live r' k1 hr
  refine⟨l1,hl1,?_⟩
  by_cases hne:l.b=l1.b
  ·obtain⟨hc1,hz1⟩:=hb1.OS (hne ▸ hh)
   obtain⟨arr1,T1,fz1,g1,g2,g3,g4⟩:=hc1.heap
   rw[←hne,hh]at g1
   injection g1 with g1;injection g1 with e1 e2 e3
   subst e1;subst e2
   have hk1:k1=k:=by
    have e:=hS.inj r r' k k1 l l1 hk hr hl hl1 hne
    subst e;rw[hk]at hr;exact(Option.some.inj hr).symm
   exact eX.Mz ⟨hb1.esz,⟨arr,T,fz,by rw[←hne];exact hnew,g2,by rw[hk1];exact hfz,g4⟩,hc1.len,hc1.cells,hb1.frozen⟩ hz1
  ·exact hb1.cV (fun _ _ _ h=>h) (fun _ _ h=>h) (hold _ hne) hb1.frozen
 ·refine⟨by rw[hw];rfl,by rw[hw];rfl,by rw[hw];rfl,by rw[hw];simp[bW],fun b hb' hno=>hold b (hno r k l hk hl),fun _ _ _ h=>h,fun _ _ h=>h,fun r k l h h' => .inr ⟨r,k,l,h,h',rfl⟩,fun _ _ _ h => .inl h⟩
theorem fh.write{M ι g w}(hS:fh M ι g w){r:Ref}{k k':bN}{l:Loc}(hk:g r=some k)(hl:ι r=some l)(hz:0<l.esz){arr:Array Value}{T:TypeId}{fz:Nat × Nat}{w':World}
 (hw:w'=bW w l.b (.cells arr T fz)) (hesz:k'.esz=k.esz) (harr:k'.arr=k.arr) (hsz:arr.size=l.n * k.esz) (hfz:zw k.esz arr.size fz)
 (hlen:k'.es.length≤l.n) (hcells : ∀e∈k'.es,e.cells.length=k.esz) (hfrz : ∀o x,M l.b o=some x→False)
 (hc : ∀(i j:Nat) e x,k'.es[i]?=some e→e.cells[j]?=some x →∃u,arr[i * k.esz+j]?=some u∧u.oneCell'=true∧VR M (k'.map ι) x u) :
 fh M ι (iz g r k') w'∧pA M ι g w M ι (iz g r k') w':=by
 obtain⟨l',hl',hb⟩:=hS.live r k hk
 rw[hl]at hl';cases hl'
 have hlt:=hb.lt
 refine⟨⟨?_,?_,?_⟩,?_⟩
 ·intro b o x h
  have hne:l.b≠b:=fun e=>hfrz o x (e ▸ h)
  rw[World.cell?_of_block (w:=w) (by rw[hw];exact ei hne)]
  exact hS.mem b o x h
 ·intro r' k1 hr
  unfold iz at hr
  split at hr
  ·rename_i e
   subst e
   cases hr
   refine⟨l,hl,eX.Mz ⟨by rw[hb.esz,hesz],⟨arr,T,fz,by rw[hw];exact eI hlt,by rw[hesz];exact hsz,by rw[hesz];exact hfz,by rw[hesz];exact hc⟩,hlen,by rw[hesz];exact hcells,fun o x h=>(hfrz o x h).elim⟩ (by rw[hesz,←hb.esz];exact hz)⟩
  ·rename_i hne
   obtain⟨l1,hl1,hb1⟩:=hS.live r' k1 hr
   have hnb:l.b≠l1.b:=fun e=>hne (hS.inj r' r k1 k l1 l hr hk hl1 hl e.symm)
   exact⟨l1,hl1,hb1.cV (fun _ _ _ h=>h) (fun _ _ h=>h) (by rw[hw];exact ei hnb) hb1.frozen⟩
 ·intro r1 r2 k1 k2 l1 l2 h1 h2 h3 h4 h5
  have back : ∀ {r1:Ref} {k1:bN},iz g r k' r1=some k1 →∃k,g r1=some k:=by
   intro r1 k1 h
   unfold iz at h
   split at h
   ·rename_i e;exact⟨k,e ▸ hk⟩
   ·exact⟨k1,h⟩
  obtain⟨_,h1'⟩:=back h1
  obtain⟨_,h2'⟩:=back h2
  exact hS.inj r1 r2 _ _ l1 l2 h1' h2' h3 h4 h5
 ·refine⟨by rw[hw];rfl,by rw[hw];rfl,by rw[hw];rfl,by rw[hw];simp[bW],?_,fun _ _ _ h=>h,fun _ _ h=>h,?_,fun _ _ _ h => .inl h⟩
  ·intro b _ hno
   rw[hw]
   exact ei (hno r k l hk hl)
  ·intro r1 k1 l1 h1 h2
   unfold iz at h1
   split at h1
   ·rename_i e;subst e;exact .inr ⟨r1,k,l1,hk,h2,rfl⟩
   ·exact .inr ⟨r1,k1,l1,h1,h2,rfl⟩
end Go.Ab
namespace Go.Ab
open Classical
def MH(ι:Map)(g:dk)(R:List Ref)(b o:Nat):Prop :=∃r∈R,∃k l,g r=some k∧ι r=some l∧l.b=b∧o<k.es.length * k.esz
noncomputable def kQ(M:Mem)(ι:Map)(g:dk)(w:World)(R:List Ref):Mem:=fun b o =>
 match M b o with
 | some x=>some x
 | none=>if MH ι g R b o then w.cell? ⟨b,o,none⟩ else none
theorem rJ{M ι g w R} : ∀b o x,M b o=some x→kQ M ι g w R b o=some x:=by
 intro b o x h;simp[kQ,h]
theorem tS{M ι g w R}(hm : ∀b o x,M b o=some x→w.cell? ⟨b,o,none⟩=some x) : ∀b o x,kQ M ι g w R b o=some x→w.cell? ⟨b,o,none⟩=some x:=by
 intro b o x h
 unfold kQ at h
 split at h
 ·rename_i y hy;cases h;exact hm b o _ hy
 ·split at h
  ·exact h
  ·cases h
theorem xL{M ι g w R b o x}(h:kQ M ι g w R b o=some x):M b o=some x∨MH ι g R b o:=by
 unfold kQ at h
 split at h
 ·rename_i y hy;cases h;exact .inl hy
 ·split at h
  ·rename_i hv;exact .inr hv
  ·cases h
theorem z0{n esz i j:Nat}(hi:i<n)(hj:j<esz):i * esz+j<n * esz:=by
 have:(i+1) * esz≤n * esz:=Nat.mul_le_mul_right _ hi
 rw[Nat.add_mul]at this
 omega
theorem Ix{M ι g w R}(hS:fh M ι g w){r:Ref}{k:bN}{l:Loc}(hr:r∈R)(hk:g r=some k)(hl:ι r=some l){i j:Nat}(hi:i<k.es.length)(hj:j<k.esz) :
 ∃u,kQ M ι g w R l.b (i * k.esz+j)=some u∧u.oneCell'=true∧w.cell? ⟨l.b,i * k.esz+j,none⟩=some u ∧
  ∀e x,k.es[i]?=some e→e.cells[j]?=some x→VR M (k.map ι) x u:=by
 obtain⟨l',hl',hb⟩:=hS.live r k hk
 rw[hl]at hl';cases hl'
 replace hb:=hb.cellsOk (by omega)
 obtain⟨arr,T,fz,hh,h1,h2,h3⟩:=hb.heap
 have hei:k.es[i]?=some k.es[i]:=List.getElem?_eq_getElem hi
 have hcl:=hb.cells k.es[i] (List.getElem_mem hi)
 have hxj:k.es[i].cells[j]?=some (k.es[i].cells[j]'(by omega)):=List.getElem?_eq_getElem _
 obtain⟨u,hu,ho,hv⟩:=h3 i j _ _ hei hxj
 have hc:w.cell? ⟨l.b,i * k.esz+j,none⟩=some u:=by rw[jl hh];exact hu
 refine⟨u,?_,ho,hc,?_⟩
 ·unfold kQ
  split
  ·rename_i y hy;have:=hS.mem _ _ _ hy;rw[hc]at this;cases this;rfl
  ·rw[if_pos ⟨r,hr,k,l,hk,hl,rfl,z0 hi hj⟩];exact hc
 ·intro e x he hx
  rw[hei]at he;cases he
  rw[hxj]at hx;cases hx
  exact hv
theorem Gq{g:dk}{n:Nat}{x y:AV}(h:view g (n+1) x=some y)(hx : ∀cs,x ≠ .agg cs):x.cells=[x]∧y.cells=[y]:=by
 refine⟨by cases x<;>first | rfl | exact absurd rfl (hx _),?_⟩
 cases x with
 | agg cs=>exact absurd rfl (hx cs)
 | v x=>simp[view]at h;subst h;rfl
 | tup cs=>simp only[view,Option.map_eq_some_iff]at h;obtain⟨_,_,rfl⟩:=h;rfl
 | cw=>simp[view]at h;subst h;rfl
 | iptr=>simp[view]at h;subst h;rfl
 | fsl=>simp[view]at h
 | cM r off len cap =>
  simp only[view]at h
  split at h
  ·split at h
   ·cases h;rfl
   ·cases h
  ·cases h
 | ptr r i j =>
  simp only[view]at h
  split at h
  ·split at h
   ·cases h;rfl
   ·simp only[Option.map_eq_some_iff]at h;obtain⟨_,_,rfl⟩:=h;rfl
  ·cases h
 | fn f a b =>
  simp only[view]at h
  split at h
  ·cases h;rfl
  ·cases h
 | ifc t x=>simp only[view,Option.map_eq_some_iff]at h;obtain⟨_,_,rfl⟩:=h;rfl
 | yld=>simp[view]at h
 | mp=>simp[view]at h
 | ch=>simp[view]at h
 | lp=>simp[view]at h
theorem By{g:dk}{n:Nat}{e e':AV}(h:view g (n+1) e=some e') :
 e'.cells.length=e.cells.length ∧∀(j:Nat) x',e'.cells[j]?=some x' →∃m x,m≤n+1∧e.cells[j]?=some x∧view g m x=some x' ∧∀r∈aH g m x,r∈aH g (n+1) e:=by
 by_cases hx : ∃cs,e = .agg cs
 ·obtain⟨cs,rfl⟩:=hx
  simp only[view,Option.map_eq_some_iff]at h
  obtain⟨ys,hys,rfl⟩:=h
  refine⟨by simp[AV.cells,gY hys],?_⟩
  intro j x' hj
  obtain⟨x,hx,hf⟩:=nM hys j x' (by simpa [AV.cells] using hj)
  refine⟨n,x,by omega,by simpa [AV.cells] using hx,hf,?_⟩
  intro r hr
  simp only[aH,List.mem_flatMap]
  exact⟨x,List.mem_of_getElem? hx,hr⟩
 ·obtain⟨h1,h2⟩:=Gq h (fun cs hc=>hx ⟨cs,hc⟩)
  refine⟨by rw[h1,h2];rfl,?_⟩
  intro j x' hj
  rw[h2]at hj
  cases j with
  | zero =>
   simp at hj
   subst hj
   exact⟨n+1,e,Nat.le_refl _,by rw[h1];rfl,h,fun r hr=>hr⟩
  | succ j=>simp at hj
theorem xR{M ι g w R}(hS:fh M ι g w) : ∀(n:Nat)(x y:AV)(u:Value),view g n x=some y→(∀r∈aH g n x,r∈R)→VR M ι x u→VR (kQ M ι g w R) ed y u:=by
 intro n
 induction n using Nat.strongRecOn with | ind n ih =>
 intro x y u h hR hv
 cases n with
 | zero=>simp[view]at h
 | succ n =>
  have lists : ∀ {cs ys:List AV} {us:List Value},cs.mapM (view g n)=some ys→(∀r∈cs.flatMap (aH g n),r∈R)→jC M ι cs us→jC (kQ M ι g w R) ed ys us:=by
   intro cs ys us hys hR hvs
   refine⟨by rw[gY hys];exact hvs.1,fun i y' u hy hu=>?_⟩
   obtain⟨x,hx,hf⟩:=nM hys i y' hy
   exact ih n (by omega) x y' u hf (fun r hr=>hR r (List.mem_flatMap.2 ⟨x,List.mem_of_getElem? hx,hr⟩)) (hvs.2 i x u hx hu)
  cases x with
  | v x=>simp[view]at h;subst h;cases hv with | v hs=>exact .v hs
  | agg cs =>
   simp only[view,Option.map_eq_some_iff]at h
   obtain⟨ys,hys,rfl⟩:=h
   cases hv with | agg hl hh =>
   exact VR.oe.2 (lists hys (by simpa [aH] using hR) (VR.oe.1 (.agg hl hh)))
  | tup cs =>
   simp only[view,Option.map_eq_some_iff]at h
   obtain⟨ys,hys,rfl⟩:=h
   cases hv with | tup h0 hl hh =>
   rename_i vs
   have:=lists (us:=vs.toList) hys (by simpa [aH] using hR) ⟨by simpa using hl,fun i x u hx hu=>hh i x u hx (by simpa using hu)⟩
   refine .tup ?_ (by simpa using this.1) fun i c u hc hu=>this.2 i c u hc (by simpa using hu)
   intro e
   subst e
   have h1:=gY hys
   exact h0 (List.eq_nil_of_length_eq_zero (by simpa using h1.symm))
  | cw esz es cap =>
   simp[view]at h;subst h
   cases hv with | cw cell hs hc hk hm he hh =>
   exact(VR.cw (M:=M) (ι:=ed) cell hs hc hk hm he hh).mono rJ _ (fun _ _ h=>h)
  | iptr esz es i j =>
   simp[view]at h;subst h
   cases hv with | iptr cell hm he hh =>
   exact(VR.iptr (M:=M) (ι:=ed) cell hm he hh).mono rJ _ (fun _ _ h=>h)
  | fsl=>simp[view]at h
  | cM r off len cap =>
   simp only[view]at h
   split at h
   ·rename_i k hk
    split at h
    ·rename_i hh
     cases h
     obtain⟨harr,hlen⟩:=hh
     cases hv with | cM hr hb hs ha hc hn hkk hzl =>
     rename_i l a c
     have hrR:r∈R:=hR r (by simp[aH])
     have hbk:=hS.at hr hzl hk
     have hll:((k.es.drop off).take len).length=len:=by simp;omega
     have hat : ∀i,i<len→((k.es.drop off).take len)[i]?=k.es[off+i]?:=by
      intro i hi
      rw[List.getElem?_take,if_pos hi,List.getElem?_drop]
     have haddr:0<len→a.off=off * k.esz:=by
      intro h0
      rcases ha with h | h
      ·omega
      ·rw[h,hbk.esz]
     have key : ∀i j,i<len→j<k.esz →∃u,kQ M ι g w R a.block (a.off+(i * k.esz+j))=some u∧u.oneCell'=true ∧∀e x,k.es[off+i]?=some e→e.cells[j]?=some x→VR M (k.map ι) x u:=by
      intro i j hi hj
      obtain⟨u,h1,h2,_,h3⟩:=Ix hS hrR hk hr (i:=off+i) (j:=j) (by omega) hj
      refine⟨u,?_,h2,h3⟩
      rw[haddr (by omega),hb,show off * k.esz+(i * k.esz+j)=(off+i) * k.esz+j by rw[Nat.add_mul];omega]
      exact h1
     let cell:Nat→Nat→Value:=fun i j=>(kQ M ι g w R a.block (a.off+(i * k.esz+j))).getD undef
     have:=VR.cw (M:=kQ M ι g w R) (ι:=ed) (esz:=k.esz) (es:=(k.es.drop off).take len) (cap:=cap) (a:=a) (c:=c) cell (.inl hs) (by omega) hkk
      (by
       intro i j hi hj
       rw[hll]at hi
       obtain⟨u,h1,h2,_⟩:=key i j hi hj
       simp[cell,h1,h2])
      (by
       intro e he
       exact hbk.cells e (List.mem_of_mem_drop (List.mem_of_mem_take he)))
      (by
       intro i j e x hi hx
       have hi':i<len:=by have:=(List.getElem?_eq_some_iff.1 hi).1;omega
       rw[hat i hi']at hi
       have hj:j<k.esz:=by
        rw[←hbk.cells e (List.mem_of_getElem? hi)]
        exact(List.getElem?_eq_some_iff.1 hx).1
       obtain⟨u,h1,h2,h3⟩:=key i j hi' hj
       have:=h3 e x hi hx
       rw[bN.map,if_pos harr]at this
       simp only[cell,h1,Option.getD_some]
       exact this.mono rJ _ (fun _ _ h=>h))
     rw[hll]at this
     exact this
    ·cases h
   ·cases h
  | ptr r i j =>
   cases hv with | ptr hr hzl =>
   rename_i l
   simp only[view]at h
   split at h
   ·rename_i k hk
    have hrR:r∈R:=hR r (by simp[aH])
    have hbk:=hS.at hr hzl hk
    let cell:Nat→Nat→Value:=fun i j=>(kQ M ι g w R l.b (0+(i * k.esz+j))).getD undef
    have hcell : ∀i j,i<k.es.length→j<k.esz→kQ M ι g w R l.b (0+(i * k.esz+j))=some (cell i j)∧(cell i j).oneCell'=true ∧∀e x,k.es[i]?=some e→e.cells[j]?=some x→VR M (k.map ι) x (cell i j):=by
     intro i j hi hj
     obtain⟨u,h1,h2,_,h3⟩:=Ix hS hrR hk hr hi hj
     rw[Nat.zero_add]at *
     simp only[cell,Nat.zero_add,h1,Option.getD_some]
     exact⟨trivial,h2,h3⟩
    split at h
    ·rename_i harr
     cases h
     have:=VR.iptr (M:=kQ M ι g w R) (ι:=ed) (esz:=k.esz) (es:=k.es) (i:=i) (j:=j) (b:=l.b) (o:=0) cell (fun i j hi hj=>⟨(hcell i j hi hj).1,(hcell i j hi hj).2.1⟩) hbk.cells
      (by
       intro i j e x hi hx
       have hi':=(List.getElem?_eq_some_iff.1 hi).1
       have hj:j<k.esz:=by
        rw[←hbk.cells e (List.mem_of_getElem? hi)]
        exact(List.getElem?_eq_some_iff.1 hx).1
       have:=(hcell i j hi' hj).2.2 e x hi hx
       rw[bN.map,if_pos harr]at this
       exact this.mono rJ _ (fun _ _ h=>h))
     rw[Nat.zero_add]at this
     rw[hbk.esz]
     exact this
    ·rename_i harr
     simp only[Option.map_eq_some_iff]at h
     obtain⟨es',hes,rfl⟩:=h
     cases n with
     | zero =>
      cases hke:k.es with
      | nil =>
       rw[hke]at hes
       simp at hes
       subst hes
       have:=VR.iptr (M:=kQ M ι g w R) (ι:=ed) (esz:=k.esz) (es:=[]) (i:=i) (j:=j) (b:=l.b) (o:=0) cell (by intro i j hi;simp at hi) (by simp) (by intro i j e x hi;simp at hi)
       rw[Nat.zero_add]at this
       rw[hbk.esz]
       exact this
      | cons e es =>
       rw[hke]at hes
       simp[view]at hes
     | succ n =>
      have hlen:=gY hes
      have:=VR.iptr (M:=kQ M ι g w R) (ι:=ed) (esz:=k.esz) (es:=es') (i:=i) (j:=j) (b:=l.b) (o:=0) cell
       (fun i j hi hj=>⟨(hcell i j (hlen ▸ hi) hj).1,(hcell i j (hlen ▸ hi) hj).2.1⟩)
       (by
        intro e' he'
        obtain⟨i',hi',rfl⟩:=List.getElem_of_mem he'
        obtain⟨e,he,hf⟩:=nM hes i' _ (List.getElem?_eq_getElem hi')
        rw[(By hf).1]
        exact hbk.cells e (List.mem_of_getElem? he))
       (by
        intro i' j' e' x' hi' hx'
        obtain⟨e,he,hf⟩:=nM hes i' e' hi'
        obtain⟨m,x,hm,hx,hfx,hsub⟩:=(By hf).2 j' x' hx'
        have hlt:=(List.getElem?_eq_some_iff.1 he).1
        have hj:j'<k.esz:=by
         rw[←hbk.cells e (List.mem_of_getElem? he)]
         exact(List.getElem?_eq_some_iff.1 hx).1
        have hvx:=(hcell i' j' hlt hj).2.2 e x he hx
        rw[bN.map,if_neg harr]at hvx
        refine ih m (by omega) x x' _ hfx ?_ hvx
        intro r' hr'
        refine hR r' ?_
        simp only[aH,hk,if_neg harr,List.mem_cons,List.mem_flatMap]
        exact .inr ⟨e,List.mem_of_getElem? he,hsub r' hr'⟩)
      rw[Nat.zero_add]at this
      rw[hbk.esz]
      exact this
   ·cases h
  | fn f a b =>
   simp only[view]at h
   split at h
   ·rename_i a' b' ha' hb'
    cases h
    cases hv with | fn hla hlb hha hhb =>
    rename_i va vb
    simp only[aH,List.mem_append]at hR
    have h1:=lists (us:=va.toList) ha' (fun r hr=>hR r (.inl hr)) ⟨by simpa using hla,fun i x u hx hu=>hha i x u hx (by simpa using hu)⟩
    have h2:=lists (us:=vb.toList) hb' (fun r hr=>hR r (.inr hr)) ⟨by simpa using hlb,fun i x u hx hu=>hhb i x u hx (by simpa using hu)⟩
    exact .fn (by simpa using h1.1) (by simpa using h2.1) (fun i c u hc hu=>h1.2 i c u hc (by simpa using hu)) (fun i c u hc hu=>h2.2 i c u hc (by simpa using hu))
   ·cases h
  | ifc t x =>
   simp only[view,Option.map_eq_some_iff]at h
   obtain⟨y,hy,rfl⟩:=h
   cases hv with | ifc hv =>
   exact .ifc (ih n (by omega) x y _ hy (by simpa [aH] using hR) hv)
  | yld=>simp[view]at h
  | mp=>simp[view]at h
  | ch=>simp[view]at h
  | lp=>simp[view]at h
def qS(g:dk)(R:List Ref):dk:=fun r=>if r∈R then (g r).map fun k => { k with jb:=true} else g r
theorem vm{M ι g w R}(hS:fh M ι g w):fh (kQ M ι g w R) ι (qS g R) w∧pA M ι g w (kQ M ι g w R) ι (qS g R) w:=by
 have back : ∀ {r k},qS g R r=some k →∃k0,g r=some k0∧k = { k0 with jb:=k.jb}∧(r∈R→k.jb=true)∧(k0.jb=true→k.jb=true):=by
  intro r k h
  unfold qS at h
  split at h
  ·simp only[Option.map_eq_some_iff]at h
   obtain⟨k0,hk0,rfl⟩:=h
   exact⟨k0,hk0,rfl,fun _=>rfl,fun _=>rfl⟩
  ·rename_i hr
   exact⟨k,h,rfl,fun h'=>absurd h' hr,fun h=>h⟩
 refine⟨⟨tS hS.mem,?_,?_⟩,⟨rfl,rfl,rfl,Nat.le_refl _,fun _ _ _=>rfl,rJ,fun _ _ h=>h,?_,?_⟩⟩
 ·intro r k h
  obtain⟨k0,h0,hk,hr,hm⟩:=back h
  obtain⟨l,hl,hb⟩:=hS.live r k0 h0
  refine⟨l,hl,?_⟩
  have h1:k.es=k0.es:=by rw[hk]
  have h2:k.esz=k0.esz:=by rw[hk]
  have h3:k.arr=k0.arr:=by rw[hk]
  have hfrz : ∀o x,kQ M ι g w R l.b o=some x→k.jb=true∧o<k.es.length * k.esz:=by
   intro o x hx
   rw[h1,h2]
   rcases xL hx with h | ⟨r',hr',k',l',hg',hl',hb',ho⟩
   ·exact⟨hm (hb.frozen o x h).1,(hb.frozen o x h).2⟩
   ·have e:=hS.inj r' r k' k0 l' l hg' h0 hl' hl hb'
    subst e
    rw[h0]at hg';cases hg'
    exact⟨hr hr',ho⟩
  refine⟨by rw[h2];exact hb.esz,fun hz=>?_,fun hz=>?_,hfrz⟩
  ·replace hb:=hb.cellsOk (by rw[←h2];exact hz)
   obtain⟨arr,T,fz,hh,h4,h5,h6⟩:=hb.heap
   refine⟨by rw[h2];exact hb.esz,⟨arr,T,fz,hh,by rw[h2];exact h4,by rw[h2];exact h5,?_⟩,by rw[h1];exact hb.len,by rw[h1,h2];exact hb.cells,hfrz⟩
   intro i j e x he hx
   rw[h1]at he
   rw[h2]
   obtain⟨u,hu,ho,hv⟩:=h6 i j e x he hx
   refine⟨u,hu,ho,?_⟩
   have:k.map ι=k0.map ι:=by unfold bN.map;rw[h3]
   rw[this]
   exact hv.mono rJ _ (fun _ _ h=>h)
  ·exact((hb.objOk (by rw[←h2];exact hz)).mono (M':=kQ M ι g w R) rJ (fun _ _ h=>h) rfl).same h2 h3 h1
 ·intro r r' k k' l l' h h' hl hl' hb
  obtain⟨k0,h0,_⟩:=back h
  obtain⟨k1,h1,_⟩:=back h'
  exact hS.inj r r' _ _ l l' h0 h1 hl hl' hb
 ·intro r k l h hl
  obtain⟨k0,h0,_⟩:=back h
  exact .inr ⟨r,k0,l,h0,hl,rfl⟩
 ·intro b o x hx
  rcases xL hx with h | ⟨r',hr',k',l',hg',hl',hb',ho⟩
  ·exact .inl h
  ·exact .inr (.inr ⟨r',k',l',hg',hl',hb'⟩)
theorem HN{g:dk}{R:List Ref}(h:ic g R=true):qS g R=g:=by
 funext r
 unfold qS
 split
 ·rename_i hr
  simp only[ic,List.all_eq_true]at h
  have:=h r hr
  cases hg:g r with
  | none=>rfl
  | some k =>
   rw[hg]at this
   simp at this
   simp[←this]
 ·rfl
end Go.Ab
