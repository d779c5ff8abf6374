/-
  The abstract machine: a deterministic evaluator of the model's code over data, in which a slice that nobody writes is a list. No statement of a seat is proved here.
  How the abstract machine's values and memory stand to the model's. No statement of a seat is proved here.
  Memory: what a read gives, what a new block and a write leave. No statement of a seat is proved here.
  Memory: a new block, a write, memory that is not written from here on. No statement of a seat is proved here.
  Memory that is not written from here on: what is seen of it. No statement of a seat is proved here.
-/
import Derived.WalkKit
import Derived.RangeFuncIn
import Derived.RangeFuncRecord
import Derived.RangeFuncLeaves
import Derived.OrdersIn
set_option linter.unusedVariables false
set_option linter.unusedSimpArgs false
set_option linter.unusedSectionVars false
set_option linter.unnecessarySimpa false
namespace Go.Ab
set_option linter.defProp false
def bO := @Option.map_eq_some_iff
def aZ := @Bool.and_eq_true
def fa := @Option.ite_none_right_eq_some
def eC := @List.getElem?_eq_getElem
def iG := @List.getElem?_eq_some_iff
def gE := @Option.bind_eq_some_iff
def gw := @List.take_of_length_le
def jS := @Array.getElem?_eq_getElem
def fy := @Option.bind_some
def fQ := @Option.getD_some
def bD := @Nat.le_refl
def ij := @Array.getElem?_eq_some_iff
def gH := @Option.isSome_iff_exists
def dR := @Option.some.injEq
def dQ := @Bool.not_eq_true'
def fC := @List.mem_of_getElem?
def fW := @List.mem_cons_of_mem
def gG := @List.mem_cons_self
def ff := @Bool.or_eq_true
def kf := @Nat.eq_of_beq_eq_true
def fZ := @List.all_eq_true
def jH := @Bool.false_eq_true
def ke := @Bool.not_eq_false'
def nN := @List.getElem?_append_left
def fe := @Nat.lt_or_ge
def o5 := @List.getElem?_append_right
def mA := @Nat.mul_le_mul_right
def lM := @List.getElem_mem
def iB := @Nat.le_of_lt
def oN := @List.length_append
def nx := @List.length_cons
def lX := @List.mapM_cons
def oM := @List.getElem?_map
def tN := @List.countP_cons_of_neg
def qK := @List.getElem_of_mem
def nM := @List.mem_append
def o4 := @List.filter_cons
def nw := @List.mem_cons
def nu := @Bool.true_and
def Bi := @Array.getElem?_setIfInBounds_ne
def tM := @Option.bind_eq_bind
def qJ := @Nat.lt_succ_self
def p7 := @List.length_map
def sa := @List.mem_flatMap
def mS := @Nat.add_mul
def Fs := @Array.getElem?_setIfInBounds_self_of_lt
def xp := @List.getElem?_eq_none
def sX := @List.length_take
def uC := @List.mem_singleton
def Bh := @Array.getD_eq_getD_getElem?
def Cb := @List.eq_nil_of_length_eq_zero
def xn := @Bool.and_eq_true_iff
def p6 := @List.map_cons
def sW := @Option.pure_def
def sV := @List.append_nil
def zw := @List.mem_of_mem_take
def tL := @List.nil_append
def uB := @Option.getD_none
def vP := @List.countP_cons
def r8 := @List.mem_map
def vO := @List.foldl_cons
def zu := @List.flatMap_cons
def zX := @Classical.not_not
def xm := @Bool.false_and
def xl := @List.mem_range
def Bg := @List.getElem?_take
def uA := @Nat.le_trans
def uy := @Nat.zero_add
def Bf := @Nat.pos_of_ne_zero
def zt := @List.cons.injEq
def En := @Array.getElem?_push_lt
def Ca := @Array.length_toList
def B9 := @Int.toNat_of_nonneg
def xk := @Prod.mk.injEq
def zr := @Bool.and_assoc
def zq := @List.all_cons
def B8 := @List.append_assoc
def Be := @UInt8.toNat_inj
def KT := @Array.eq_empty_of_size_eq_zero
def Em := @Array.ext_getElem?
def El := @Nat.lt_of_lt_of_le
def Fq := @List.mem_of_mem_drop
def Fp := @List.length_pos_iff
def Bd := @Nat.lt_irrefl
def Ip := @Nat.le_of_ble_eq_true
def Fo := @List.getElem?_drop
def Io := @Array.getElem?_toList
def Im := @List.length_filter_le
def Ek := @Option.map_none
def Bc := @Nat.add_zero
def Fm := @Nat.lt_succ_of_lt
def B7 := @Sum.inr.injEq
def KS := @Int.eq_ofNat_of_zero_le
def KR := @List.getElem?_set_self
def Il := @Nat.eq_zero_or_pos
def KQ := @Array.getElem?_modify
def Fl := @List.mem_filter
def Fk := @List.length_nil
def Fj := @List.map_append
def Fi := @Bool.eq_iff_iff
def z0 := @Sum.inl.injEq
def zZ := @Bool.not_true
def zY := @Bool.and_true
def JF := @Array.getElem?_append_left
def Dw := @Nat.lt_trichotomy
def FK := @List.getElem?_set_ne
def BI := @Bool.not_false
def qL := @Eq.symm
def JE := @Array.getElem?_replicate
def Dv := @List.length_drop
def Du := @List.not_mem_nil
def JD := @Nat.add_sub_cancel_left
def JC := @List.countP_cons_of_pos
def sA := @Ne.symm
def FJ := @BitVec.toNat_ofInt
def JB := @List.getElem?_toArray
def NO := @Option.ite_none_left_eq_some
def JA := @List.contains_iff_mem
def Dt := @List.drop_drop
def FI := @UInt32.toNat_inj
def FH := @List.any_eq_true
def FG := @List.flatMap_nil
def FF := @List.take_length
def FE := @Option.bind_none
def Ds := @Bool.false_or
def Jz := @Bool.or_eq_true_iff
def Jy := @List.map_congr_left
def NN := @List.extract_eq_take_drop
def FD := @Nat.min_eq_left
def FC := @List.nodup_cons
def NM := @List.length_filterMap_le
def Dr := @Int.lt_or_le
def Jx := @BitVec.getLsbD_and
def Jw := @BitVec.getLsbD_not
def FB := @Bool.and_false
def NL := @List.getElem?_cons_zero
def Jv := @List.ext_getElem?
def Ju := @List.take_add_one
def Dq := @Nat.zero_le
def Dp := @Nat.le_succ
def NK := @List.range_succ_eq_map
def FA := @List.mapM_nil
def Fz := @List.any_cons
def Jt := @Array.toList_inj
def NJ := @UInt8.lt_iff_toNat_lt
def NI := @Bool.and_eq_false_iff
def Fy := @Bool.or_self
def NH := @List.mem_append_left
def Sv := @List.eq_nil_iff_forall_not_mem
def Fx := @List.map_set
def NG := @Array.toList_extract
def Js := @List.length_set
def NF := @List.range_eq_range'
def ND := @List.replicate_succ
def NC := @Nat.succ_eq_add_one
def NB := @UInt32.toBitVec_and
def NA := @UInt32.toBitVec_not
def Jr := @List.drop_zero
def Fw := @Nat.le_zero
def Fv := @Nat.sub_mul
def Nz := @Nat.lt_or_gt_of_ne
def Ny := @List.mem_filterMap
def Nx := @Array.foldl_toList
def Nw := @List.zip_cons_cons
def Su := @Array.getElem?_append_right
def Jq := @Nat.add_assoc
def Jp := @List.map_take
def Nv := @Int.toNat_natCast
def Nu := @Int.emod_eq_of_lt
def Nt := @List.nodup_append
def Fu := @Array.ext'
def Ft := @Nat.not_lt
def Jo := @List.map_nil
def Jn := @List.map_map
def Jm := @List.all_nil
def Ns := @Nat.min_eq_right
def Jl := @Nat.succ_mul
def Nr := @List.cons_append
def Nq := @List.drop_length
def Jk := @Int.le_refl
structure Ref where
 d:Nat
 t:Nat
 g:Nat
 k:Nat:=0
deriving DecidableEq,Inhabited
inductive AV where
 | v (x:Value)
 | agg (cs:List AV)
 | tup (vs:List AV)
 | cG (esz:Nat) (es:List AV) (cap:Option Nat)
 | cC (r:Ref) (off len:Nat) (cap:Option Nat)
 | fsl (esz:Nat) (es:List AV) (cap:Option Nat)
 | ptr (r:Ref) (i j:Nat)
 | iptr (esz:Nat) (es:List AV) (i j:Nat)
 | fn (f:Fn) (first captured:List AV)
 | ifc (t:TypeId) (x:AV)
 | yld (r:Ref)
 | mp (r:Ref)
 | ch (r:Ref)
 | lp (f:FuncId) (nt:Nat) (ps:List Tmp) (assign body:Code) (tm:List AV)
def AV.undef:AV := .v Go.undef
instance:Inhabited AV:=⟨AV.undef⟩
def AV.cells:AV->List AV
 | .agg cs=>cs
 | x=>[x]
def AV.one:AV->Bool
 | .v (.tuple _) | .v (.agg _) | .agg _ | .tup _ | .fsl .. | .lp .. => false
 | _=>true
structure bA where
 esz:Nat
 es:List AV
 arr:Bool
 k8:Bool
deriving Inhabited
def scalar:Value->Bool
 | .bool _ | .int _ _ | .float _ _ | .complex _ _ _ | .string _=>true
 | .pointer none | .slice none 0 0 | .map none | .chan none | .nilFunc | .nilIface=>true
 | .tuple a=>a.isEmpty
 | _=>false
def jL(x:Value):Option AV:=if scalar x then some (.v x) else none
def ofValue:Value->Option AV
 | .agg cs=>(cs.toList.mapM jL).map .agg
 | .func f first captured=>if first.isEmpty&&captured.isEmpty then some (.fn f [] []) else none
 | .tuple a=>if a.isEmpty then some (.v (.tuple #[])) else (a.toList.mapM jL).map .tup
 | .iface t x=>(jL x).map (.ifc t)
 | x=>jL x
def Ir:AV->Option Value
 | .v x=>some x
 | _=>none
def gI:AV->Option Value
 | .v x=>some x
 | .agg cs=>(cs.mapM Ir).map λl => .agg l.toArray
 | _=>none
def bj{α:Type}(P:Program):Sem α->Option α
 | .pure a=>some a
 | .program k=>bj P (k P)
 | .mark _ k=>bj P k
 | _=>none
abbrev ai:=List (Ref × Option bA)
abbrev db:=Ref->Option bA
def ai.get:ai->Ref->Option bA
 | [],_=>none
 | (r',b) :: h,r=>if r'=r then b else ai.get h r
def ai.gen:ai->Nat->Nat->Nat
 | [],_,_=>0
 | (r',_) :: h,d,t=>if r'.d=d/\r'.t=t then r'.g+1 else ai.gen h d t
def ai.put:ai->Ref->Option bA->ai
 | [],r,b=>[(r,b)]
 | (r',b') :: h,r,b=>if r'=r then (r,b) :: h else (r',b') :: ai.put h r b
def cY:List AV->Nat->AV
 | [],_=>AV.undef
 | x :: _,0=>x
 | _ :: l,n+1=>cY l n
def yN:List AV->Nat->AV->List AV
 | [],0,v=>[v]
 | [],n+1,v=>AV.undef :: yN [] n v
 | _ :: l,0,v=>v :: l
 | x :: l,n+1,v=>x :: yN l n v
structure St where
 tm:List AV
 hp:ai
def aJ(P:Program)(t:TypeId):Option Nat:=(P.info? t).map (·.size)
def nY(P:Program)(t:TypeId):Option Nat:=(P.info? t).map (·.bytes)
def eD(P:Program)(t:TypeId):Option AV:=((P.info? t).bind (·.zero)).bind ofValue
def dB(P:Program)(t:TypeId):Option Bool:=(P.underlying t).map fun | .struct _ | .array _ _=>true | _=>false
def nX(P:Program)(t:TypeId)(f:Nat):Option (Nat × TypeId):=
 match P.underlying t with
 | some (.struct a)=>(a[f]?).map λx=>(x.offset,x.type)
 | _=>none
def dN(P:Program)(t:TypeId):Option TypeId:=
 match P.underlying t with
 | some (.slice e)=>some e
 | _=>none
def jI(P:Program)(t:TypeId):Option (Nat × TypeId):=
 match P.underlying t with
 | some (.array n e)=>some (n,e)
 | _=>none
def bW(es:List AV)(i j n:Nat)(a:Bool):Option AV:=
 match es[i]? with
 | none=>none
 | some e=>
  if a then (if j+n<=e.cells.length/\0<n then some (.agg ((e.cells.drop j).take n)) else none) else e.cells[j]?
def patch(cs:List AV)(j:Nat)(new:List AV):List AV:=cs.take j++new++cs.drop (j+new.length)
def sC(e:AV)(j:Nat)(new:List AV):Option AV:=
 match e with
 | .agg cs=>if j+new.length<=cs.length then some (.agg (patch cs j new)) else none
 | _=>match j,new with
  | 0,[x]=>some x
  | _,_=>none
def jt(es:List AV)(i j:Nat)(new:List AV):Option (List AV):=
 match es[i]? with
 | none=>none
 | some e=>(sC e j new).map λa=>es.set i a
def view(g:db):Nat->AV->Option AV
 | 0,_=>none
 | n+1,x=>
  match x with
  | .v x=>some (.v x)
  | .agg cs=>(cs.mapM (view g n)).map .agg
  | .tup cs=>(cs.mapM (view g n)).map .tup
  | .cG esz es cap=>some (.cG esz es cap)
  | .fsl .. => none
  | .iptr esz es i j=>some (.iptr esz es i j)
  | .cC r off len cap=>
   match g r with
   | some b=>if b.arr=true/\off+len<=b.es.length then some (.cG b.esz ((b.es.drop off).take len) cap) else none
   | none=>none
  | .ptr r i j=>
   match g r with
   | some b=>if b.arr then some (.iptr b.esz b.es i j) else (b.es.mapM (view g n)).map λes => .iptr b.esz es i j
   | none=>none
  | .fn f a b=>match a.mapM (view g n),b.mapM (view g n) with
   | some a,some b=>some (.fn f a b)
   | _,_=>none
  | .ifc t x=>(view g n x).map (.ifc t)
  | .yld _ | .mp _ | .ch _ | .lp .. => none
def ax(g:db):Nat->AV->List Ref
 | 0,_=>[]
 | n+1,x=>
  match x with
  | .agg cs | .tup cs=>cs.flatMap (ax g n)
  | .cC r _ _ _=>[r]
  | .ptr r _ _=>r :: (match g r with | some b=>if b.arr then [] else b.es.flatMap (ax g n) | none=>[])
  | .fn _ a b=>a.flatMap (ax g n)++b.flatMap (ax g n)
  | .ifc _ x=>ax g n x
  | .mp r=>[r]
  | .ch r=>[r]
  | _=>[]
def flat:Nat->AV->Bool
 | 0,_=>false
 | n+1,x=>
  match x with
  | .v _=>true
  | .agg cs | .tup cs=>cs.all (flat n)
  | .ifc _ x=>flat n x
  | .fn _ a b=>a.all (flat n)&&b.all (flat n)
  | _=>false
def cH(H:ai):List Ref->ai
 | []=>H
 | r :: rs=>match H.get r with
  | some b=>cH (H.put r (some { b with k8:=true})) rs
  | none=>cH H rs
def jX(g:db)(rs:List Ref):Bool:=rs.all λr=>match g r with | some b=>b.k8 | none=>false
def depth:Nat:=8
def aM(tm:List AV):Operand->Option AV
 | .tmp t=>some (cY tm t)
 | .const v=>ofValue v
 | .func f=>some (.fn (.func f) [] [])
 | .global _=>none
def intOf:AV->Option Int
 | .v (.int _ n)=>some n
 | _=>none
def Ec:AV->Option Bool
 | .v (.bool b)=>some b
 | _=>none
def bI:Nat:=140737488355328
def cU(g:db):AV->Option (Nat × List AV)
 | .v (.string s)=>some (1,s.data.toList.map λb => .v (.int .u8 b.toNat))
 | .cG esz es _=>some (esz,es)
 | .cC r off len _=>match g r with
  | some b=>if b.arr=true/\off+len<=b.es.length then some (b.esz,(b.es.drop off).take len) else none
  | none=>none
 | _=>none
def bounds(len:Nat)(cap:Option Nat)(a b c:Option Int):Option (Nat × Nat × Option Nat):=
 match c with
 | some m=>
  match b with
  | some h=>if 0<=a.getD 0/\a.getD 0<=h/\h<=m/\m<=cap.getD len/\h<=len then some ((a.getD 0).toNat,h.toNat,some (m.toNat - (a.getD 0).toNat)) else none
  | none=>none
 | none=>if 0<=a.getD 0/\a.getD 0<=b.getD len/\b.getD len<=len then some ((a.getD 0).toNat,(b.getD len).toNat,cap.map (· - (a.getD 0).toNat)) else none
def ma(tm:List AV):Option Operand->Option (Option Int)
 | none=>some none
 | some o=>match (aM tm o).bind intOf with
  | some n=>some (some n)
  | none=>none
def Am(P:Program)(t:TypeId)(cs:List AV)(a:Nat):Option AV:=
 match dB P t,aJ P t with
 | some true,some n=>if a+n<=cs.length then some (.agg ((cs.drop a).take n)) else none
 | some false,_=>cs[a]?
 | _,_=>none
def lE(a:Nat->Option (Nat × Nat))(cells:List AV):List (Nat × AV)->Option (List AV)
 | []=>some cells
 | (i,v) :: rest=>
  match a i with
  | none=>none
  | some (off,size)=>
   if v.cells.length=size/\off+size<=cells.length then lE a (patch cells off v.cells) rest else none
def aA(P:Program)(t:TypeId)(i:Nat):Option (Nat × Nat):=
 match nX P t i with
 | some (off,ft)=>(aJ P ft).map λn=>(off,n)
 | none=>none
def placesOf(P:Program)(t:TypeId):Option (List (Nat × Nat)):=
 match P.underlying t with
 | some (.struct a)=>a.toList.mapM λf=>(P.info? f.type).map λi=>(f.offset,i.size)
 | _=>none
def iL(es:List AV):List (Nat × AV)->Option (List AV)
 | []=>some es
 | (i,v) :: rest=>if i<es.length then iL (es.set i v) rest else none
def iM(tm:List AV)(ps:List (Nat × Operand)):Option (List (Nat × AV)):=
 ps.mapM λ(i,o)=>(aM tm o).map λx=>(i,x)
def CJ(P:Program)(a:BinOp)(t:TypeId)(b c:Operand)(x y:Value):Option Value:=
 bj P (do eqGuard a t b c x y;binOp a t x y)
def wh:AV->Option Nat
 | .v (.slice none 0 0)=>some 0
 | .cG _ es _=>some es.length
 | .cC _ _ n _=>some n
 | _=>none
def Kg(f:Value->Value->Sem Value)(P:Program)(args:List AV):Option AV:=
 match args.mapM Ir with
 | some (x :: rest)=>(bj P (rest.foldlM f x)).bind jL
 | _=>none
def byteOf:AV->Option UInt8
 | .v (.int .u8 n)=>some (UInt8.ofNat n.toNat)
 | _=>none
abbrev jh:=Option (AV × List bA)
def jK(x:Option AV):jh:=x.map (·,[])
def GA(d:Operand->Option AV)(c a b:Operand):jh:=
 match (d c).bind Ec with
 | some true=>jK (d a)
 | some false=>jK (d b)
 | none=>none
def uW(P:Program)(r:Ref)(e:TypeId):jh:=
 match eD P e,aJ P e with
 | some z,some n=>if z.cells.length=n/\z.cells.all AV.one/\0<n then some (.ptr r 0 0,[⟨n,[z],false,false⟩]) else none
 | _,_=>none
def Ka(P:Program)(r:Ref)(e:TypeId)(x:Option AV):jh:=
 match x,aJ P e with
 | some x,some n=>if x.cells.length=n/\x.cells.all AV.one/\0<n then some (.ptr r 0 0,[⟨n,[x],false,false⟩]) else none
 | _,_=>none
def lx(P:Program)(t:TypeId)(a:Option (List (Nat × AV))):jh:=
 match eD P t,a with
 | some (.agg z),some a=>
  match jI P t with
  | some (_,e)=>match aJ P e with
   | some n=>(lE (λi=>some (i * n,n)) z a).map λcs=>(.agg cs,[])
   | none=>none
  | none=>match placesOf P t with
   | some ps=>(lE (ps[·]?) z a).map λcs=>(.agg cs,[])
   | none=>none
 | _,_=>none
def fG(g:db)(a:List (Nat × AV)):Option (List (Nat × AV)):=a.mapM λ(i,x)=>(view g depth x).map (i,·)
def bY(g:db)(xs:List AV):List Ref:=xs.flatMap (ax g depth)
def mkSlice(P:Program)(g:db)(t:TypeId)(n:Nat)(a:List (Nat × AV)):Option bA:=
 match dN P t with
 | none=>none
 | some e=>match fG g a,eD P e,aJ P e with
  | some ws,some z,some s=>
   if 0<s/\n * s<=16777216/\z.cells.length=s/\z.cells.all AV.one/\ws.all (λp=>p.2.cells.length=s&&p.2.cells.all AV.one) then
    (iL (List.replicate n z) ws).map λes=>⟨s,es,true,false⟩
   else none
  | _,_,_=>none
def ik(P:Program)(a:Bool)(g:db)(r:Ref)(t:TypeId)(n:Nat)(c:Option (List (Nat × AV))):jh:=
 match c with
 | none=>none
 | some c=>if jX g (bY g (c.map (·.2))) then (mkSlice P g t n c).map λb=>(if a then (.cG b.esz b.es (some n),[]) else (.cC r 0 n (some n),[b])) else none
def sf(P:Program)(g:db)(t:TypeId)(a:Option AV):jh:=
 match a,dB P t,aJ P t with
 | some (.ptr r' i j),some c,some n=>match g r' with
  | some b=>jK (bW b.es i j n c)
  | none=>none
 | some (.iptr _ es i j),some c,some n=>jK (bW es i j n c)
 | _,_,_=>none
def LM(x:Option AV):jh:=
 match x with
 | some (.ptr r' i j)=>some (.ptr r' i j,[])
 | some (.iptr n es i j)=>some (.iptr n es i j,[])
 | some (.fn (.func f) a b)=>some (.fn (.func f) a b,[])
 | _=>none
def Kq:AV->Bool
 | .cG .. | .cC .. => true
 | _=>false
def oa:AV->Bool
 | .v (.slice none 0 0)=>true
 | _=>false
def bS(P:Program)(a:BinOp)(t:TypeId)(b c:Operand)(x y:Option AV):jh:=
 match x,y with
 | some x,some y=>
  if Kq x&&oa y||Kq y&&oa x then
   match P.underlying t,a with
   | some (.slice _),.eql=>some (.v (.bool false),[])
   | some (.slice _),.neq=>some (.v (.bool true),[])
   | _,_=>none
  else
   match gI x,gI y with
   | some x,some y=>jK ((CJ P a t b c x y).bind jL)
   | _,_=>none
 | _,_=>none
def X7(P:Program)(a:UnOp)(x:Option AV):jh:=
 jK (((x.bind Ir).bind λx=>bj P (Op.unary a x)).bind jL)
def fE(P:Program)(t:TypeId):Bool:=
 match P.underlying t with
 | some (.slice e)=>(match P.underlying e with | some (.int .u8)=>true | _=>false)
 | _=>false
def isStr(P:Program)(t:TypeId):Bool:=match P.underlying t with | some .string=>true | _=>false
def gf(P:Program)(g:db)(r:Ref)(a c:TypeId)(x:Option AV):jh:=
 match x with
 | some (.v (.slice none 0 0))=>if fE P a&&isStr P c then some (.v (.string .empty),[]) else none
 | some (.v (.string s))=>
  if isStr P a&&isStr P c then some (.v (.string s),[])
  else if isStr P a&&fE P c then
   (if s.size<=bI then some (.cC r 0 s.size none,[⟨1,s.data.toList.map λb => .v (.int .u8 b.toNat),true,false⟩]) else none)
  else none
 | some (.v x)=>jK ((bj P (Go.convert a c x)).bind jL)
 | some x=>if fE P a&&isStr P c then
  match cU g x with
  | some (_,es)=>(es.mapM byteOf).map λl=>(.v (.string ⟨l.toArray⟩),[])
  | none=>none
  else if a == c&&fE P a then
   match x with
   | .cC r' _ _ _=>(match g r' with
    | some b=>if b.esz=1 then some (x,[]) else none
    | none=>none)
   | _=>none
  else none
 | none=>none
def sI(P:Program)(t:TypeId)(x:Option AV):jh:=
 match P.underlying t with
 | some (.interface _)=>none
 | some _=>x.map λx=>(.ifc t x,[])
 | none=>none
def xR(f:Fn)(first captured:Option (List AV)):jh:=
 match first,captured with
 | some a,some b=>some (.fn f a b,[])
 | _,_=>none
def Ev(P:Program)(r:Ref)(t:TypeId)(l c:Option AV):jh:=
 match dN P t,l.bind intOf,c.bind intOf with
 | some e,some l,some c=>match eD P e,aJ P e,nY P e with
  | some z,some s,some b=>
   if 0<=l/\l<=c/\c * b<=bI/\c<=9223372036854775807/\0<s/\z.cells.length=s/\z.cells.all AV.one then some (.cC r 0 l.toNat none,[⟨s,List.replicate l.toNat z,true,false⟩]) else none
  | _,_,_=>none
 | _,_,_=>none
def iJ(P:Program)(g:db)(t:TypeId)(x:Option AV)(d e a:Option (Option Int)):jh:=
 match d,e,a with
 | some d,some e,some a=>
  match x with
  | some (.v (.slice none 0 0))=>if ((dN P t).bind (aJ P)).isSome then (bounds 0 (some 0) d e a).map λ_=>(.v (.slice none 0 0),[]) else none
  | some (.v (.string s))=>if isStr P t&&a.isNone then (bounds s.size none d e none).map λ(l,h,_)=>(.v (.string (s.extract l h)),[]) else none
  | some (.cG esz es cap)=>if (dN P t).bind (aJ P)=some esz then (bounds es.length cap d e a).map λ(l,h,c)=>(.cG esz ((es.drop l).take (h - l)) c,[]) else none
  | some (.cC r' off len cap)=>(match g r' with
   | some b=>if (dN P t).bind (aJ P)=some b.esz then (bounds len cap d e a).map λ(l,h,c)=>(.cC r' (off+l) (h - l) c,[]) else none
   | none=>none)
  | _=>none
 | _,_,_=>none
def vY(P:Program)(g:db)(t:TypeId)(x:Option AV)(a c d:Option (Option Int)):jh:=
 match a,c,d,x with
 | some a,some c,some none,some (.cC r' off len cap)=>(match g r' with
  | some b=>if (dN P t).bind (aJ P)=some b.esz/\0<=a.getD 0/\a.getD 0<=c.getD len/\c.getD len<=cap.getD len then
   some (.cC r' (off+(a.getD 0).toNat) ((c.getD len).toNat - (a.getD 0).toNat) (cap.map (· - (a.getD 0).toNat)),[]) else none
  | none=>none)
 | _,_,_,_=>none
def LL(P:Program)(g:db)(t:TypeId)(args:List AV):jh:=
 match args,dN P t with
 | [.cC r _ _ _,.cC r' _ _ _],some e=>(match g r,g r',aJ P e with
  | some b,some b',some z=>if r≠r'/\1<b.esz/\b.esz=z/\b'.esz=z then some (.v (.bool false),[]) else none
  | _,_,_=>none)
 | _,_=>none
def Ew(tZ:FuncId->Option TypeId)(a:Bool)(f:Operand):Option TypeId:=match a,f with
 | false,.func fi=>tZ fi
 | _,_=>none
@[simp] theorem yW(tZ:FuncId->Option TypeId)(f:Operand):Ew tZ true f=none:=by cases f<;>rfl
def iK(P:Program)(t:TypeId)(x:Option AV)(f:Nat):jh:=
 match aA P t f with
 | some (off,s)=>if 0<s then
  match x with
  | some (.ptr r' i j)=>some (.ptr r' i (j+off),[])
  | some (.iptr n es i j)=>some (.iptr n es i (j+off),[])
  | _=>none
  else none
 | none=>none
def uV(P:Program)(t:TypeId)(x:Option AV)(f:Nat):jh:=
 match nX P t f,x with
 | some (off,ft),some (.agg cs)=>jK (Am P ft cs off)
 | _,_=>none
def cT(P:Program)(g:db)(t:TypeId)(x a:Option AV):jh:=
 match a.bind intOf with
 | some k=>
  match dN P t with
  | some e=>match x,aJ P e with
   | some (.cG esz es _),some s=>if 0<=k/\k<es.length/\s=esz then some (.iptr esz es k.toNat 0,[]) else none
   | some (.cC r' off len _),some s=>(match g r' with
    | some b=>if 0<=k/\k<len/\s=b.esz then some (.ptr r' (off+k.toNat) 0,[]) else none
    | none=>none)
   | _,_=>none
  | none=>match jI P t with
   | some (n,e)=>match x,aJ P e with
    | some (.ptr r' i j),some s=>if 0<=k/\k<n then some (.ptr r' i (j+k.toNat * s),[]) else none
    | some (.iptr esz es i j),some s=>if 0<=k/\k<n then some (.iptr esz es i (j+k.toNat * s),[]) else none
    | _,_=>none
   | none=>none
 | none=>none
def qU(P:Program)(t:TypeId)(x a:Option AV):jh:=
 match a.bind intOf,x with
 | some k,some (.agg cs)=>(match jI P t with
  | some (n,e)=>(match aJ P e with
   | some s=>if 0<=k/\k<n then jK (Am P e cs (k.toNat * s)) else none
   | none=>none)
  | none=>none)
 | some k,some (.v (.string s))=>if isStr P t/\0<=k then jK ((s[k.toNat]?).map λb => .v (.int .u8 b.toNat)) else none
 | _,_=>none
def sR(P:Program)(x:Option AV)(a:TypeId)(ok:Bool):jh:=
 match P.underlying a,x with
 | some (.interface _),_=>none
 | some _,some (.ifc t y)=>
  if t=a then some ((if ok then .tup [y,.v (.bool true)] else y),[])
  else if ok then (eD P a).map λz=>(.tup [z,.v (.bool false)],[]) else none
 | some _,some (.v .nilIface)=>if ok then (eD P a).map λz=>(.tup [z,.v (.bool false)],[]) else none
 | _,_=>none
def ti(x:Option AV)(i:Nat):jh:=
 match x with
 | some (.tup a)=>jK (a[i]?)
 | _=>none
def bn(ents:List AV):bA:=⟨0,.v (.bool true) :: ents,false,false⟩
def jO(g:db)(r:Ref):Option (List AV):=match g r with
 | some ⟨0,.v (.bool true) :: ents,false,_⟩=>some ents
 | _=>none
def jm(cap:Nat)(a:Bool)(buf:List AV):bA:=⟨0,.v (.bool false) :: .v (.int .i64 cap) :: .v (.bool a) :: buf,false,false⟩
def O9(g:db)(r:Ref):Option (Nat × Bool × List AV):=match g r with
 | some ⟨0,.v (.bool false) :: .v (.int .i64 cap) :: .v (.bool a) :: buf,false,_⟩=>some (cap.toNat,a,buf)
 | _=>none
def Gf(P:Program)(t:TypeId):Option TypeId:=match P.underlying t with
 | some (.chan _ e)=>some e
 | _=>none
def HL(P:Program)(t:TypeId):Option (TypeId × TypeId):=match P.underlying t with
 | some (.map k e)=>some (k,e)
 | _=>none
def AB:AV->Option Value
 | .tup [k,_]=>gI k
 | _=>none
def G9:AV->Option AV
 | .tup [_,v]=>some v
 | _=>none
def yY(P:Program)(a:Bool)(b:TypeId)(k:Value)(c:List Value):Option (Option Nat):=
 match bj P (Instr.checkKey a 10000 b k) with
 | some _=>(bj P (Instr.findKey b k (c.map λx=>⟨x,Go.undef,0⟩))).map λo=>o.map (·.1)
 | none=>none
def eT(P:Program)(g:db)(t:TypeId)(x k:Option AV)(ok:Bool):jh:=
 match HL P t,x,k.bind gI with
 | some (b,et),some (.mp r),some c=>(match jO g r with
  | some ents=>(match ents.mapM AB with
   | some a=>(match yY P a.isEmpty b c a with
    | some (some i)=>(ents[i]?.bind G9).map λv=>((if ok then .tup [v,.v (.bool true)] else v),[])
    | some none=>(eD P et).map λz=>((if ok then .tup [z,.v (.bool false)] else z),[])
    | none=>none)
   | none=>none)
  | none=>none)
 | _,_,_=>none
def vZ(P:Program)(g:db)(t:Option TypeId)(r:Ref):jh:=
 match t.bind (HL P),jO g r with
 | some _,some ents=>some (.v (.int .i64 ents.length),[])
 | _,_=>none
def Pw:Value->Value->Bool
 | .bool a,.bool b=>a == b
 | .int k n,.int k' d=>decide (k=k')&&decide (n=d)
 | .string s,.string t=>decide (s=t)
 | .slice none a b,.slice none c b'=>Nat.beq a c&&Nat.beq b b'
 | .nilFunc,.nilFunc=>true
 | .nilIface,.nilIface=>true
 | _,_=>false
def Jh:Nat->AV->AV->Bool
 | 0,_,_=>false
 | n+1,x,y=>
  match x,y with
  | .v u,.v v=>Pw u v
  | .agg cs,.agg ds=>Nat.beq cs.length ds.length&&(cs.zip ds).all λp=>Jh n p.1 p.2
  | .cG z es c,.cG d a b=>Nat.beq z d&&decide (c=b)&&Nat.beq es.length a.length&&(es.zip a).all λp=>Jh n p.1 p.2
  | _,_=>false
def IK(r r':Ref):Bool:=Nat.beq r.t r'.t&&Nat.beq r.g r'.g&&Nat.beq r.d r'.d&&Nat.beq r.k r'.k
def By:Nat->AV->AV->Bool
 | 0,_,_=>false
 | n+1,x,y=>
  match x,y with
  | .v u,.v v=>Pw u v
  | .agg cs,.agg ds=>Nat.beq cs.length ds.length&&(cs.zip ds).all λp=>By n p.1 p.2
  | .tup cs,.tup ds=>Nat.beq cs.length ds.length&&(cs.zip ds).all λp=>By n p.1 p.2
  | .cG z es c,.cG k d g=>Nat.beq z k&&decide (c=g)&&Nat.beq es.length d.length&&(es.zip d).all λp=>By n p.1 p.2
  | .cC r a b c,.cC r' e b' g=>IK r r'&&Nat.beq a e&&Nat.beq b b'&&decide (c=g)
  | .ptr r i j,.ptr r' m h=>IK r r'&&Nat.beq i m&&Nat.beq j h
  | .mp r,.mp r'=>IK r r'
  | .ch r,.ch r'=>IK r r'
  | .fn (.func f) a b,.fn (.func o) e b'=>Nat.beq f o&&(Nat.beq a.length e.length&&(a.zip e).all λp=>By n p.1 p.2)&&(Nat.beq b.length b'.length&&(b.zip b').all λp=>By n p.1 p.2)
  | .ifc t x,.ifc t' l=>Nat.beq t t'&&By n x l
  | _,_=>false
def KF(k k':bA):Bool:=Nat.beq k.esz k'.esz&&k.arr == k'.arr&&k.k8 == k'.k8&&Nat.beq k.es.length k'.es.length&&(k.es.zip k'.es).all λp=>By 8 p.1 p.2
def GX(H H':ai):Bool:=H.all λp=>match H.get p.1 with
 | none=>true
 | some k=>match H'.get p.1 with
  | none=>false
  | some k'=>KF k k'
def Uz(xs ys:List AV):Bool:=Nat.beq xs.length ys.length&&(xs.zip ys).all λp=>Jh 8 p.1 p.2
def Kh:List (FuncId × List AV × AV)->FuncId->List AV->Option AV
 | [],_,_=>none
 | (g,xs,y) :: T,f,args=>if Nat.beq g f&&Uz xs args then some y else Kh T f args
def aE(r:Ref):Nat->AV->List bA->AV × List bA
 | 0,x,a=>(x,a)
 | n+1,x,a=>
  match x with
  | .fsl esz es cap=>if esz=0 then (.mp { r with k:=a.length},a++[⟨0,es,false,false⟩]) else (.cC { r with k:=a.length} 0 es.length cap,a++[⟨esz,es,true,false⟩])
  | .agg cs=>let (ys,a):=cs.foldl (λ(p:List AV × List bA) c=>let (y,a):=aE r n c p.2;(p.1++[y],a)) ([],a);(.agg ys,a)
  | .tup cs=>let (ys,a):=cs.foldl (λ(p:List AV × List bA) c=>let (y,a):=aE r n c p.2;(p.1++[y],a)) ([],a);(.tup ys,a)
  | .ifc t x=>let (y,a):=aE r n x a;(.ifc t y,a)
  | x=>(x,a)
inductive xd where
 | fn (f:FuncId)
 | yld (r:Ref)
def At(m:Nat):Bool:=m == 1||m == 3
def CK:Nat->AV->Bool
 | 0,_=>false
 | n+1,x=>
  match x with
  | .v _=>true
  | .agg cs | .tup cs=>cs.all (CK n)
  | .fsl z es _=>z != 0&&es.all (flat depth)
  | .cG _ es _=>es.isEmpty
  | .ifc _ x=>CK n x
  | _=>false
structure Nk where
 f:ai->ai->Bool
 ok : ∀H H',f H H'=true ->∀q k,H.get q=some k->H'.get q=some k
def Uo:Nk:=⟨λ_ _=>false,λ_ _ h=>by cases h⟩
structure Env where
 P:Program
 strict:Oper->Bool
 apart:Array Oper->List (Tmp × Tmp)
 mode:FuncId->Nat
 allowed:FuncId->Bool
 spec:FuncId->List AV->Option AV
 ok:Array Oper->Bool:=λ_=>true
 k8:Oper->Bool:=λ_=>false
 wide:Oper->Bool:=λ_=>false
 tZ:FuncId->Option TypeId:=λ_=>none
 thrSpec:FuncId->List AV->ai->Option (AV × ai):=λ_ _ _=>none
 sm:Nk:=Uo
def kn(E:Env)(pc:FuncId->List AV->Option AV)(g:db)(r:Ref)(f:Option AV)(args:List AV):jh:=
 match f with
 | some (.fn (.func fi) first captured)=>
  if E.mode fi=2 then none else
  match (first++args++captured).mapM (view g depth) with
  | some xs=>match pc fi xs with
   | some y=>if flat depth y||jX g (bY g (first++args++captured))||(E.mode fi == 3&&CK depth y) then some (aE r depth y []) else none
   | none=>none
  | none=>none
 | _=>none
def HN(P:Program)(t:Option TypeId)(x:AV):jh:=
 match t with
 | none=>none
 | some t=>match jI P t with
  | some (n,_)=>some (.v (.int .i64 n),[])
  | none=>if isStr P t then (match x with | .v (.string s)=>some (.v (.int .i64 s.size),[]) | _=>none)
   else if (dN P t).isSome then (wh x).map λn=>(.v (.int .i64 n),[]) else none
def pg(P:Program)(g:db)(e:TypeId)(x:AV):Option (Nat × List AV):=
 match x with
 | .v (.slice none 0 0)=>(aJ P e).map λz=>(z,[])
 | .v (.int _ n)=>match eD P e,aJ P e with
  | some w,some z=>if 0<=n/\n<=bI/\w.cells.length=z/\w.cells.all AV.one then some (z,List.replicate n.toNat w) else none
  | _,_=>none
 | x=>cU g x
def isNum:AV->Bool
 | .v (.int _ _)=>true
 | _=>false
def isInt(P:Program)(t:TypeId):Bool:=match P.underlying t with | some (.int _)=>true | _=>false
def jv(P:Program)(g:db)(r:Ref)(t t':Option TypeId)(s x:AV):jh:=
 match t.bind (dN P) with
 | none=>none
 | some e=>
  if (t'.bind P.underlying).isNone\/(t'.map (isInt P)).getD false≠isNum x then none else
  match aJ P e,nY P e,eD P e,pg P g e x with
  | some z,some a,some d,some (c,new)=>
   if c≠z\/z=0\/a=0\/d.cells.length≠z then none else
   match s with
   | .v (.slice none 0 0)=>if new=[] then some (s,[]) else if new.length * a<=bI then some (.cC r 0 new.length none,[⟨z,new,true,false⟩]) else none
   | .cG n es cap=>if n≠z then none else if new=[] then some (s,[]) else
    match cap with
    | some k=>if k<es.length+new.length/\(es.length+new.length) * a<=bI then some (.cC r 0 (es.length+new.length) none,[⟨z,es++new,true,false⟩]) else none
    | none=>none
   | .cC r' off len cap=>(match g r' with
    | some b=>if b.esz≠z\/b.arr=false then none else if new=[] then some (s,[]) else
     (match cap with
     | some k=>if off+len<=b.es.length/\k<len+new.length/\(len+new.length) * a<=bI then
      some (.cC r 0 (len+new.length) none,[⟨z,(b.es.drop off).take len++new,true,false⟩]) else none
     | none=>none)
    | none=>none)
   | _=>none
  | _,_,_,_=>none
def ZD(P:Program)(t:Option TypeId)(x:AV):jh:=
 match t.bind (dN P),x with
 | some _,.v (.slice none 0 0)=>some (.v (.int .i64 0),[])
 | some _,.cG _ _ (some k)=>some (.v (.int .i64 k),[])
 | some _,.cC _ _ _ (some k)=>some (.v (.int .i64 k),[])
 | _,_=>none
def ck(P:Program)(c:Bool)(g:db)(r:Ref)(b:Builtin)(a:Array TypeId)(args:List AV):jh:=
 match b,args with
 | .len,[.mp r']=>if c then none else vZ P g a[0]? r'
 | .len,[x]=>HN P a[0]? x
 | .min,args=>jK (Kg Builtin.min2 P args)
 | .max,args=>jK (Kg Builtin.max2 P args)
 | .append,[s,x]=>jv P g r a[0]? a[1]? s x
 | .cap,[x]=>ZD P a[0]? x
 | _,_=>none
def Ay(b:Bool)(a:List bA):List bA:=if b then a.map (λk => { k with k8:=true}) else a
def ct(E:Env)(pc:FuncId->List AV->Option AV)(d:Bool)(g:db)(tm:List AV)(r:Ref)(o:Oper):jh:=
 match o.op with
 | .move x | .assign x=>jK (aM tm x)
 | .pick c a b=>GA (aM tm) c a b
 | .alloc e=>uW E.P r e
 | .box e x=>Ka E.P r e (aM tm x)
 | .build t ps=>lx E.P t (iM tm ps.toList)
 | .buildSlice t n ps=>ik E.P (d && !E.strict o) g r t n (iM tm ps.toList)
 | .load t a=>sf E.P g t (aM tm a)
 | .nilCheck x=>LM (aM tm x)
 | .binOp op t q u _=>bS E.P op t q u (aM tm q) (aM tm u)
 | .unOp op _ x=>X7 E.P op (aM tm x)
 | .convert src dst x=>gf E.P g r src dst (aM tm x)
 | .makeInterface t x=>sI E.P t (aM tm x)
 | .makeFunc f first captured=>xR f (first.toList.mapM (aM tm)) (captured.toList.mapM (aM tm))
 | .makeSlice t l c=>Ev E.P r t (aM tm l) (aM tm c)
 | .makeMap _ none=>some (.mp r,[bn []])
 | .lookup t x k ok=>eT E.P g t (aM tm x) (aM tm k) ok
 | .slice t x v m j=>cond (E.wide o && !d) (vY E.P g t (aM tm x) (ma tm v) (ma tm m) (ma tm j)) (iJ E.P g t (aM tm x) (ma tm v) (ma tm m) (ma tm j))
 | .fieldAddr t x f=>iK E.P t (aM tm x) f
 | .field t x f=>uV E.P t (aM tm x) f
 | .indexAddr t x h=>cT E.P g t (aM tm x) (aM tm h)
 | .index t x h=>qU E.P t (aM tm x) (aM tm h)
 | .typeAssert x _ want ok=>sR E.P (aM tm x) want ok
 | .extract x i=>ti (aM tm x) i
 | .call c=>
  match c.args.toList.mapM (aM tm) with
  | none=>none
  | some args=>
   match c.callee with
   | .value f=>(match Ew E.tZ d f with
    | some t=>LL E.P g t args
    | none=>(kn E pc g r (aM tm f) args).map λp=>(p.1,Ay (E.k8 o) p.2))
   | .invoke _ _=>none
   | .builtin b=>ck E.P (d&&(E.strict o || !(match c.args.toList with | [.tmp _]=>true | _=>false))) g r b c.argTypes args
 | _=>none
def keyed(r:Ref):Nat->List bA->ai->ai
 | _,[],g=>g
 | k,b :: a,g=>keyed r (k+1) a (({ r with k:=k},some b) :: g)
abbrev dv:=Option (AV × ai)
def nc(P:Program)(H:ai)(t:TypeId)(a x:Option AV):dv:=
 match a,x,aJ P t with
 | some (.ptr r' i j),some x,some n=>
  match H.get r' with
  | some b=>
   if x.cells.length=n/\x.cells.all AV.one/\b.k8=false then
    (if b.arr=true then
     match view H.get depth x with
     | some y=>if r'∈ax H.get depth x then none else if y.cells.all AV.one=true then (jt b.es i j y.cells).map λes=>(AV.undef,(cH H (ax H.get depth x)).put r' (some { b with es})) else none
     | none=>none
    else (jt b.es i j x.cells).map λes=>(AV.undef,H.put r' (some { b with es})))
   else none
  | none=>none
 | _,_,_=>none
def kg(P:Program)(H:ai)(r:Ref)(t:TypeId)(n:Nat)(a:Option (List (Nat × AV))):dv:=
 match a with
 | none=>none
 | some a=>(mkSlice P H.get t n a).map λb=>(.cC r 0 n (some n),(r,some b) :: cH H (bY H.get (a.map (·.2))))
def mT(E:Env)(pc:FuncId->List AV->Option AV)(tc:xd->List AV->ai->dv)(H:ai)(r:Ref)(f:Option AV)(args:List AV):dv:=
 match f with
 | some (.fn (.func g) first captured)=>
  if E.mode g=2 then tc (.fn g) (first++args++captured) H else
  match (first++args++captured).mapM (view H.get depth) with
  | some xs=>(pc g xs).map λy=>((aE r depth y []).1,keyed r 0 (aE r depth y []).2 (cH H (bY H.get (first++args++captured))))
  | none=>none
 | some (.yld q)=>tc (.yld q) args H
 | _=>none
def p8(b:Bool)(sm:Nk)(H:ai)(x:dv):dv:=match b,x with
 | true,some (y,H')=>if flat depth y&&(GX H H'||sm.f H H') then some (y,H) else none
 | _,x=>x
def mI(P:Program)(H:ai)(t t':Option TypeId)(s x:AV):dv:=
 match t.bind (dN P) with
 | none=>none
 | some e=>
  if (t'.bind P.underlying).isNone\/(t'.map (isInt P)).getD false≠isNum x then none else
  match aJ P e,nY P e,eD P e,pg P H.get e x with
  | some z,some a,some f,some (c,new)=>
   if c≠z\/z=0\/a=0\/new=[]\/f.cells.length≠z then none else
   match s with
   | .cC r' off len none=>(match H.get r' with
    | some b=>if off=0/\b.arr=true/\b.esz=z/\len=b.es.length/\(len+new.length) * a<=bI then
     some (.cC ⟨r'.d,r'.t,H.gen r'.d r'.t,0⟩ 0 (len+new.length) none,(⟨r'.d,r'.t,H.gen r'.d r'.t,0⟩,some ⟨z,b.es++new,true,b.k8⟩) :: H.put r' none) else none
    | none=>none)
   | _=>none
  | _,_,_,_=>none
def KZ(P:Program)(H:ai)(t:Option TypeId)(a x:AV):dv:=
 match t.bind (dN P) with
 | none=>none
 | some e=>match aJ P e with
  | none=>none
  | some z=>match (if oa x then some (z,[]) else cU H.get x) with
   | none=>none
   | some (c,src)=>if c≠z\/z=0 then none else
    match a with
    | .v (.slice none 0 0)=>some (.v (.int .i64 0),H)
    | .cC r' off len _=>(match H.get r' with
     | some b=>
      if b.arr=true/\b.esz=z/\b.k8=false/\off+len<=b.es.length then
       some (.v (.int .i64 (Nat.min src.length len:Nat)),H.put r' (some { b with es:=b.es.take off++src.take (Nat.min src.length len)++b.es.drop (off+Nat.min src.length len)})) else none
     | none=>none)
    | _=>none
def FQ(P:Program)(H:ai)(t:Option TypeId)(c x:AV):dv:=
 match (t.bind (dN P)).bind (aJ P),c,x with
 | some z,.cC r off len _,.cC r2 a zS _=>(match H.get r,H.get r2 with
  | some b,some b2=>
   if b.arr=true/\b2.arr=true/\b.esz=z/\b2.esz=z/\0<z/\b.k8=false/\off<=b.es.length/\a+Nat.min zS len<=b2.es.length then
    some (.v (.int .i64 (Nat.min zS len:Nat)),H.put r (some { b with es:=b.es.take off++(b2.es.drop a).take (Nat.min zS len)++b.es.drop (off+Nat.min zS len)})) else none
  | _,_=>none)
 | _,_,_=>none
def dM(P:Program)(H:ai)(t:TypeId)(m k x:Option AV):dv:=
 match HL P t,m,k,x with
 | some (d,_),some (.mp r),some k,some x=>(match gI k,jO H.get r with
  | some a,some ents=>(match ents.mapM AB with
   | some b=>(match yY P false d a b with
    | some (some i)=>if ((b[i]?).map λc=>Instr.sameBits 10000 c a)=some true then some (AV.undef,H.put r (some (bn (ents.set i (.tup [k,x]))))) else none
    | some none=>some (AV.undef,H.put r (some (bn (ents++[.tup [k,x]]))))
    | none=>none)
   | none=>none)
  | _,_=>none)
 | _,_,_,_=>none
def iH(P:Program)(H:ai)(t:TypeId)(m k:Option AV):dv:=
 match HL P t,m,k with
 | some (d,et),some (.mp r),some k=>(match gI k,jO H.get r with
  | some a,some ents=>(match ents.mapM AB with
   | some b=>(match yY P false d a b with
    | some (some i)=>if ((b[i]?).map λc=>Instr.sameBits 10000 c a)=some true then (ents[i]?.bind G9).map λv=>(.tup [v,.v (.int .i64 i)],H.put r (some (bn (ents.set i (.tup [k,v]))))) else none
    | some none=>(eD P et).map λz=>(.tup [z,.v (.int .i64 ents.length)],H.put r (some (bn (ents++[.tup [k,z]]))))
    | none=>none)
   | none=>none)
  | _,_=>none)
 | _,_,_=>none
def fD(H:ai)(m s x:Option AV):dv:=
 match m,s,x with
 | some (.mp r),some (.v (.int _ n)),some x=>(match jO H.get r with
  | some ents=>if 0<=n then (match ents[n.toNat]? with
   | some (.tup [k,_])=>some (AV.undef,H.put r (some (bn (ents.set n.toNat (.tup [k,x])))))
   | _=>none) else none
  | none=>none)
 | _,_,_=>none
def sD(P:Program)(H:ai)(r:Ref)(t:TypeId)(n:Option AV):dv:=
 match n,(Gf P t).bind (nY P) with
 | some (.v (.int _ n)),some b=>if 0<=n/\n<=1000000/\b<=1000000 then some (.ch r,keyed r 0 [jm n.toNat false []] H) else none
 | _,_=>none
def Bj(H:ai)(c x:Option AV):dv:=
 match c,x with
 | some (.ch r),some x=>(match O9 H.get r with
  | some (cap,false,buf)=>if buf.length<cap/\flat depth x=true then some (AV.undef,H.put r (some (jm cap false (buf++[x])))) else none
  | _=>none)
 | _,_=>none
def aao(ok:Bool)(x:AV)(b:Bool):AV:=if ok then .tup [x,.v (.bool b)] else x
def zx(P:Program)(H:ai)(t:TypeId)(c:Option AV)(ok:Bool):dv:=
 match c,(Gf P t).bind (eD P) with
 | some (.ch r),some z=>(match O9 H.get r with
  | some (cap,a,x :: buf)=>some (aao ok x true,H.put r (some (jm cap a buf)))
  | some (_,true,[])=>some (aao ok z false,H)
  | _=>none)
 | _,_=>none
def Qj:Op->Bool
 | .send .. | .recv .. => true
 | _=>false
def evalW(E:Env)(pc:FuncId->List AV->Option AV)(tc:xd->List AV->ai->dv)(H:ai)(tm:List AV)(r:Ref)(o:Oper):dv:=
 match o.op with
 | .store t a x=>nc E.P H t (aM tm a) (aM tm x)
 | .mapUpdate t m k x | .insert t m k x=>dM E.P H t (aM tm m) (aM tm k) (aM tm x)
 | .mapEntry t m k=>iH E.P H t (aM tm m) (aM tm k)
 | .entryStore _ m s x=>fD H (aM tm m) (aM tm s) (aM tm x)
 | .buildSlice t n ps=>kg E.P H r t n (iM tm ps.toList)
 | .makeChan t n=>sD E.P H r t (aM tm n)
 | .send c x=>Bj H (aM tm c) (aM tm x)
 | .recv t c ok=>zx E.P H t (aM tm c) ok
 | .call c=>
  match c.args.toList.mapM (aM tm) with
  | none=>none
  | some args=>
   match c.callee with
   | .value f=>p8 (E.k8 o) E.sm H (mT E pc tc H r (aM tm f) args)
   | .invoke _ _=>none
   | .builtin b=>
    match b,args with
    | .append,[s,x]=>mI E.P H c.argTypes[0]? c.argTypes[1]? s x
    | .copy,[dst,x]=>cond (E.wide o) (FQ E.P H c.argTypes[0]? dst x) (KZ E.P H c.argTypes[0]? dst x)
    | _,_=>none
 | _=>none
def wanted(ops:Array Oper)(tm:List AV)(o:Oper):Option Bool:=
 match o.guard with
 | none=>some true
 | some (j,want)=>
  match (ops[j]?).bind (·.dst) with
  | some t=>(match cY tm t with
   | .v (.bool b)=>some (b == want)
   | .v (.tuple a)=>if a.isEmpty then some false else none
   | _=>none)
  | none=>some false
def Y7(E:Env):Op->Bool
 | .store .. | .mapUpdate .. | .insert .. | .mapEntry .. | .entryStore .. => true
 | .call c=>match c.callee with
  | .builtin .append | .builtin .copy=>true
  | .value (.func g)=>E.mode g == 2
  | .value (.tmp _)=>true
  | _=>false
 | _=>false
def Bb:Op->Bool
 | .buildSlice .. => true
 | _=>false
def jj(E:Env)(o:Oper):Bool:=(!E.strict o&&Y7 E o.op)||(E.k8 o&&Bb o.op)
def dn(nt:Nat)(tm:List AV)(a:Option Tmp)(x:AV):Option (List AV):=
 match a with
 | none=>some tm
 | some d=>if d<nt then some (yN tm d x) else none
def evalOp(E:Env)(pc:FuncId->List AV->Option AV)(tc:xd->List AV->ai->dv)(nt dep:Nat)(a:Bool)(ops:Array Oper)(o:Oper)(st:St):Option St:=
 match wanted ops st.tm o with
 | none=>none
 | some false=>(dn nt st.tm o.dst AV.undef).map λtm => { st with tm}
 | some true=>
  match ct E pc a st.hp.get st.tm ⟨dep,o.dst.getD 0,st.hp.gen dep (o.dst.getD 0),0⟩ o with
  | some (x,b)=>(dn nt st.tm o.dst x).map λtm=>⟨tm,keyed ⟨dep,o.dst.getD 0,st.hp.gen dep (o.dst.getD 0),0⟩ 0 b st.hp⟩
  | none=>
   if a && !jj E o then none else
   match evalW E pc tc st.hp st.tm ⟨dep,o.dst.getD 0,st.hp.gen dep (o.dst.getD 0),0⟩ o with
   | some (x,H)=>(dn nt st.tm o.dst x).map λtm=>⟨tm,H⟩
   | none=>none
def ng(E:Env)(pc:FuncId->List AV->Option AV)(tc:xd->List AV->ai->dv)(nt dep:Nat)(a:Bool)(ops:Array Oper):List Oper->St->Option St
 | [],st=>some st
 | o :: rest,st=>match evalOp E pc tc nt dep a ops o st with
  | some b=>ng E pc tc nt dep a ops rest b
  | none=>none
def ky(P:Program)(st:St):ResultVar->Option AV
 | .tmp t=>some (cY st.tm t)
 | .cell a t=>match cY st.tm a,dB P t,aJ P t with
  | .ptr r i j,some g,some n=>match st.hp.get r with
   | some b=>bW b.es i j n g
   | none=>none
  | _,_,_=>none
def uU(P:Program)(fn:Func)(st:St):Option AV:=
 match fn.results.toList.mapM (ky P st) with
 | some []=>some (.v (.tuple #[]))
 | some [x]=>some x
 | some xs=>some (.tup xs)
 | none=>none
def codeOk(ok:Array Oper->Bool):Code->Bool
 | .region _ ops draw => !draw||ok ops
 | .seq a b | .cond _ a b=>codeOk ok a&&codeOk ok b
 | .block _ c | .loop c | .scope c=>codeOk ok c
 | .rangeFunc _ _ a b=>codeOk ok a&&codeOk ok b
 | _=>true
def ni(ok:Array Oper->Bool):Item->Bool
 | .code c | .inLoop c=>codeOk ok c
 | _=>true
def vd(E:Env)(run:Option Ref->Nat->Nat->List Item->St->Option St)(dep:Nat)(f:FuncId)(args:List AV)(H:ai):Option (AV × ai):=
 if E.allowed f then
  match E.P.funcs[f]? with
  | some fn=>match fn.body with
   | some c=>if args.length<=fn.ntmps then
    match run none fn.ntmps dep [.code c] ⟨args,H⟩ with
    | some st=>(uU E.P fn st).map (·,st.hp)
    | none=>none
    else none
   | none=>none
  | none=>none
 else none
def dL(g:db):Nat->AV->Option AV
 | 0,_=>none
 | n+1,x=>
  match x with
  | .agg cs=>(cs.mapM (dL g n)).map .agg
  | .tup cs=>(cs.mapM (dL g n)).map .tup
  | .ifc t x=>(dL g n x).map (.ifc t)
  | .cC r 0 len cap=>
   match g r with
   | some b=>if b.arr=true/\len<=b.es.length then some (if b.k8 then .cG b.esz (b.es.take len) cap else .fsl b.esz (b.es.take len) cap) else none
   | none=>none
  | .mp r=>
   match jO g r with
   | some ents=>if ents.all (flat depth) then some (.fsl 0 (.v (.bool true) :: ents) none) else none
   | none=>none
  | x=>view g (n+1) x
def dq(E:Env)(run:Option Ref->Nat->Nat->List Item->St->Option St)(f:FuncId)(args:List AV):Option AV:=
 match E.spec f args with
 | some y=>some y
 | none=>match vd E run 0 f args [] with
  | some (x,H)=>if At (E.mode f)=true then (if (ax H.get depth x).Nodup then dL H.get depth x else none) else view H.get depth x
  | none=>none
def kz(st:Nat)(a:AV):bA:=⟨0,[.v (.int .i64 st),a],false,false⟩
def yZ(H:ai)(r:Ref):Option (Nat × AV):=match H.get r with
 | some ⟨0,[.v (.int .i64 st),inf],_,_⟩=>some (st.toNat,inf)
 | _=>none
def wU(tm:List AV):List Tmp->List AV->List AV
 | t :: a,x :: xs=>wU (yN tm t x) a xs
 | _,_=>tm
def AW(E:Env)(run:Option Ref->Nat->Nat->List Item->St->Option St)(dep:Nat)(r:Ref)(args:List AV)(H:ai):Option (AV × ai):=
 match yZ H r with
 | some (0,.lp f nt ps assign body tm)=>
  if args.length=ps.length/\ps.all (· < nt)=true/\codeOk E.ok assign=true/\codeOk E.ok body=true then
   (match run (some r) nt dep [.code assign,.beginRound,.code body] ⟨wU tm ps args,H⟩ with
   | some st=>(match yZ st.hp r with
    | some (0,_)=>some (.v (.bool true),st.hp)
    | some (n+2,_)=>some (.v (.bool false),st.hp)
    | _=>none)
   | none=>none)
  else none
 | _=>none
def eS(E:Env)(run:Option Ref->Nat->Nat->List Item->St->Option St)(dep:Nat)(t:xd)(args:List AV)(H:ai):Option (AV × ai):=
 match t with
 | .fn f=>(match E.thrSpec f args H with
  | some z=>some z
  | none=>if E.mode f=2 then vd E run (dep+1) f args H else none)
 | .yld r=>AW E run (dep+1) r args H
def wX(rd:Option Ref)(st:St)(n:Nat):Option St:=match rd with
 | none=>if n=2 then some st else none
 | some r=>match yZ st.hp r with
  | some (1,inf)=>some { st with hp:=st.hp.put r (some (kz n inf))}
  | _=>none
def rB(E:Env)(ops:Array Oper):List (Tmp × Tmp):=E.apart ops
def ju:AV->Option Ref
 | .ptr r _ _=>some r
 | .cC r _ _ _=>some r
 | .mp r=>some r
 | .ch r=>some r
 | _=>none
def Et(tm:List AV)(p:Tmp × Tmp):Bool:=match ju (cY tm p.1),ju (cY tm p.2) with
 | some r,some r'=>decide (r≠r')
 | _,_=>true
def xM(st:St)(o:Oper):Bool:=match o.op with
 | .store _ (.tmp t) _=>(match cY st.tm t with
  | .ptr r _ _=>(match st.hp.get r with
   | some b => !b.arr
   | none=>false)
  | _=>true)
 | _=>true
def Y1:Op->Option Tmp
 | .buildSlice _ _ ps=>(match ps.toList with
  | [(_,.tmp t)]=>some t
  | _=>none)
 | _=>none
def Hi(E:Env)(st:St)(o:Oper):Bool := !(E.k8 o&&Bb o.op)||(match Y1 o.op with
 | some t=>(match cY st.tm t with
  | .cC .. => true
  | .v _=>true
  | _=>false)
 | none=>false)
def sT(E:Env)(ops:Array Oper)(st:St):Bool:=(rB E ops).isEmpty||((rB E ops).all (Et st.tm)&&(ops.toList.all (xM st)&&ops.toList.all (Hi E st)))
def cp(E:Env):Nat->(rd:Option Ref)->(nt dep:Nat)->List Item->St->Option St
 | 0,_,_,_,_,_=>none
 | n+1,rd,nt,dep,items,st=>
  match items with
  | []=>(match rd with
   | none=>some st
   | some _=>wX rd st 0)
  | .beginRound :: k=>(match rd with
   | none=>none
   | some r=>match yZ st.hp r with
    | some (0,inf)=>cp E n rd nt dep k { st with hp:=st.hp.put r (some (kz 1 inf))}
    | _=>none)
  | .code c :: k=>
   (match c with
   | .skip | .label _=>cp E n rd nt dep k st
   | .ret=>wX rd st 2
   | .seq a b=>cp E n rd nt dep (.code a :: .code b :: k) st
   | .cond c a b=>
    (match (aM st.tm c).bind Ec with
    | some true=>cp E n rd nt dep (.code a :: k) st
    | some false=>cp E n rd nt dep (.code b :: k) st
    | none=>none)
   | .block id b=>cp E n rd nt dep (.code b :: .inBlock id :: k) st
   | .scope b=>cp E n rd nt dep (.code b :: .inScope b :: k) st
   | .loop b=>cp E n rd nt dep (.code b :: .inLoop b :: k) st
   | .exit id=>(match exitTo id k with
    | some k'=>cp E n rd nt dep k' st
    | none=>if rd.isSome then wX rd st (id+3) else none)
   | .region _ ops draw=>(match ng E (dq E (cp E n)) (eS E (cp E n) dep) nt dep draw ops ops.toList st with
    | some d=>if draw && !sT E ops d then none else cp E n rd nt dep k d
    | none=>none)
   | .rangeFunc g ps assign body=>(match rd,aM st.tm g with
    | none,some (.fn (.func gi) first captured)=>
     (match eS E (cp E n) dep (.fn gi) (first++[.yld ⟨dep,nt,st.hp.gen dep nt,0⟩]++captured)
      ((⟨dep,nt,st.hp.gen dep nt,0⟩,some (kz 0 (.lp 0 nt ps.toList assign body st.tm))) :: st.hp) with
     | some (_,H')=>(match yZ H' ⟨dep,nt,st.hp.gen dep nt,0⟩ with
      | some (0,_)=>cp E n rd nt dep k ⟨st.tm,H'.put ⟨dep,nt,st.hp.gen dep nt,0⟩ none⟩
      | some (2,_)=>some ⟨st.tm,H'.put ⟨dep,nt,st.hp.gen dep nt,0⟩ none⟩
      | some (id+3,_)=>(match exitTo id k with
       | some k'=>cp E n rd nt dep k' ⟨st.tm,H'.put ⟨dep,nt,st.hp.gen dep nt,0⟩ none⟩
       | none=>none)
      | _=>none)
     | none=>none)
    | _,_=>none)
   | _=>none)
  | .inLoop b :: k=>cp E n rd nt dep (.code b :: .inLoop b :: k) st
  | .inBlock _ :: k | .inScope _ :: k=>cp E n rd nt dep k st
  | _=>none
def eI(o:Oper):List Nat:=(o.after.toList.filter (Region.binds .any)).map (·.on)
def BP(a:List Nat):List Nat->Nat
 | []=>0
 | j :: b=>(2 ^ j ||| a.getD j 0) ||| BP a b
def du:List Oper->List Nat->List Nat
 | [],acc=>acc
 | o :: os,acc=>du os (acc++[BP acc (eI o)])
def OO(c:Call):Bool:=match c.args.toList with
 | [.tmp _]=>true
 | _=>false
def jV:Op->Bool
 | .move _ | .assign _ | .pick .. | .binOp .. | .unOp .. | .makeInterface .. | .makeFunc .. | .fieldAddr .. | .field .. | .index .. | .typeAssert .. | .extract .. | .nilCheck _ | .build .. => false
 | .call c=>match c.callee with
  | .builtin .len=>OO c
  | .builtin .min | .builtin .max=>false
  | _=>true
 | _=>true
def Mi:Op->Bool
 | .call c=>(match c.callee with
  | .builtin .len=>true
  | _=>false)
 | _=>false
def xe(E:Env)(o:Oper):Bool:=jV o.op && !(E.strict o&&Mi o.op)
def iQ(ops:Array Oper)(i:Nat):Option Tmp:=(ops[i]?).bind (·.dst)
def lk(E:Env)(ops:Array Oper)(i:Nat):Bool:=(List.range (i+1)).any λj=>match ops[j]? with
 | some o=>jj E o
 | none=>false
def yi(ops:Array Oper)(A:List Nat)(oi a:Oper)(i j:Nat):Bool:=
 (a.dst.isNone||oi.dst != a.dst) &&
 (match a.dst with | some d => !(oi.looksAt ops).contains d||(A.getD i 0).testBit j | none=>true) &&
 (match oi.dst with | some d => !(a.looksAt ops).contains d||(A.getD i 0).testBit j | none=>true)
def OB(E:Env)(ops:Array Oper)(A:List Nat)(oi a:Oper)(i j:Nat):Bool:=
 yi ops A oi a i j &&
 (!(xe E oi&&xe E a&&lk E ops i)||(A.getD i 0).testBit j)
def CC(E:Env)(ops:Array Oper):Bool:=
 (List.range ops.size).all λi=>match ops[i]? with
  | some oi=>(eI oi).all (· < i)&&(!xe E oi||jj E oi||oi.dst.isSome) &&
   (List.range i).all λj=>match ops[j]? with
    | some a=>OB E ops (du ops.toList []) oi a i j
    | none=>true
  | none=>true
def Bv(P:Program):Op->Option Tmp
 | .load _ (.tmp t)=>some t
 | .indexAddr _ (.tmp t) _=>some t
 | .slice _ (.tmp t) _ _ _=>some t
 | .convert _ dst (.tmp t)=>if fE P dst then none else some t
 | .lookup _ (.tmp t) _ _=>some t
 | .call c=>match c.callee with
  | .builtin .len=>(match c.args.toList with
   | [.tmp t]=>some t
   | _=>none)
  | _=>none
 | _=>none
def storeT:Op->Option Tmp
 | .store _ (.tmp t) _=>some t
 | _=>none
def Hl:Op->Option Tmp
 | .call c=>match c.callee with
  | .builtin .append=>(match c.args.toList with
   | .tmp t :: _=>some t
   | _=>none)
  | _=>none
 | _=>none
def RB:Op->Option Tmp
 | .mapUpdate _ (.tmp t) _ _=>some t
 | .insert _ (.tmp t) _ _=>some t
 | .mapEntry _ (.tmp t) _=>some t
 | .entryStore _ (.tmp t) _ _=>some t
 | _=>none
def Gb(o:Op):Option Tmp:=match RB o with
 | some t=>some t
 | none=>Hl o
def pR(E:Env)(o:Oper):Bool:=E.k8 o && !E.strict o&&(match o.op with
 | .call c=>(match c.callee with
  | .value (.func g)=>E.mode g == 2
  | _=>false)
 | _=>false)
def cls(E:Env)(o:Oper):Nat:=
 if xe E o then (if (storeT o.op).isSome then 2 else if (Bv E.P o.op).isSome then 1 else if jj E o then 4 else 3) else 0
def mB(E:Env)(o:Oper):Option Tmp:=match storeT o.op with
 | some t=>some t
 | none=>match Bv E.P o.op with
  | some t=>some t
  | none=>if Bb o.op then Y1 o.op else Gb o.op
def settled(E:Env)(ops:Array Oper)(oi c:Oper):Bool:=match mB E oi,mB E c with
 | some a,some b=>(rB E ops).contains (a,b)||(rB E ops).contains (b,a)
 | _,_=>false
def blind(E:Env)(o:Oper):Bool:=cls E o == 3&&(match o.op with
 | .alloc _ | .makeMap _ none=>true
 | .call c=>c.args.toList.isEmpty&&(match c.callee with
  | .value (.func _)=>true
  | _=>false)
 | _=>false)
def OX(E:Env)(o:Oper):Bool:=cls E o == 3&&(match o.op with
 | .alloc _ | .makeMap _ none=>true
 | _=>false)
def oH(E:Env)(oi a:Oper):Bool:=OX E oi&&((Hl a.op).isSome&&a.dst.isSome)
def qb(E:Env)(oi a:Oper):Bool:=(cls E oi == 2&&Nat.ble 3 (cls E a) && !blind E a)||(cls E a == 2&&Nat.ble 3 (cls E oi) && !blind E oi)||(Nat.ble 3 (cls E oi)&&Nat.ble 3 (cls E a)&&(cls E oi == 4||cls E a == 4) && !oH E oi a && !oH E a oi)
def CQ(b a:Nat):Bool:=(b == 2&&(a == 1||a == 2))||(a == 2&&b == 1)||(b == 1&&a == 4)||(b == 4&&a == 1)
def OM(E:Env)(ops:Array Oper)(A:List Nat)(oi a:Oper)(i j:Nat):Bool:=
 yi ops A oi a i j &&
 (!qb E oi a||(A.getD i 0).testBit j) &&
 (!CQ (cls E oi) (cls E a)||pR E oi||pR E a||(A.getD i 0).testBit j||settled E ops oi a)
def N4(ops:Array Oper)(i:Nat)(t:Option Tmp):Bool:=match t with
 | some t=>(List.range ops.size).all λk=>iQ ops k != some t||decide (k<i)
 | none=>false
def PY(E:Env)(ops:Array Oper)(i:Nat)(o:Oper):Bool:=match cls E o with
 | 0=>true
 | 3=>o.dst.isSome
 | _=>pR E o||N4 ops i (mB E o)
def UA(E:Env)(ops:Array Oper):Bool := !(rB E ops).isEmpty &&
 (List.range ops.size).all λi=>match ops[i]? with
  | some oi=>(eI oi).all (· < i)&&PY E ops i oi &&
   (List.range i).all λj=>match ops[j]? with
    | some a=>OM E ops (du ops.toList []) oi a i j
    | none=>true
  | none=>true
def D7(E:Env)(ops:Array Oper):Bool:=CC E ops||UA E ops
theorem n7{α:Type}{P:Program}{s:Sem α} : ∀ {a:α},bj P s=some a ->∀w,s.run P w = .ok a w:=by
 induction s with
 | pure a=>intro b h w;simp[bj]at h;subst h;rfl
 | program k c=>intro a h w;exact c P h w
 | mark m k c=>intro a h w;exact c h w
 | _=>intro a h;simp[bj]at h
theorem jM{α e:Type}{f:α->Option e} : ∀ {l:List α} {c:List e},l.mapM f=some c->c.length=l.length:=by
 intro l
 induction l with
 | nil=>intro c h;simp at h;subst h;rfl
 | cons a l i=>
  intro c h
  simp only[lX,sW,tM,gE]at h
  obtain⟨b,_,j,d,g⟩:=h
  simp at g
  subst g
  simp[i d]
theorem qV{α e:Type}{f:α->Option e} : ∀ {l:List α} {d:List e},l.mapM f=some d ->∀(i:Nat)(y:e),d[i]?=some y ->∃x,l[i]?=some x/\f x=some y:=by
 intro l
 induction l with
 | nil=>intro d h i y c;simp at h;subst h;simp at c
 | cons a l k=>
  intro d h i y c
  simp only[lX,sW,tM,gE]at h
  obtain⟨b,m,n,g,j⟩:=h
  simp at j
  subst j
  cases i with
  | zero=>simp at c;subst c;exact⟨a,rfl,m⟩
  | succ i=>simp at c;simpa using k g i y c
theorem jN{α d:Type}{f:α->Option d}{l:List α}{b:List d}(h:l.mapM f=some b)(i:Nat)(x:α)(e:l[i]?=some x) : ∃y,b[i]?=some y/\f x=some y:=by
 have j:=jM h
 have c:i<b.length:=by rw[j];exact(iG.1 e).1
 obtain⟨k,a,g⟩:=qV h i b[i] (eC c)
 rw[e]at a
 cases a
 exact⟨_,eC c,g⟩
abbrev Mem:=Nat->Nat->Option Value
structure Loc where
 b:Nat
 esz:Nat
 n:Nat
abbrev Map:=Ref->Option Loc
def ei:Map:=λ_=>none
inductive VR (M:Mem):Map->AV->Value->Prop
 | v {ι x} (h:scalar x=true):VR M ι (.v x) x
 | agg {ι cs vs} (hl:cs.length=vs.size) (h : ∀(i:Nat) c u,cs[i]?=some c->vs[i]?=some u->VR M ι c u):VR M ι (.agg cs) (.agg vs)
 | tup {ι cs vs} (h0:cs≠[]) (hl:cs.length=vs.size) (h : ∀(i:Nat) c u,cs[i]?=some c->vs[i]?=some u->VR M ι c u):VR M ι (.tup cs) (.tuple vs)
 | cG {ι esz es cap a c} (cell:Nat->Nat->Value) (hs:a.spot=none\/es=[]) (hc:es.length<=c) (hk : ∀k,cap=some k->c=k)
  (hm : ∀i j,i<es.length->j<esz->M a.block (a.off+(i * esz+j))=some (cell i j)/\(cell i j).oneCell'=true)
  (he : ∀e∈es,e.cells.length=esz)
  (h : ∀(i j:Nat) e x,es[i]?=some e->e.cells[j]?=some x->VR M ei x (cell i j)):VR M ι (.cG esz es cap) (.slice (some a) es.length c)
 | cC {ι r off len cap l a c} (hr:ι r=some l) (hb:a.block=l.b) (hs:a.spot=none) (ha:c=0\/a.off=off * l.esz) (hc:len<=c) (hn:c=0\/off+c<=l.n)
  (hk : ∀k,cap=some k->c=k) (hz:0<l.esz):VR M ι (.cC r off len cap) (.slice (some a) len c)
 | ptr {ι r i j l} (hr:ι r=some l) (hz:0<l.esz):VR M ι (.ptr r i j) (.pointer (some ⟨l.b,i * l.esz+j,none⟩))
 | iptr {ι esz es i j b o} (cell:Nat->Nat->Value)
  (hm : ∀i j,i<es.length->j<esz->M b (o+(i * esz+j))=some (cell i j)/\(cell i j).oneCell'=true)
  (he : ∀e∈es,e.cells.length=esz)
  (h : ∀(i j:Nat) e x,es[i]?=some e->e.cells[j]?=some x->VR M ei x (cell i j)):VR M ι (.iptr esz es i j) (.pointer (some ⟨b,o+(i * esz+j),none⟩))
 | fn {ι f a b a' b'} (ha:a.length=a'.size) (hb:b.length=b'.size) (h : ∀(i:Nat) c u,a[i]?=some c->a'[i]?=some u->VR M ι c u)
  (h' : ∀(i:Nat) c u,b[i]?=some c->b'[i]?=some u->VR M ι c u):VR M ι (.fn f a b) (.func f a' b')
 | ifc {ι t x u} (h:VR M ι x u):VR M ι (.ifc t x) (.iface t u)
 | yld {ι r l} (hr:ι r=some l) (hz:l.esz=0):VR M ι (.yld r) (.func (.yield l.b) #[] #[])
 | mp {ι r l} (hr:ι r=some l) (hz:l.esz=0):VR M ι (.mp r) (.map (some l.b))
 | ch {ι r l} (hr:ι r=some l) (hz:l.esz=0):VR M ι (.ch r) (.chan (some l.b))
theorem VR.mono{M M':Mem}(C : ∀b o x,M b o=some x->M' b o=some x){ι:Map}{x:AV}{u:Value}(h:VR M ι x u) :
 ∀a:Map,(∀r l,ι r=some l->a r=some l)->VR M' a x u:=by
 induction h with
 | v h=>intro a _;exact .v h
 | agg B _ g=>intro a d;exact .agg B λi c u f q=>g i c u f q a d
 | tup D B _ g=>intro a d;exact .tup D B λi c u f q=>g i c u f q a d
 | cG cell t f z hm he _ g=>
  intro a d
  exact .cG cell t f z (λi j n p=>⟨C _ _ _ (hm i j n p).1,(hm i j n p).2⟩) he λi j e x n p=>g i j e x n p ei (λ_ _ h=>h)
 | cC k w t y f E z m=>intro a d;exact .cC (d _ _ k) w t y f E z m
 | ptr k m=>intro a d;exact .ptr (d _ _ k) m
 | yld k m=>intro a d;exact .yld (d _ _ k) m
 | mp k m=>intro a d;exact .mp (d _ _ k) m
 | ch k m=>intro a d;exact .ch (d _ _ k) m
 | iptr cell hm he _ g=>
  intro a d
  exact .iptr cell (λi j n p=>⟨C _ _ _ (hm i j n p).1,(hm i j n p).2⟩) he λi j e x n p=>g i j e x n p ei (λ_ _ h=>h)
 | fn y w _ _ g A=>intro a d;exact .fn y w (λi c u f q=>g i c u f q a d) λi c u f q=>A i c u f q a d
 | ifc _ g=>intro a d;exact .ifc (g a d)
theorem VR.up{M:Mem}{x:AV}{u:Value}(h:VR M ei x u)(ι:Map):VR M ι x u:=h.mono (λ_ _ _ h=>h) ι (λ_ _ h=>by cases h)
def lR(M:Mem)(ι:Map)(xs:List AV)(us:List Value):Prop:=xs.length=us.length /\∀(i:Nat) x u,xs[i]?=some x->us[i]?=some u->VR M ι x u
theorem lR.nil{M:Mem}{ι:Map}:lR M ι [] []:=⟨rfl,λi x u h=>by simp at h⟩
theorem lR.cons{M:Mem}{ι:Map}{x:AV}{u:Value}{xs:List AV}{us:List Value}(h:VR M ι x u)(c:lR M ι xs us):lR M ι (x :: xs) (u :: us):=
 ⟨by simp[c.1],λi y v a b=>by
  cases i with
  | zero=>simp at a b;subst a;subst b;exact h
  | succ i=>simp at a b;exact c.2 i y v a b⟩
theorem lR.append{M:Mem}{ι:Map}{xs ys:List AV}{us d:List Value}(h:lR M ι xs us)(e:lR M ι ys d):lR M ι (xs++ys) (us++d):=
 ⟨by simp[h.1,e.1],λi y v c b=>by
  rcases fe i xs.length with a | a
  ·rw[nN a]at c
   rw[nN (h.1 ▸ a)]at b
   exact h.2 i y v c b
  ·rw[o5 a]at c
   rw[o5 (h.1 ▸ a)]at b
   rw[<-h.1]at b
   exact e.2 _ y v c b⟩
theorem lR.mono{M M':Mem}{ι a:Map}{xs:List AV}{us:List Value}(h:lR M ι xs us)(f : ∀b o x,M b o=some x->M' b o=some x)(c : ∀r l,ι r=some l->a r=some l):lR M' a xs us:=
 ⟨h.1,λi x u d e=>(h.2 i x u d e).mono f a c⟩
theorem lR.take{M:Mem}{ι:Map}{xs:List AV}{us:List Value}(h:lR M ι xs us)(n:Nat):lR M ι (xs.take n) (us.take n):=
 ⟨by simp[h.1],λi x u a b=>by
  rw[Bg]at a b
  split at a
  ·rename_i c;rw[if_pos c]at b;exact h.2 i x u a b
  ·cases a⟩
theorem lR.drop{M:Mem}{ι:Map}{xs:List AV}{us:List Value}(h:lR M ι xs us)(n:Nat):lR M ι (xs.drop n) (us.drop n):=
 ⟨by simp[h.1],λi x u a b=>by
  rw[Fo]at a b
  exact h.2 _ x u a b⟩
theorem VR.rD{M:Mem}{ι:Map}{cs:List AV}{b:Array Value}:VR M ι (.agg cs) (.agg b)↔lR M ι cs b.toList:=
 ⟨λh=>by cases h with | agg e h=>exact⟨by simpa using e,λi x u f a=>h i x u f (by simpa using a)⟩,
  λh => .agg (by simpa using h.1) λi c u d a=>h.2 i c u d (by simpa using a)⟩
theorem VR.cells{M:Mem}{ι:Map}{x:AV}{u:Value}(h:VR M ι x u):lR M ι x.cells u.cells.toList:=by
 have one : ∀ {x:AV} {u:Value},VR M ι x u->x.cells=[x]->u.cells = #[u]->lR M ι x.cells u.cells.toList:=by
  intro x u h l f
  rw[l,f]
  exact lR.cons h lR.nil
 cases h with
 | agg k h=>exact⟨by simpa [AV.cells,Value.cells] using k,λi x u l f=>h i x u (by simpa [AV.cells] using l) (by simpa [Value.cells] using f)⟩
 | v h=>
  refine one (.v h) rfl ?_
  cases u<;>first | rfl | (simp[scalar]at h)
 | tup m k h=>exact one (.tup m k h) rfl rfl
 | cG cell c g j hm he h=>exact one (.cG cell c g j hm he h) rfl rfl
 | cC a d c e g o j b=>exact one (.cC a d c e g o j b) rfl rfl
 | ptr a b=>exact one (.ptr a b) rfl rfl
 | yld a b=>exact one (.yld a b) rfl rfl
 | mp a b=>exact one (.mp a b) rfl rfl
 | ch a b=>exact one (.ch a b) rfl rfl
 | iptr cell hm he h=>exact one (.iptr cell hm he h) rfl rfl
 | fn e d h n=>exact one (.fn e d h n) rfl rfl
 | ifc h=>exact one (.ifc h) rfl rfl
theorem VR.one{M:Mem}{ι:Map}{x:AV}{u:Value}(h:VR M ι x u)(a:x.one=true):u.oneCell'=true:=by
 cases h with
 | v h=>cases u<;>first | rfl | (simp[AV.one]at a)
 | agg b h=>simp[AV.one]at a
 | tup c b h=>simp[AV.one]at a
 | cG=>rfl
 | cC=>rfl
 | ptr=>rfl
 | iptr=>rfl
 | fn=>rfl
 | ifc=>rfl
 | yld=>rfl
 | mp=>rfl
 | ch=>rfl
theorem n8{M:Mem}{ι:Map}{u:Value}{x:AV}(h:jL u=some x):VR M ι x u:=by
 unfold jL at h
 split at h
 ·cases h;exact .v (by assumption)
 ·cases h
theorem CO{M:Mem}{ι:Map}{us:List Value}{xs:List AV}(h:us.mapM jL=some xs):lR M ι xs us:=
 ⟨jM h,λi x u b c=>by
  obtain⟨e,a,d⟩:=qV h i x b
  rw[c]at a;cases a
  exact n8 d⟩
theorem jC{M:Mem}{ι:Map}{u:Value}{x:AV}(h:ofValue u=some x):VR M ι x u:=by
 cases u with
 | agg cs=>
  simp only[ofValue,bO]at h
  obtain⟨xs,d,rfl⟩:=h
  exact VR.rD.2 (CO d)
 | func f a b=>
  simp only[ofValue]at h
  split at h
  ·rename_i j
   cases h
   simp at j
   obtain⟨rfl,rfl⟩:=j
   exact .fn rfl rfl (λi c u g=>by simp at g) (λi c u g=>by simp at g)
  ·cases h
 | tuple o=>
  simp only[ofValue]at h
  split at h
  ·rename_i k
   simp at k
   subst k
   cases h
   exact .v rfl
  ·rename_i k
   simp only[bO]at h
   obtain⟨xs,d,rfl⟩:=h
   have l:=CO (M:=M) (ι:=ι) d
   refine .tup ?_ (by simpa using l.1) λi c u g m=>l.2 i c u g (by simpa using m)
   intro e
   subst e
   have:=l.1
   simp at this
   exact k (by simpa using KT this.symm)
 | iface t x=>
  simp only[ofValue,bO]at h
  obtain⟨y,n,rfl⟩:=h
  exact .ifc (n8 n)
 | _=>exact n8 (by simpa [ofValue] using h)
theorem NX{M:Mem}{ι:Map}{x:AV}{u v:Value}(h:VR M ι x u)(a:Ir x=some v):u=v:=by
 cases h<;>simp[Ir]at a
 exact a
theorem uR{M:Mem}{ι:Map}{x:AV}{u v:Value}(h:VR M ι x u)(f:gI x=some v):u=v:=by
 cases h<;>simp[gI]at f
 ·exact f
 ·rename_i cs g n m
  obtain⟨l,a,rfl⟩:=f
  congr 1
  apply Em
  intro i
  rcases fe i g.size with e | e
  ·have d:=jM a
   have b:i<l.length:=by omega
   obtain⟨c,j,k⟩:=qV a i l[i] (eC b)
   have:=NX (m i c g[i] j (jS e)) k
   simp[this,jS e,eC b]
  ·have d:=jM a
   rw[Array.getElem?_eq_none e]
   simp
   omega
def bA.map(k:bA)(ι:Map):Map:=if k.arr then ei else ι
def Dk(z a:Nat)(fz:Nat × Nat):Prop:=(∀o,o<a ->¬(fz.1<=o/\(o<fz.2\/fz.2<fz.1)))/\(1<z ->¬(fz.1<=a/\a<fz.2))
theorem Dk.zero(z n:Nat):Dk z n (0,0):=⟨λo _ h=>by simp at h,λ_ h=>by simp at h⟩
structure fV (M:Mem) (ι:Map) (w:World) (l:Loc) (k:bA):Prop where
 esz:l.esz=k.esz
 heap : ∃arr T fz,w.heap[l.b]?=some (.cells arr T fz)/\arr.size=l.n * k.esz/\Dk k.esz arr.size fz /\
  ∀(i j:Nat) e x,k.es[i]?=some e->e.cells[j]?=some x ->∃u,arr[i * k.esz+j]?=some u/\u.oneCell'=true/\VR M (k.map ι) x u
 len:k.es.length<=l.n
 cells : ∀e∈k.es,e.cells.length=k.esz
 frozen : ∀o x,M l.b o=some x->k.k8=true/\o<k.es.length * k.esz
def Cr(n:Nat)(r:Loop):Prop:=match n with
 | 0=>r.state = .ready/\r.pending=none
 | 1=>r.state = .busy
 | 2=>r.state = .done/\r.pending=some .ret
 | id+3=>r.state = .done/\r.pending=some (.exit id)
def Ht(M:Mem)(ι:Map)(w:World)(l:Loc)(k:bA):Prop:=
 ∃(n nt:Nat) (ps:List Tmp) (assign body:Code) (tm:List AV) (r:Loop),k.esz=0/\k.arr=false/\k.es=[.v (.int .i64 n),.lp 0 nt ps assign body tm]/\w.heap[l.b]?=some (.loop r)/\r.params=ps.toArray/\r.assign=assign/\r.body=body /\
  r.tmps.size=nt/\(∀t,VR M ι (cY tm t) (r.tmps.getD t undef))/\Cr n r
def Nm(M:Mem)(ι:Map)(w:World)(l:Loc)(k:bA):Prop:=
 ∃(ents:List AV) (a:Array MapEntry),k.esz=0/\k.arr=false/\k.es = .v (.bool true) :: ents/\w.heap[l.b]?=some (.map a a.size)/\a.size=ents.length /\
  ∀(i:Nat) ent e,ents[i]?=some ent->a[i]?=some e ->∃d c,ent = .tup [d,c]/\gI d=some e.key/\VR M ι c e.val/\e.born=i
def Hv(M:Mem)(ι:Map)(w:World)(l:Loc)(k:bA):Prop:=
 ∃(cap s r:Nat) (a:Bool) (buf:List AV) (arr:Array Value),k.esz=0/\k.arr=false/\k.es = .v (.bool false) :: .v (.int .i64 cap) :: .v (.bool a) :: buf/\w.heap[l.b]?=some (.chan cap arr a s r false) /\
  arr.size=buf.length /\∀(i:Nat) x u,buf[i]?=some x->arr[i]?=some u->VR M ι x u
def m8(M:Mem)(ι:Map)(w:World)(l:Loc)(k:bA):Prop:=Ht M ι w l k\/Nm M ι w l k\/Hv M ι w l k
structure oV (M:Mem) (ι:Map) (w:World) (l:Loc) (k:bA):Prop where
 esz:l.esz=k.esz
 cellsOk:0<k.esz->fV M ι w l k
 objOk:k.esz=0->m8 M ι w l k
 frozen : ∀o x,M l.b o=some x->k.k8=true/\o<k.es.length * k.esz
theorem fV.Sg{M:Mem}{ι:Map}{w:World}{l:Loc}{k:bA}(h:fV M ι w l k)(a:0<k.esz):oV M ι w l k:=⟨h.esz,λ_=>h,λe=>by omega,h.frozen⟩
theorem m8.zero{M:Mem}{ι:Map}{w:World}{l:Loc}{k:bA}(h:m8 M ι w l k):k.esz=0/\k.arr=false:=by
 rcases h with ⟨n,nt,ps,as,c,tm,r,a,b,_⟩ | ⟨ents,entries,a,b,_⟩ | ⟨_,_,_,_,_,_,a,b,_⟩
 ·exact⟨a,b⟩
 ·exact⟨a,b⟩
 ·exact⟨a,b⟩
theorem m8.obj{M:Mem}{ι:Map}{w:World}{l:Loc}{k:bA}(h:m8 M ι w l k):(∃r,w.heap[l.b]?=some (.loop r))\/(∃es c,w.heap[l.b]?=some (.map es c)) \/∃a b c d e f,w.heap[l.b]?=some (.chan a b c d e f):=by
 rcases h with ⟨n,nt,ps,as,g,tm,r,_,_,_,h,_⟩ | ⟨ents,entries,_,_,_,h,_⟩ | ⟨_,_,_,_,_,_,_,_,_,h,_⟩
 ·exact .inl ⟨_,h⟩
 ·exact .inr (.inl ⟨_,_,h⟩)
 ·exact .inr (.inr ⟨_,_,_,_,_,_,h⟩)
theorem m8.same{M:Mem}{ι:Map}{w:World}{l:Loc}{k k':bA}(h:m8 M ι w l k)(f:k'.esz=k.esz)(g:k'.arr=k.arr)(i:k'.es=k.es):m8 M ι w l k':=by
 rcases h with ⟨n,nt,ps,as,j,tm,r,a,d,e,b⟩ | ⟨ents,entries,a,d,e,b⟩ | ⟨c,s,r,m,buf,arr,a,d,e,b⟩
 ·exact .inl ⟨n,nt,ps,as,j,tm,r,f.trans a,g.trans d,i.trans e,b⟩
 ·exact .inr (.inl ⟨ents,entries,f.trans a,g.trans d,i.trans e,b⟩)
 ·exact .inr (.inr ⟨c,s,r,m,buf,arr,f.trans a,g.trans d,i.trans e,b⟩)
theorem m8.Sg{M:Mem}{ι:Map}{w:World}{l:Loc}{k:bA}(h:m8 M ι w l k)(c:l.esz=0)(a : ∀o x,M l.b o=some x->False):oV M ι w l k:=
 ⟨by rw[c,h.zero.1],λe=>by have:=h.zero.1;omega,λ_=>h,λo x d=>(a o x d).elim⟩
theorem oV.pos{M:Mem}{ι:Map}{w:World}{l:Loc}{k:bA}(h:oV M ι w l k)(a:k.arr=true):0<k.esz:=by
 rcases Il k.esz with e | e
 ·have:=(h.objOk e).zero.2;rw[a]at this;cases this
 ·exact e
structure gA (M:Mem) (ι:Map) (g:db) (w:World):Prop where
 mem : ∀b o x,M b o=some x->w.cell? ⟨b,o,none⟩=some x
 live : ∀r k,g r=some k ->∃l,ι r=some l/\oV M ι w l k
 inj : ∀r r' k k' l l',g r=some k->g r'=some k'->ι r=some l->ι r'=some l'->l.b=l'.b->r=r'
theorem gA.at{M:Mem}{ι:Map}{g:db}{w:World}(e:gA M ι g w){r:Ref}{b:bA}{l:Loc}(f:ι r=some l)(h:0<l.esz)(d:g r=some b):fV M ι w l b:=by
 obtain⟨i,a,c⟩:=e.live r b d
 rw[f]at a;cases a
 exact c.cellsOk (by have:=c.esz;omega)
theorem m8.mono{M M':Mem}{ι d:Map}{w w':World}{l:Loc}{k:bA}(h:m8 M ι w l k)(y : ∀b o x,M b o=some x->M' b o=some x)(f : ∀r l,ι r=some l->d r=some l)(A:w'.heap[l.b]?=w.heap[l.b]?):m8 M' d w' l k:=by
 rcases h with ⟨n,nt,ps,as,I,tm,r,m,B,g,j,q,p,v,G,D,E⟩ | ⟨ents,entries,m,g,j,q,p,v⟩ | ⟨c,s,r,J,buf,arr,m,g,j,q,p,v⟩
 ·exact .inl ⟨n,nt,ps,as,I,tm,r,m,B,g,by rw[A];exact j,q,p,v,G,λt=>(D t).mono y d f,E⟩
 ·exact .inr (.inl ⟨ents,entries,m,g,j,by rw[A];exact q,p,λi z e a b=>by obtain⟨H,F,L,K,C⟩:=v i z e a b;exact⟨H,F,L,K,C.1.mono y d f,C.2⟩⟩)
 ·exact .inr (.inr ⟨c,s,r,J,buf,arr,m,g,j,by rw[A];exact q,p,λi x u a b=>(v i x u a b).mono y d f⟩)
structure tA (M:Mem) (ι:Map) (g:db) (w:World) (M':Mem) (ι':Map) (g':db) (w':World):Prop where
 os:w'.os=w.os
 tape:w'.tape=w.tape
 output:w'.output=w.output
 size:w.heap.size<=w'.heap.size
 chg : ∀b,b<w.heap.size->(∀r k l,g r=some k->ι r=some l->l.b≠b)->w'.heap[b]?=w.heap[b]?
 mem : ∀b o x,M b o=some x->M' b o=some x
 map : ∀r l,ι r=some l->ι' r=some l
 live : ∀r k l,g' r=some k->ι' r=some l->w.heap.size<=l.b \/∃r0 k0 l0,g r0=some k0/\ι r0=some l0/\l0.b=l.b
 new : ∀b o x,M' b o=some x->M b o=some x\/w.heap.size<=b \/∃r0 k0 l0,g r0=some k0/\ι r0=some l0/\l0.b=b
theorem tA.refl{M:Mem}{ι:Map}{g:db}{w:World}:tA M ι g w M ι g w:=
 ⟨rfl,rfl,rfl,bD _,λ_ _ _=>rfl,λ_ _ _ h=>h,λ_ _ h=>h,λr k l h a => .inr ⟨r,k,l,h,a,rfl⟩,λ_ _ _ h => .inl h⟩
theorem tA.trans{M ι g w M' ι' g' w' M'' ι'' g'' w''}(h:tA M ι g w M' ι' g' w')(d:tA M' ι' g' w' M'' ι'' g'' w''):tA M ι g w M'' ι'' g'' w'':=by
 have i : ∀b,b<w.heap.size->(∀r k l,g r=some k->ι r=some l->l.b≠b) ->∀r k l,g' r=some k->ι' r=some l->l.b≠b:=by
  intro b u c r k l v p e
  rcases h.live r k l v p with a | ⟨t,m,n,a,q,f⟩
  ·omega
  ·exact c t m n a q (f.trans e)
 refine⟨d.os.trans h.os,d.tape.trans h.tape,d.output.trans h.output,uA h.size d.size,?_,λb o x y=>d.mem b o x (h.mem b o x y),
  λr l p=>d.map r l (h.map r l p),?_,?_⟩
 ·intro b u c
  rw[d.chg b (El u h.size) (i b u c),h.chg b u c]
 ·intro r k l v p
  rcases d.live r k l v p with a | ⟨t,m,n,a,q,f⟩
  ·exact .inl (uA h.size a)
  ·rcases h.live t m n a q with j | ⟨r1,z,A,j,C,B⟩
   ·exact .inl (f ▸ j)
   ·exact .inr ⟨r1,z,A,j,C,B.trans f⟩
 ·intro b o x y
  rcases d.new b o x y with a | a | ⟨t,m,n,a,q,f⟩
  ·exact h.new b o x a
  ·exact .inr (.inl (uA h.size a))
  ·rcases h.live t m n a q with j | ⟨r1,z,A,j,C,B⟩
   ·exact .inr (.inl (f ▸ j))
   ·exact .inr (.inr ⟨r1,z,A,j,C,B.trans f⟩)
theorem ld{w:World}{b o:Nat}{arr:Array Value}{T:TypeId}{fz:Nat × Nat}(h:w.heap[b]?=some (.cells arr T fz)):w.cell? ⟨b,o,none⟩=arr[o]?:=by
 simp[World.cell?,h]
theorem iE(b o n:Nat):(⟨b,o,none⟩:Addr).add n=⟨b,o+n,none⟩:=by
 unfold Addr.add;split<;>simp_all
theorem lf{a:Addr}(h:a.spot=none):a=⟨a.block,a.off,none⟩:=by cases a;simp_all
theorem yM{P:Program}{t:TypeId}{n:Nat}(h:aJ P t=some n) : ∃i,P.info? t=some i/\i.size=n:=by
 simpa [aJ] using h
theorem run_sizeOf{P:Program}{t:TypeId}{n:Nat}(h:aJ P t=some n)(w:World):(sizeOf t).run P w = .ok n w:=by
 obtain⟨i,a,rfl⟩:=yM h
 simp[sizeOf,typeInfo,a]
theorem bu{P:Program}{t:TypeId}{d:TypeDesc}(h:P.underlying t=some d)(w:World):(underlying t).run P w = .ok d w:=by
 simp[underlying,h]
theorem AT{P:Program}{t:TypeId}{b:Bool}(h:dB P t=some b)(w:World):(isAgg t).run P w = .ok b w:=by
 simp only[dB,bO]at h
 obtain⟨d,a,rfl⟩:=h
 simp only[isAgg,Sem.run_bind,bu a,Result.andThen_ok]
 cases d<;>rfl
theorem xO{P:Program}{t:TypeId}{z:AV}(h:eD P t=some z)(w:World) : ∃u,(zeroValue t).run P w = .ok u w/\ofValue u=some z:=by
 simp only[eD,gE]at h
 obtain⟨u,⟨i,b,a⟩,hu⟩:=h
 exact⟨u,by simp[zeroValue,typeInfo,b,a],hu⟩
def Cells(M:Mem)(ι:Map)(w:World)(b o:Nat)(xs:List AV):Prop:=
 ∀(j:Nat) x,xs[j]?=some x ->∃u,w.cell? ⟨b,o+j,none⟩=some u/\u.oneCell'=true/\VR M ι x u
theorem Cells.values{M ι w b o}{xs:List AV}(h:Cells M ι w b o xs) : ∃us:List Value,lR M ι xs us/\(∀u∈us,u.oneCell'=true) /\∀(j:Nat) u,us[j]?=some u->w.cell? ⟨b,o+j,none⟩=some u:=by
 induction xs generalizing o with
 | nil=>exact⟨[],lR.nil,by simp,by simp⟩
 | cons x xs d=>
  obtain⟨u,hu,f,c⟩:=h 0 x rfl
  obtain⟨us,g,e,i⟩:=d (o:=o+1) λj y k=>by
   have:=h (j+1) y (by simpa using k)
   rwa [show o+(j+1)=o+1+j by omega]at this
  refine⟨u :: us,lR.cons c g,by simpa [f] using e,?_⟩
  intro j v a
  cases j with
  | zero=>simp at a;subst a;exact hu
  | succ j=>
   simp at a
   have:=i j v a
   rwa [show o+(j+1)=o+1+j by omega]
theorem Cells.sub{M ι w b o}{xs:List AV}(h:Cells M ι w b o xs)(j n:Nat):Cells M ι w b (o+j) ((xs.drop j).take n):=by
 intro i x a
 rw[Bg]at a
 split at a
 ·rw[Fo]at a
  obtain⟨u,d,c⟩:=h _ x a
  exact⟨u,by rwa [show o+j+i=o+(j+i) by omega],c⟩
 ·cases a
theorem vX{P:Program}{t:TypeId}{f:Bool}{n:Nat}(g:dB P t=some f)(m:aJ P t=some n){M ι w b o}{cs:List AV}{j:Nat}{y:AV}
 (h:Cells M ι w b o cs)
 (e:(if f then (if j+n<=cs.length/\0<n then some (AV.agg ((cs.drop j).take n)) else none) else cs[j]?)=some y) :
 ∃u,(loadVar t ⟨b,o+j,none⟩).run P w = .ok u w/\VR M ι y u:=by
 cases f with
 | false=>
  simp at e
  obtain⟨u,hu,_,p⟩:=h j y e
  exact⟨u,by simp[loadVar,AT g,hu],p⟩
 | true=>
  simp at e
  obtain⟨⟨q,x⟩,rfl⟩:=e
  obtain⟨us,c,_,a⟩:=(h.sub j n).values
  have d:us.length=n:=by rw[<-c.1];simp;omega
  refine⟨.agg us.toArray,?_,VR.rD.2 (by simpa using c)⟩
  have i:=run_loadCells_list (P:=P) w ⟨b,o+j,none⟩ us (λk v l=>by rw[iE];exact a k v l)
  rw[d]at i
  simp[loadVar,AT g,run_sizeOf m,i]
theorem fV.cell{M ι w l k}(h:fV M ι w l k)(i:Nat){e:AV}(c:k.es[i]?=some e):Cells M (k.map ι) w l.b (i * k.esz) e.cells:=by
 obtain⟨arr,T,fz,m,_,_,a⟩:=h.heap
 intro j x g
 obtain⟨u,hu,d,f⟩:=a i j e x c g
 exact⟨u,by rw[ld m];exact hu,d,f⟩
theorem bA.map_le(k:bA)(ι:Map) : ∀r l,k.map ι r=some l->ι r=some l:=by
 intro r l h
 unfold bA.map at h
 split at h
 ·cases h
 ·exact h
theorem P0{P:Program}{t:TypeId}{d:Bool}{n:Nat}(m:dB P t=some d)(v:aJ P t=some n){M ι g w}(x:gA M ι g w)
 {r:Ref} {i j:Nat} {k:bA} {y:AV} {a:Value} (o:VR M ι (.ptr r i j) a) (q:g r=some k) (b:bW k.es i j n d=some y) :
 ∃u,(Instr.loadAt t a).run P w = .ok u w/\VR M ι y u:=by
 cases o with | ptr A l=>
 have c:=x.at A l q
 unfold bW at b
 split at b
 ·cases b
 ·rename_i e z
  obtain⟨u,f,p⟩:=vX m v (c.cell i z) b
  refine⟨u,?_,p.mono (λ_ _ _ h=>h) ι (k.map_le ι)⟩
  rw[<-c.esz]at f
  simp[Instr.loadAt,Instr.sureAddr,f]
theorem Cells.ZR{M:Mem}{w:World}(l : ∀b o x,M b o=some x->w.cell? ⟨b,o,none⟩=some x){esz b o i:Nat}{es:List AV}{cell:Nat->Nat->Value}
 (f : ∀i j,i<es.length->j<esz->M b (o+(i * esz+j))=some (cell i j)/\(cell i j).oneCell'=true)
 (k : ∀e∈es,e.cells.length=esz) (h : ∀(i j:Nat) e x,es[i]?=some e->e.cells[j]?=some x->VR M ei x (cell i j)) {e:AV} (c:es[i]?=some e):Cells M ei w b (o+i * esz) e.cells:=by
 intro j x g
 have d:j<esz:=by
  rw[<-k e (fC c)]
  exact(iG.1 g).1
 have a:i<es.length:=(iG.1 c).1
 refine⟨cell i j,?_,(f i j a d).2,h i j e x c g⟩
 rw[show o+i * esz+j=o+(i * esz+j) by omega]
 exact l _ _ _ (f i j a d).1
theorem UN{P:Program}{t:TypeId}{d:Bool}{n:Nat}(k:dB P t=some d)(p:aJ P t=some n){M ι w}(v : ∀b o x,M b o=some x->w.cell? ⟨b,o,none⟩=some x)
 {esz i j:Nat} {es:List AV} {y:AV} {a:Value} (l:VR M ι (.iptr esz es i j) a) (c:bW es i j n d=some y) :
 ∃u,(Instr.loadAt t a).run P w = .ok u w/\VR M ι y u:=by
 cases l with | iptr cell m he h=>
 rename_i b o
 unfold bW at c
 split at c
 ·cases c
 ·rename_i e g
  obtain⟨u,f,q⟩:=vX k p (Cells.ZR v m he h g) c
  refine⟨u,?_,q.up ι⟩
  rw[show o+i * esz+j=o+(i * esz+j) by omega]at f
  simp[Instr.loadAt,Instr.sureAddr,f]
structure Ef (w w':World) (o:Obj):Prop where
 os:w'.os=w.os
 tape:w'.tape=w.tape
 output:w'.output=w.output
 heap:w'.heap=w.heap.push o
theorem Ef.cell{w w':World}{o:Obj}(h:Ef w w' o){a:Addr}{x:Value}(b:w.cell? a=some x):w'.cell? a=some x:=by
 have c:=World.block_lt_of_cell? w a b
 unfold World.cell? at b ⊢
 rw[h.heap,En c,<-jS c]
 exact b
theorem Ef.old{w w':World}{o:Obj}(h:Ef w w' o)(b:Nat)(a:b<w.heap.size):w'.heap[b]?=w.heap[b]?:=by
 rw[h.heap,En a,<-jS a]
def iU(ι:Map)(q:Ref)(l:Loc):Map:=λr=>if r=q then some l else ι r
def ku(g:db)(q:Ref)(k:bA):db:=λr=>if r=q then some k else g r
theorem Co{ι:Map}{q:Ref}{l:Loc}(b:ι q=none) : ∀r a,ι r=some a->iU ι q l r=some a:=by
 intro r a h
 unfold iU
 split
 ·subst_vars;rw[b]at h;cases h
 ·exact h
theorem gA.WW{M ι g w}(h:gA M ι g w){q:Ref}(b:ι q=none):g q=none:=by
 cases c:g q with
 | none=>rfl
 | some k=>obtain⟨l,a,_⟩:=h.live q k c;rw[b]at a;cases a
theorem fV.lt{M ι w l k}(h:fV M ι w l k):l.b<w.heap.size:=by
 obtain⟨arr,T,fz,a,_⟩:=h.heap
 exact(ij.1 a).1
theorem m8.lt{M ι w l k}(h:m8 M ι w l k):l.b<w.heap.size:=by
 rcases h.obj with ⟨_,a⟩ | ⟨_,_,a⟩ | ⟨_,_,_,_,_,_,a⟩
 ·exact(ij.1 a).1
 ·exact(ij.1 a).1
 ·exact(ij.1 a).1
theorem oV.lt{M ι w l k}(h:oV M ι w l k):l.b<w.heap.size:=by
 rcases Il k.esz with e | e
 ·exact(h.objOk e).lt
 ·exact(h.cellsOk e).lt
theorem oV.Va{M ι w l k}(h:oV M ι w l k){arr:Array Value}{T:TypeId}{fz:Nat × Nat}(c:w.heap[l.b]?=some (.cells arr T fz)):fV M ι w l k/\0<k.esz:=by
 rcases Il k.esz with e | e
 ·rcases(h.objOk e).obj with ⟨_,a⟩ | ⟨_,_,a⟩ | ⟨_,_,_,_,_,_,a⟩
  ·rw[c]at a;cases a
  ·rw[c]at a;cases a
  ·rw[c]at a;cases a
 ·exact⟨h.cellsOk e,e⟩
theorem fV.cz{M ι w l k M' ι' w'}(h:fV M ι w l k)(A : ∀b o x,M b o=some x->M' b o=some x)(d : ∀r l,ι r=some l->ι' r=some l)
 (f:w'.heap[l.b]?=w.heap[l.b]?) (m : ∀o x,M' l.b o=some x->k.k8=true/\o<k.es.length * k.esz):fV M' ι' w' l k:=by
 obtain⟨arr,T,fz,p,q,t,n⟩:=h.heap
 refine⟨h.esz,⟨arr,T,fz,f ▸ p,q,t,?_⟩,h.len,h.cells,m⟩
 intro i j e x g y
 obtain⟨u,hu,v,B⟩:=n i j e x g y
 refine⟨u,hu,v,B.mono A _ ?_⟩
 intro r z a
 unfold bA.map at a ⊢
 split
 ·rename_i c;rw[if_pos c]at a;exact a
 ·rename_i c;rw[if_neg c]at a;exact d r z a
theorem oV.cz{M ι w l k M' ι' w'}(h:oV M ι w l k)(d : ∀b o x,M b o=some x->M' b o=some x)(a : ∀r l,ι r=some l->ι' r=some l)
 (c:w'.heap[l.b]?=w.heap[l.b]?) (f : ∀o x,M' l.b o=some x->k.k8=true/\o<k.es.length * k.esz):oV M' ι' w' l k:=
 ⟨h.esz,λe=>(h.cellsOk e).cz d a c f,λe=>(h.objOk e).mono d a c,f⟩
theorem gA.alloc{M ι g w}(y:gA M ι g w){q:Ref}(W:ι q=none){w':World}{arr:Array Value}{T:TypeId}{fz:Nat × Nat}(t:Ef w w' (.cells arr T fz))
 (k:bA) (N:0<k.esz) (n:Nat) (H:arr.size=n * k.esz) (I:Dk k.esz arr.size fz) (D:k.es.length<=n) (f : ∀e∈k.es,e.cells.length=k.esz)
 (R : ∀(i j:Nat) e x,k.es[i]?=some e->e.cells[j]?=some x ->∃u,arr[i * k.esz+j]?=some u/\u.oneCell'=true/\VR M (k.map ι) x u) :
 gA M (iU ι q ⟨w.heap.size,k.esz,n⟩) (ku g q k) w'/\tA M ι g w M (iU ι q ⟨w.heap.size,k.esz,n⟩) (ku g q k) w':=by
 have d:=Co (l:=⟨w.heap.size,k.esz,n⟩) W
 have B : ∀b o x,M b o=some x->b<w.heap.size:=λb o x h=>World.block_lt_of_cell? w ⟨b,o,none⟩ (y.mem b o x h)
 have C:w'.heap[w.heap.size]?=some (.cells arr T fz):=by rw[t.heap];simp
 refine⟨⟨λb o x h=>t.cell (y.mem b o x h),?_,?_⟩,⟨t.os,t.tape,t.output,by rw[t.heap];simp,λb c _=>t.old b c,λ_ _ _ h=>h,d,?_,λ_ _ _ h => .inl h⟩⟩
 ·intro r k' m
  unfold ku at m
  split at m
  ·rename_i e
   subst e
   cases m
   refine⟨⟨w.heap.size,k.esz,n⟩,by simp[iU],fV.Sg ⟨rfl,⟨arr,T,fz,C,H,I,?_⟩,D,f,?_⟩ N⟩
   ·intro i j e x S V
    obtain⟨u,hu,U,X⟩:=R i j e x S V
    refine⟨u,hu,U,X.mono (λ_ _ _ h=>h) _ ?_⟩
    intro r' Q a
    unfold bA.map at a ⊢
    split
    ·rename_i G;rw[if_pos G]at a;exact a
    ·rename_i G;rw[if_neg G]at a;exact d r' Q a
   ·intro o x h
    exact absurd (B _ _ _ h) (Bd _)
  ·obtain⟨l,a,c⟩:=y.live r k' m
   exact⟨l,d r l a,c.cz (λ_ _ _ h=>h) d (t.old _ c.lt) c.frozen⟩
 ·intro r r' L K O P z A v p J
  unfold ku at z A
  unfold iU at v p
  by_cases F:r=q<;>by_cases E:r'=q
  ·rw[F,E]
  ·rw[if_pos F]at v;rw[if_neg E]at A p
   obtain⟨l,a,c⟩:=y.live r' K A
   rw[a]at p;cases p;cases v
   exact absurd c.lt (by rw[<-J];exact Bd _)
  ·rw[if_neg F]at z v;rw[if_pos E]at p
   obtain⟨l,a,c⟩:=y.live r L z
   rw[a]at v;cases v;cases p
   exact absurd c.lt (by rw[J];exact Bd _)
  ·rw[if_neg F]at z v;rw[if_neg E]at A p
   exact y.inj r r' L K O P z A v p J
 ·intro r k' l m a
  unfold ku at m
  unfold iU at a
  split at m
  ·rename_i e;rw[if_pos e]at a;cases a;exact .inl (bD _)
  ·rename_i e;rw[if_neg e]at a;exact .inr ⟨r,k',l,m,a,rfl⟩
def bQ(w:World)(b:Nat)(o:Obj):World := { w with heap:=w.heap.setIfInBounds b o}
theorem eV{w:World}{b:Nat}{o:Obj}(a:b<w.heap.size):(bQ w b o).heap[b]?=some o:=by simp[bQ,a]
theorem eE{w:World}{b b':Nat}{o:Obj}(h:b≠b'):(bQ w b o).heap[b']?=w.heap[b']?:=by simp[bQ,Bi h]
def cr(arr:Array Value)(o:Nat)(us:List Value):Array Value:=(arr.toList.take o++us++arr.toList.drop (o+us.length)).toArray
theorem il{arr:Array Value}{o:Nat}{us:List Value}(h:o+us.length<=arr.size)(i:Nat) :
 (cr arr o us)[i]?=if o<=i/\i<o+us.length then us[i - o]? else arr[i]?:=by
 unfold cr
 simp only[JB]
 have b:(arr.toList.take o).length=o:=by simp;omega
 rcases fe i o with a | a
 ·rw[B8,nN (by omega),Bg,if_pos a,if_neg (by omega)]
  simp
 ·rcases fe i (o+us.length)with c | c
  ·rw[B8,o5 (by omega),nN (by omega),if_pos ⟨a,c⟩,b]
  ·rw[o5 (by simp;omega),Fo,if_neg (by omega)]
   simp only[oN,b,Io]
   congr 1
   omega
theorem iV{arr:Array Value}{o:Nat}{us:List Value}(h:o+us.length<=arr.size):(cr arr o us).size=arr.size:=by
 simp[cr];omega
theorem mJ{P:Program}{b:Nat}{T:TypeId}{fz:Nat × Nat}(o:Nat) : ∀(us:List Value)(i:Nat)(arr:Array Value)(w:World),w.heap[b]?=some (.cells arr T fz) ->
 o+i+us.length<=arr.size->(∀j,j<arr.size ->¬(fz.1<=j/\(j<fz.2\/fz.2<fz.1)))->(∀u∈us,u.oneCell'=true) ->
 (storeCells ⟨b,o,none⟩ us i).run P w = .ok () (bQ w b (.cells (cr arr (o+i) us) T fz)):=by
 intro us
 induction us with
 | nil=>
  intro i arr w a q m l
  have g:=(ij.1 a).1
  have e:cr arr (o+i) []=arr:=by simp[cr]
  have x:bQ w b (.cells arr T fz)=w:=by
   have:w.heap.setIfInBounds b (.cells arr T fz)=w.heap:=by
    apply Em
    intro k
    by_cases c:b=k
    ·subst c;rw[a,Fs g]
    ·rw[Bi c]
   unfold bQ
   rw[this]
  simp[storeCells,e,x]
 | cons u us B=>
  intro i arr w a q m l
  have g:=(ij.1 a).1
  simp only[nx]at q
  have A:w.cell? ⟨b,o+i,none⟩=some arr[o+i]:=by rw[ld a];exact jS (by omega)
  have p:w.frozen? ⟨b,o+i,none⟩=false:=by
   have:=m (o+i) (by omega)
   simp only[World.frozen?,a]
   simp only[NI,decide_eq_false_iff_not]
   by_cases h:fz.1<=o+i
   ·exact .inr λz=>this ⟨h,.inl z⟩
   ·exact .inl h
  have f:w.setCell ⟨b,o+i,none⟩ u=bQ w b (.cells (arr.setIfInBounds (o+i) u) T fz):=by
   unfold World.setCell bQ
   congr 1
   apply Em
   intro k
   rw[KQ]
   by_cases c:b=k
   ·subst c;rw[a,Fs g];simp
   ·simp[c,Bi c]
  have d:=l u (by simp)
  have n:=B (i+1) (arr.setIfInBounds (o+i) u) (bQ w b (.cells (arr.setIfInBounds (o+i) u) T fz)) (eV g) (by simp;omega) (by simpa using m) (λv C=>l v (by simp[C]))
  simp only[storeCells,Sem.run_bind,iE,run_store P w _ u _ d,A,p,f]
  simp only[jH, ↓reduceIte,Result.andThen_ok]
  rw[n]
  congr 1
  unfold bQ
  simp only[Array.setIfInBounds_setIfInBounds]
  congr 3
  apply Em
  intro k
  rw[il (by simp;omega),il (by simp;omega)]
  by_cases y:k=o+i
  ·subst y
   rw[if_neg (by omega),if_pos ⟨bD _,by simp⟩]
   simp[show o+i<arr.size by omega]
  ·by_cases t:o+(i+1)<=k/\k<o+(i+1)+us.length
   ·rw[if_pos t,if_pos (by simp;omega)]
    rw[show k - (o+i)=(k - (o+(i+1)))+1 by omega]
    simp
   ·rw[if_neg t,if_neg (by simp;omega)]
    rw[Bi (by omega)]
theorem gA.mark{M ι g w}(p:gA M ι g w){r:Ref}{k:bA}{l:Loc}(v:g r=some k)(G:ι r=some l){arr:Array Value}{T:TypeId}{A fz:Nat × Nat}{w':World}
 (H:w.heap[l.b]?=some (.cells arr T A)) (m:w'=bQ w l.b (.cells arr T fz)) (E:Dk k.esz arr.size fz):gA M ι g w'/\tA M ι g w M ι g w':=by
 obtain⟨S,q,L⟩:=p.live r k v
 rw[G]at q;cases q
 have z:=L.lt
 have f:w'.heap[l.b]?=some (.cells arr T fz):=by rw[m];exact eV z
 have d : ∀b,l.b≠b->w'.heap[b]?=w.heap[b]?:=λb a=>by rw[m];exact eE a
 have j : ∀b o,w'.cell? ⟨b,o,none⟩=w.cell? ⟨b,o,none⟩:=by
  intro b o
  by_cases a:l.b=b
  ·subst a;rw[ld f,ld H]
  ·exact World.cell?_of_block (d b a)
 refine⟨⟨λb o x h=>by rw[j];exact p.mem b o x h,?_,p.inj⟩,?_⟩
 ·intro r' B t
  obtain⟨C,n,c⟩:=p.live r' B t
  refine⟨C,n,?_⟩
  by_cases a:l.b=C.b
  ·obtain⟨i,D⟩:=c.Va (a ▸ H)
   obtain⟨I,U,P,u,R,W,Q⟩:=i.heap
   rw[<-a,H]at u
   injection u with u;injection u with N K V
   subst N;subst K
   have F:B=k:=by
    have e:=p.inj r r' k B l C v t G n a
    subst e;rw[v]at t;exact(Option.some.inj t).symm
   exact fV.Sg ⟨c.esz,⟨arr,T,fz,by rw[<-a];exact f,R,by rw[F];exact E,Q⟩,i.len,i.cells,c.frozen⟩ D
  ·exact c.cz (λ_ _ _ h=>h) (λ_ _ h=>h) (d _ a) c.frozen
 ·refine⟨by rw[m];rfl,by rw[m];rfl,by rw[m];rfl,by rw[m];simp[bQ],λb J y=>d b (y r k l v G),λ_ _ _ h=>h,λ_ _ h=>h,λr k l h O => .inr ⟨r,k,l,h,O,rfl⟩,λ_ _ _ h => .inl h⟩
theorem gA.write{M ι g w}(z:gA M ι g w){r:Ref}{k k':bA}{l:Loc}(C:g r=some k)(F:ι r=some l)(W:0<l.esz){arr:Array Value}{T:TypeId}{fz:Nat × Nat}{w':World}
 (m:w'=bQ w l.b (.cells arr T fz)) (a:k'.esz=k.esz) (Q:k'.arr=k.arr) (P:arr.size=l.n * k.esz) (I:Dk k.esz arr.size fz)
 (E:k'.es.length<=l.n) (c : ∀e∈k'.es,e.cells.length=k.esz) (q : ∀o x,M l.b o=some x->False)
 (X : ∀(i j:Nat) e x,k'.es[i]?=some e->e.cells[j]?=some x ->∃u,arr[i * k.esz+j]?=some u/\u.oneCell'=true/\VR M (k'.map ι) x u) :
 gA M ι (ku g r k') w'/\tA M ι g w M ι (ku g r k') w':=by
 obtain⟨Z,D,K⟩:=z.live r k C
 rw[F]at D;cases D
 have L:=K.lt
 refine⟨⟨?_,?_,?_⟩,?_⟩
 ·intro b o x h
  have t:l.b≠b:=λe=>q o x (e ▸ h)
  rw[World.cell?_of_block (w:=w) (by rw[m];exact eE t)]
  exact z.mem b o x h
 ·intro r' d v
  unfold ku at v
  split at v
  ·rename_i e
   subst e
   cases v
   refine⟨l,F,fV.Sg ⟨by rw[K.esz,a],⟨arr,T,fz,by rw[m];exact eV L,by rw[a];exact P,by rw[a];exact I,by rw[a];exact X⟩,E,by rw[a];exact c,λo x h=>(q o x h).elim⟩ (by rw[a,<-K.esz];exact W)⟩
  ·rename_i t
   obtain⟨f,B,A⟩:=z.live r' d v
   have O:l.b≠f.b:=λe=>t (z.inj r' r d k f l v C B F e.symm)
   exact⟨f,B,A.cz (λ_ _ _ h=>h) (λ_ _ h=>h) (by rw[m];exact eE O) A.frozen⟩
 ·intro r1 r2 d Y f S y G U R V
  have p : ∀ {r1:Ref} {d:bA},ku g r k' r1=some d ->∃k,g r1=some k:=by
   intro r1 d h
   unfold ku at h
   split at h
   ·rename_i e;exact⟨k,e ▸ C⟩
   ·exact⟨d,h⟩
  obtain⟨_,N⟩:=p y
  obtain⟨_,H⟩:=p G
  exact z.inj r1 r2 _ _ f S N H U R V
 ·refine⟨by rw[m];rfl,by rw[m];rfl,by rw[m];rfl,by rw[m];simp[bQ],?_,λ_ _ _ h=>h,λ_ _ h=>h,?_,λ_ _ _ h => .inl h⟩
  ·intro b _ J
   rw[m]
   exact eE (J r k l C F)
  ·intro r1 d f y G
   unfold ku at y
   split at y
   ·rename_i e;subst e;exact .inr ⟨r1,k,f,C,G,rfl⟩
   ·exact .inr ⟨r1,d,f,y,G,rfl⟩
end Go.Ab
namespace Go.Ab
open Classical
def SC(ι:Map)(g:db)(R:List Ref)(b o:Nat):Prop :=∃r∈R,∃k l,g r=some k/\ι r=some l/\l.b=b/\o<k.es.length * k.esz
noncomputable def mZ(M:Mem)(ι:Map)(g:db)(w:World)(R:List Ref):Mem:=λb o=>
 match M b o with
 | some x=>some x
 | none=>if SC ι g R b o then w.cell? ⟨b,o,none⟩ else none
theorem wy{M ι g w R} : ∀b o x,M b o=some x->mZ M ι g w R b o=some x:=by
 intro b o x h;simp[mZ,h]
theorem ze{M ι g w R}(c : ∀b o x,M b o=some x->w.cell? ⟨b,o,none⟩=some x) : ∀b o x,mZ M ι g w R b o=some x->w.cell? ⟨b,o,none⟩=some x:=by
 intro b o x h
 unfold mZ at h
 split at h
 ·rename_i y a;cases h;exact c b o _ a
 ·split at h
  ·exact h
  ·cases h
theorem BW{M ι g w R b o x}(h:mZ M ι g w R b o=some x):M b o=some x\/SC ι g R b o:=by
 unfold mZ at h
 split at h
 ·rename_i y a;cases h;exact .inl a
 ·split at h
  ·rename_i c;exact .inr c
  ·cases h
theorem DY{n esz i j:Nat}(a:i<n)(b:j<esz):i * esz+j<n * esz:=by
 have:(i+1) * esz<=n * esz:=mA _ a
 rw[mS]at this
 omega
theorem Ng{M ι g w R}(o:gA M ι g w){r:Ref}{k:bA}{l:Loc}(v:r∈R)(n:g r=some k)(q:ι r=some l){i j:Nat}(h:i<k.es.length)(z:j<k.esz) :
 ∃u,mZ M ι g w R l.b (i * k.esz+j)=some u/\u.oneCell'=true/\w.cell? ⟨l.b,i * k.esz+j,none⟩=some u /\
  ∀e x,k.es[i]?=some e->e.cells[j]?=some x->VR M (k.map ι) x u:=by
 obtain⟨I,d,f⟩:=o.live r k n
 rw[q]at d;cases d
 replace f:=f.cellsOk (by omega)
 obtain⟨arr,T,fz,A,G,H,C⟩:=f.heap
 have c:k.es[i]?=some k.es[i]:=eC h
 have B:=f.cells k.es[i] (lM h)
 have a:k.es[i].cells[j]?=some (k.es[i].cells[j]'(by omega)):=eC _
 obtain⟨u,hu,D,F⟩:=C i j _ _ c a
 have m:w.cell? ⟨l.b,i * k.esz+j,none⟩=some u:=by rw[ld A];exact hu
 refine⟨u,?_,D,m,?_⟩
 ·unfold mZ
  split
  ·rename_i y E;have:=o.mem _ _ _ E;rw[m]at this;cases this;rfl
  ·rw[if_pos ⟨r,v,k,l,n,q,rfl,DY h z⟩];exact m
 ·intro e x p t
  rw[c]at p;cases p
  rw[a]at t;cases t
  exact F
theorem K4{g:db}{n:Nat}{x y:AV}(h:view g (n+1) x=some y)(c : ∀cs,x ≠ .agg cs):x.cells=[x]/\y.cells=[y]:=by
 refine⟨by cases x<;>first | rfl | exact absurd rfl (c _),?_⟩
 cases x with
 | agg cs=>exact absurd rfl (c cs)
 | v x=>simp[view]at h;subst h;rfl
 | tup cs=>simp only[view,bO]at h;obtain⟨_,_,rfl⟩:=h;rfl
 | cG=>simp[view]at h;subst h;rfl
 | iptr=>simp[view]at h;subst h;rfl
 | fsl=>simp[view]at h
 | cC r off len cap=>
  simp only[view]at h
  split at h
  ·split at h
   ·cases h;rfl
   ·cases h
  ·cases h
 | ptr r i j=>
  simp only[view]at h
  split at h
  ·split at h
   ·cases h;rfl
   ·simp only[bO]at h;obtain⟨_,_,rfl⟩:=h;rfl
  ·cases h
 | fn f a b=>
  simp only[view]at h
  split at h
  ·cases h;rfl
  ·cases h
 | ifc t x=>simp only[view,bO]at h;obtain⟨_,_,rfl⟩:=h;rfl
 | yld=>simp[view]at h
 | mp=>simp[view]at h
 | ch=>simp[view]at h
 | lp=>simp[view]at h
theorem FU{g:db}{n:Nat}{e i:AV}(h:view g (n+1) e=some i) :
 i.cells.length=e.cells.length /\∀(j:Nat) d,i.cells[j]?=some d ->∃m x,m<=n+1/\e.cells[j]?=some x/\view g m x=some d /\∀r∈ax g m x,r∈ax g (n+1) e:=by
 by_cases c : ∃cs,e = .agg cs
 ·obtain⟨cs,rfl⟩:=c
  simp only[view,bO]at h
  obtain⟨ys,b,rfl⟩:=h
  refine⟨by simp[AV.cells,jM b],?_⟩
  intro j d a
  obtain⟨x,c,p⟩:=qV b j d (by simpa [AV.cells] using a)
  refine⟨n,x,by omega,by simpa [AV.cells] using c,p,?_⟩
  intro r f
  simp only[ax,sa]
  exact⟨x,fC c,f⟩
 ·obtain⟨k,l⟩:=K4 h (λcs o=>c ⟨cs,o⟩)
  refine⟨by rw[k,l];rfl,?_⟩
  intro j d a
  rw[l]at a
  cases j with
  | zero=>
   simp at a
   subst a
   exact⟨n+1,e,bD _,by rw[k];rfl,h,λr f=>f⟩
  | succ j=>simp at a
theorem Cd{M ι g w R}(hS:gA M ι g w) : ∀(n:Nat)(x y:AV)(u:Value),view g n x=some y->(∀r∈ax g n x,r∈R)->VR M ι x u->VR (mZ M ι g w R) ei y u:=by
 intro n
 induction n using Nat.strongRecOn with | ind n ih=>
 intro x y u h K L
 cases n with
 | zero=>simp[view]at h
 | succ n=>
  have A : ∀ {cs ys:List AV} {us:List Value},cs.mapM (view g n)=some ys->(∀r∈cs.flatMap (ax g n),r∈R)->lR M ι cs us->lR (mZ M ι g w R) ei ys us:=by
   intro cs ys us F K hvs
   refine⟨by rw[jM F];exact hvs.1,λi y' u hy G=>?_⟩
   obtain⟨x,D,Y⟩:=qV F i y' hy
   exact ih n (by omega) x y' u Y (λr J=>K r (sa.2 ⟨x,fC D,J⟩)) (hvs.2 i x u D G)
  cases x with
  | v x=>simp[view]at h;subst h;cases L with | v X=>exact .v X
  | agg cs=>
   simp only[view,bO]at h
   obtain⟨ys,F,rfl⟩:=h
   cases L with | agg hl O=>
   exact VR.rD.2 (A F (by simpa [ax] using K) (VR.rD.1 (.agg hl O)))
  | tup cs=>
   simp only[view,bO]at h
   obtain⟨ys,F,rfl⟩:=h
   cases L with | tup h0 hl O=>
   rename_i vs
   have:=A (us:=vs.toList) F (by simpa [ax] using K) ⟨by simpa using hl,λi x u D G=>O i x u D (by simpa using G)⟩
   refine .tup ?_ (by simpa using this.1) λi c u Q G=>this.2 i c u Q (by simpa using G)
   intro e
   subst e
   have H:=jM F
   exact h0 (Cb (by simpa using H.symm))
  | cG esz es cap=>
   simp[view]at h;subst h
   cases L with | cG cell X Q S hm I O=>
   exact(VR.cG (M:=M) (ι:=ei) cell X Q S hm I O).mono wy _ (λ_ _ h=>h)
  | iptr esz es i j=>
   simp[view]at h;subst h
   cases L with | iptr cell hm I O=>
   exact(VR.iptr (M:=M) (ι:=ei) cell hm I O).mono wy _ (λ_ _ h=>h)
  | fsl=>simp[view]at h
  | cC r off len cap=>
   simp only[view]at h
   split at h
   ·rename_i k S
    split at h
    ·rename_i O
     cases h
     obtain⟨z,N⟩:=O
     cases L with | cC J hb X ha Q hn hkk T=>
     rename_i l a c
     have V:r∈R:=K r (by simp[ax])
     have q:=hS.at J T S
     have W:((k.es.drop off).take len).length=len:=by simp;omega
     have hat : ∀i,i<len->((k.es.drop off).take len)[i]?=k.es[off+i]?:=by
      intro i p
      rw[Bg,if_pos p,Fo]
     have U:0<len->a.off=off * k.esz:=by
      intro h0
      rcases ha with h | h
      ·omega
      ·rw[h,q.esz]
     have key : ∀i j,i<len->j<k.esz ->∃u,mZ M ι g w R a.block (a.off+(i * k.esz+j))=some u/\u.oneCell'=true /\∀e x,k.es[off+i]?=some e->e.cells[j]?=some x->VR M (k.map ι) x u:=by
      intro i j p B
      obtain⟨u,H,P,_,Z⟩:=Ng hS V S J (i:=off+i) (j:=j) (by omega) B
      refine⟨u,?_,P,Z⟩
      rw[U (by omega),hb,show off * k.esz+(i * k.esz+j)=(off+i) * k.esz+j by rw[mS];omega]
      exact H
     let cell:Nat->Nat->Value:=λi j=>(mZ M ι g w R a.block (a.off+(i * k.esz+j))).getD undef
     have:=VR.cG (M:=mZ M ι g w R) (ι:=ei) (esz:=k.esz) (es:=(k.es.drop off).take len) (cap:=cap) (a:=a) (c:=c) cell (.inl X) (by omega) hkk
      (by
       intro i j p B
       rw[W]at p
       obtain⟨u,H,P,_⟩:=key i j p B
       simp[cell,H,P])
      (by
       intro e I
       exact q.cells e (Fq (zw I)))
      (by
       intro i j e x p D
       have C:i<len:=by have:=(iG.1 p).1;omega
       rw[hat i C]at p
       have B:j<k.esz:=by
        rw[<-q.cells e (fC p)]
        exact(iG.1 D).1
       obtain⟨u,H,P,Z⟩:=key i j C B
       have:=Z e x p D
       rw[bA.map,if_pos z]at this
       simp only[cell,H,fQ]
       exact this.mono wy _ (λ_ _ h=>h))
     rw[W]at this
     exact this
    ·cases h
   ·cases h
  | ptr r i j=>
   cases L with | ptr J T=>
   rename_i l
   simp only[view]at h
   split at h
   ·rename_i k S
    have V:r∈R:=K r (by simp[ax])
    have q:=hS.at J T S
    let cell:Nat->Nat->Value:=λi j=>(mZ M ι g w R l.b (0+(i * k.esz+j))).getD undef
    have d : ∀i j,i<k.es.length->j<k.esz->mZ M ι g w R l.b (0+(i * k.esz+j))=some (cell i j)/\(cell i j).oneCell'=true /\∀e x,k.es[i]?=some e->e.cells[j]?=some x->VR M (k.map ι) x (cell i j):=by
     intro i j p B
     obtain⟨u,H,P,_,Z⟩:=Ng hS V S J p B
     rw[uy]at *
     simp only[cell,uy,H,fQ]
     exact⟨trivial,P,Z⟩
    split at h
    ·rename_i z
     cases h
     have:=VR.iptr (M:=mZ M ι g w R) (ι:=ei) (esz:=k.esz) (es:=k.es) (i:=i) (j:=j) (b:=l.b) (o:=0) cell (λi j p B=>⟨(d i j p B).1,(d i j p B).2.1⟩) q.cells
      (by
       intro i j e x p D
       have C:=(iG.1 p).1
       have B:j<k.esz:=by
        rw[<-q.cells e (fC p)]
        exact(iG.1 D).1
       have:=(d i j C B).2.2 e x p D
       rw[bA.map,if_pos z]at this
       exact this.mono wy _ (λ_ _ h=>h))
     rw[uy]at this
     rw[q.esz]
     exact this
    ·rename_i z
     simp only[bO]at h
     obtain⟨es',E,rfl⟩:=h
     cases n with
     | zero=>
      cases hke:k.es with
      | nil=>
       rw[hke]at E
       simp at E
       subst E
       have:=VR.iptr (M:=mZ M ι g w R) (ι:=ei) (esz:=k.esz) (es:=[]) (i:=i) (j:=j) (b:=l.b) (o:=0) cell (by intro i j p;simp at p) (by simp) (by intro i j e x p;simp at p)
       rw[uy]at this
       rw[q.esz]
       exact this
      | cons e es=>
       rw[hke]at E
       simp[view]at E
     | succ n=>
      have N:=jM E
      have:=VR.iptr (M:=mZ M ι g w R) (ι:=ei) (esz:=k.esz) (es:=es') (i:=i) (j:=j) (b:=l.b) (o:=0) cell
       (λi j p B=>⟨(d i j (N ▸ p) B).1,(d i j (N ▸ p) B).2.1⟩)
       (by
        intro e' he'
        obtain⟨i',C,rfl⟩:=qK he'
        obtain⟨e,I,Y⟩:=qV E i' _ (eC C)
        rw[(FU Y).1]
        exact q.cells e (fC I))
       (by
        intro i' j' e' x' C hx'
        obtain⟨e,I,Y⟩:=qV E i' e' C
        obtain⟨m,x,hm,D,hfx,hsub⟩:=(FU Y).2 j' x' hx'
        have hlt:=(iG.1 I).1
        have B:j'<k.esz:=by
         rw[<-q.cells e (fC I)]
         exact(iG.1 D).1
        have hvx:=(d i' j' hlt B).2.2 e x I D
        rw[bA.map,if_neg z]at hvx
        refine ih m (by omega) x x' _ hfx ?_ hvx
        intro r' hr'
        refine K r' ?_
        simp only[ax,S,if_neg z,nw,sa]
        exact .inr ⟨e,fC I,hsub r' hr'⟩)
      rw[uy]at this
      rw[q.esz]
      exact this
   ·cases h
  | fn f a b=>
   simp only[view]at h
   split at h
   ·rename_i a' b' ha' hb'
    cases h
    cases L with | fn hla hlb hha hhb=>
    rename_i va vb
    simp only[ax,nM]at K
    have H:=A (us:=va.toList) ha' (λr J=>K r (.inl J)) ⟨by simpa using hla,λi x u D G=>hha i x u D (by simpa using G)⟩
    have P:=A (us:=vb.toList) hb' (λr J=>K r (.inr J)) ⟨by simpa using hlb,λi x u D G=>hhb i x u D (by simpa using G)⟩
    exact .fn (by simpa using H.1) (by simpa using P.1) (λi c u Q G=>H.2 i c u Q (by simpa using G)) (λi c u Q G=>P.2 i c u Q (by simpa using G))
   ·cases h
  | ifc t x=>
   simp only[view,bO]at h
   obtain⟨y,hy,rfl⟩:=h
   cases L with | ifc L=>
   exact .ifc (ih n (by omega) x y _ hy (by simpa [ax] using K) L)
  | yld=>simp[view]at h
  | mp=>simp[view]at h
  | ch=>simp[view]at h
  | lp=>simp[view]at h
def vF(g:db)(R:List Ref):db:=λr=>if r∈R then (g r).map λk => { k with k8:=true} else g r
theorem Ax{M ι g w R}(C:gA M ι g w):gA (mZ M ι g w R) ι (vF g R) w/\tA M ι g w (mZ M ι g w R) ι (vF g R) w:=by
 have c : ∀ {r k},vF g R r=some k ->∃a,g r=some a/\k = { a with k8:=k.k8}/\(r∈R->k.k8=true)/\(a.k8=true->k.k8=true):=by
  intro r k h
  unfold vF at h
  split at h
  ·simp only[bO]at h
   obtain⟨a,I,rfl⟩:=h
   exact⟨a,I,rfl,λ_=>rfl,λ_=>rfl⟩
  ·rename_i E
   exact⟨k,h,rfl,λG=>absurd G E,λh=>h⟩
 refine⟨⟨ze C.mem,?_,?_⟩,⟨rfl,rfl,rfl,bD _,λ_ _ _=>rfl,wy,λ_ _ h=>h,?_,?_⟩⟩
 ·intro r k h
  obtain⟨a,v,H,E,hm⟩:=c h
  obtain⟨l,y,d⟩:=C.live r a v
  refine⟨l,y,?_⟩
  have t:k.es=a.es:=by rw[H]
  have n:k.esz=a.esz:=by rw[H]
  have K:k.arr=a.arr:=by rw[H]
  have p : ∀o x,mZ M ι g w R l.b o=some x->k.k8=true/\o<k.es.length * k.esz:=by
   intro o x B
   rw[t,n]
   rcases BW B with h | ⟨r',z,k',A,f,m,q,D⟩
   ·exact⟨hm (d.frozen o x h).1,(d.frozen o x h).2⟩
   ·have e:=C.inj r' r k' a A l f v m y q
    subst e
    rw[v]at f;cases f
    exact⟨E z,D⟩
  refine⟨by rw[n];exact d.esz,λF=>?_,λF=>?_,p⟩
  ·replace d:=d.cellsOk (by rw[<-n];exact F)
   obtain⟨arr,T,fz,O,N,P,L⟩:=d.heap
   refine⟨by rw[n];exact d.esz,⟨arr,T,fz,O,by rw[n];exact N,by rw[n];exact P,?_⟩,by rw[t];exact d.len,by rw[t,n];exact d.cells,p⟩
   intro i j e x J B
   rw[t]at J
   rw[n]
   obtain⟨u,hu,D,Q⟩:=L i j e x J B
   refine⟨u,hu,D,?_⟩
   have:k.map ι=a.map ι:=by unfold bA.map;rw[K]
   rw[this]
   exact Q.mono wy _ (λ_ _ h=>h)
  ·exact((d.objOk (by rw[<-n];exact F)).mono (M':=mZ M ι g w R) wy (λ_ _ h=>h) rfl).same n K t
 ·intro r r' k k' l A h G y m d
  obtain⟨a,v,_⟩:=c h
  obtain⟨S,t,_⟩:=c G
  exact C.inj r r' _ _ l A v t y m d
 ·intro r k l h y
  obtain⟨a,v,_⟩:=c h
  exact .inr ⟨r,a,l,v,y,rfl⟩
 ·intro b o x B
  rcases BW B with h | ⟨r',z,k',A,f,m,q,D⟩
  ·exact .inl h
  ·exact .inr (.inr ⟨r',k',A,f,m,q⟩)
theorem MA{g:db}{R:List Ref}(h:jX g R=true):vF g R=g:=by
 funext r
 unfold vF
 split
 ·rename_i a
  simp only[jX,fZ]at h
  have:=h r a
  cases b:g r with
  | none=>rfl
  | some k=>
   rw[b]at this
   simp at this
   simp[<-this]
 ·rfl
end Go.Ab
