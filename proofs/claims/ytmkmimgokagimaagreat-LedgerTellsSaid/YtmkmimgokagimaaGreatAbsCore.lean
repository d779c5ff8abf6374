/-
  The abstract machine: a deterministic evaluator of the model's code over data, in which a slice that nobody writes is a list. No statement of a seat is proved here.
  How the abstract machine's values and memory stand to the model's. No statement of a seat is proved here.
  Memory: what a read gives, what a new block and a write leave. No statement of a seat is proved here.
  Memory: a new block, a write, memory that is not written from here on. No statement of a seat is proved here.
  Memory that is not written from here on: what is seen of it. No statement of a seat is proved here.
-/
import Derived.WalkKit
import Derived.RangeFuncIn
import Derived.RangeFuncRecord
import Derived.RangeFuncLeaves
import Derived.OrdersIn
set_option linter.unusedVariables false
set_option linter.unusedSimpArgs false
set_option linter.unusedSectionVars false
set_option linter.unnecessarySimpa false
namespace Go.Ab
set_option linter.defProp false
def bO := @Option.map_eq_some_iff
def bh := @Bool.and_eq_true
def fB := @Option.ite_none_right_eq_some
def fc := @List.getElem?_eq_getElem
def iN := @List.getElem?_eq_some_iff
def gh := @List.take_of_length_le
def ig := @Option.bind_eq_some_iff
def jY := @Array.getElem?_eq_getElem
def fH := @Option.bind_some
def dc := @Nat.le_refl
def cX := @Option.getD_some
def iG := @Array.getElem?_eq_some_iff
def gI := @Option.isSome_iff_exists
def dW := @Option.some.injEq
def dV := @Bool.not_eq_true'
def fL := @List.mem_of_getElem?
def il := @List.mem_cons_of_mem
def fe := @Bool.or_eq_true
def gD := @List.all_eq_true
def kP := @Nat.eq_of_beq_eq_true
def jn := @List.mem_cons_self
def kp := @Bool.not_eq_false'
def nS := @List.getElem?_append_left
def pf := @List.getElem?_append_right
def fm := @Nat.lt_or_ge
def mH := @Nat.mul_le_mul_right
def lY := @List.getElem_mem
def iF := @Nat.le_of_lt
def nz := @Bool.false_eq_true
def oT := @List.length_append
def oS := @List.getElem?_map
def nR := @List.mem_append
def sw := @List.getElem_of_mem
def ny := @List.mapM_cons
def m6 := @List.mem_cons
def nx := @Bool.true_and
def Bo := @Array.getElem?_setIfInBounds_ne
def tZ := @Option.bind_eq_bind
def qZ := @List.length_cons
def qY := @Nat.lt_succ_self
def sv := @List.mem_flatMap
def m5 := @Nat.add_mul
def Fw := @Array.getElem?_setIfInBounds_self_of_lt
def tv := @List.length_take
def uP := @List.mem_singleton
def so := @List.length_map
def Ch := @List.eq_nil_of_length_eq_zero
def xi := @Bool.and_eq_true_iff
def tu := @Option.pure_def
def tq := @List.append_nil
def zI := @List.getElem?_eq_none
def zH := @List.mem_of_mem_take
def uO := @Option.getD_none
def tp := @List.map_cons
def Et := @Array.getD_eq_getD_getElem?
def vS := @List.nil_append
def vR := @List.foldl_cons
def zG := @List.flatMap_cons
def tY := @List.mem_map
def Ae := @Classical.not_not
def xg := @Bool.false_and
def xf := @List.mem_range
def Bn := @List.getElem?_take
def uN := @Nat.zero_add
def Bm := @Nat.pos_of_ne_zero
def zF := @List.cons.injEq
def Es := @Array.getElem?_push_lt
def Cg := @Array.length_toList
def Cf := @Int.toNat_of_nonneg
def xe := @Prod.mk.injEq
def zE := @Bool.and_assoc
def Ce := @List.append_assoc
def KO := @Array.eq_empty_of_size_eq_zero
def Er := @Array.ext_getElem?
def Ep := @Nat.lt_of_lt_of_le
def Ad := @List.all_cons
def Fv := @List.mem_of_mem_drop
def Cd := @UInt8.toNat_inj
def Fu := @List.length_pos_iff
def Bl := @Nat.lt_irrefl
def Ft := @List.getElem?_drop
def Ir := @Array.getElem?_toList
def Eo := @Option.map_none
def Bk := @Nat.le_trans
def Fs := @Nat.lt_succ_of_lt
def Cc := @Sum.inr.injEq
def KN := @Int.eq_ofNat_of_zero_le
def KM := @List.getElem?_set_self
def Iq := @Nat.eq_zero_or_pos
def Cb := @Nat.add_zero
def KL := @Nat.le_of_ble_eq_true
def KK := @Array.getElem?_modify
def Fq := @List.length_nil
def Fp := @List.map_append
def Fo := @Bool.eq_iff_iff
def En := @Sum.inl.injEq
def Em := @Bool.not_true
def Ip := @Nat.lt_trichotomy
def KJ := @List.getElem?_set_ne
def Fm := @Bool.not_false
def q0 := @Eq.symm
def Dw := @List.length_drop
def Dv := @List.not_mem_nil
def JA := @Nat.add_sub_cancel_left
def BN := @Bool.and_true
def sL := @Ne.symm
def FP := @BitVec.toNat_ofInt
def NS := @Option.ite_none_left_eq_some
def Jz := @List.contains_iff_mem
def Du := @List.drop_drop
def FO := @UInt32.toNat_inj
def FN := @List.any_eq_true
def FM := @List.flatMap_nil
def FL := @List.take_length
def FK := @Option.bind_none
def FJ := @List.filter_cons
def Dt := @Bool.false_or
def NR := @Array.getElem?_append_left
def Jy := @Bool.or_eq_true_iff
def Jx := @List.map_congr_left
def FI := @List.mem_filter
def NQ := @List.extract_eq_take_drop
def FH := @Nat.min_eq_left
def FG := @List.find?_cons
def NP := @Array.getElem?_replicate
def Ds := @Int.lt_or_le
def Jw := @BitVec.getLsbD_and
def Jv := @BitVec.getLsbD_not
def FF := @Bool.and_false
def NO := @List.getElem?_cons_zero
def Ju := @List.ext_getElem?
def Jt := @List.take_add_one
def Dr := @Nat.zero_le
def Dq := @Nat.le_succ
def NN := @List.range_succ_eq_map
def FE := @List.mapM_nil
def FD := @List.any_cons
def Js := @Array.toList_inj
def NM := @UInt8.lt_iff_toNat_lt
def NL := @List.getElem?_toArray
def NK := @Bool.and_eq_false_iff
def NJ := @List.length_filter_le
def FC := @Bool.or_self
def NI := @List.mem_append_left
def SB := @List.eq_nil_iff_forall_not_mem
def FB := @List.map_set
def NH := @Array.toList_extract
def Jr := @List.length_set
def NG := @List.range_eq_range'
def NF := @List.replicate_succ
def ND := @Nat.succ_eq_add_one
def NC := @UInt32.toBitVec_and
def NB := @UInt32.toBitVec_not
def Jq := @List.drop_zero
def FA := @Nat.le_zero
def Fz := @Nat.sub_mul
def NA := @Nat.lt_or_gt_of_ne
def Nz := @Array.foldl_toList
def Ny := @List.zip_cons_cons
def Jp := @Nat.add_assoc
def Jo := @List.map_take
def Nx := @Int.toNat_natCast
def Nw := @Int.emod_eq_of_lt
def Nv := @List.nodup_append
def Fy := @Array.ext'
def Fx := @Nat.not_lt
def Jn := @List.map_nil
def Jm := @List.map_map
def Nu := @Nat.min_eq_right
def Jl := @Nat.succ_mul
def Nt := @List.cons_append
def Ns := @List.drop_length
def Nr := @List.nodup_cons
def Jk := @Int.le_refl
structure Ref where
 d:Nat
 t:Nat
 g:Nat
 k:Nat:=0
deriving DecidableEq,Inhabited
inductive AV where
 | v (x:Value)
 | agg (cs:List AV)
 | tup (vs:List AV)
 | bW (esz:Nat) (es:List AV) (cap:Option Nat)
 | cL (r:Ref) (off len:Nat) (cap:Option Nat)
 | fsl (esz:Nat) (es:List AV) (cap:Option Nat)
 | ptr (r:Ref) (i j:Nat)
 | iptr (esz:Nat) (es:List AV) (i j:Nat)
 | fn (f:Fn) (first captured:List AV)
 | ifc (t:TypeId) (x:AV)
 | yld (r:Ref)
 | mp (r:Ref)
 | ch (r:Ref)
 | lp (f:FuncId) (nt:Nat) (ps:List Tmp) (assign body:Code) (tm:List AV)
def AV.undef:AV := .v Go.undef
instance:Inhabited AV:=⟨AV.undef⟩
def AV.cells:AV->List AV
 | .agg cs=>cs
 | x=>[x]
def AV.one:AV->Bool
 | .v (.tuple _) | .v (.agg _) | .agg _ | .tup _ | .fsl .. | .lp .. => false
 | _=>true
structure bz where
 esz:Nat
 es:List AV
 arr:Bool
 kH:Bool
deriving Inhabited
def scalar:Value->Bool
 | .bool _ | .int _ _ | .float _ _ | .complex _ _ _ | .string _=>true
 | .pointer none | .slice none 0 0 | .map none | .chan none | .nilFunc | .nilIface=>true
 | .tuple a=>a.isEmpty
 | _=>false
def jR(x:Value):Option AV:=if scalar x then some (.v x) else none
def ofValue:Value->Option AV
 | .agg cs=>(cs.toList.mapM jR).map .agg
 | .func f first captured=>if first.isEmpty&&captured.isEmpty then some (.fn f [] []) else none
 | .tuple a=>if a.isEmpty then some (.v (.tuple #[])) else (a.toList.mapM jR).map .tup
 | .iface t x=>(jR x).map (.ifc t)
 | x=>jR x
def Iv:AV->Option Value
 | .v x=>some x
 | _=>none
def gJ:AV->Option Value
 | .v x=>some x
 | .agg cs=>(cs.mapM Iv).map λl => .agg l.toArray
 | _=>none
def bn{α:Type}(P:Program):Sem α->Option α
 | .pure a=>some a
 | .program k=>bn P (k P)
 | .mark _ k=>bn P k
 | _=>none
abbrev ai:=List (Ref × Option bz)
abbrev da:=Ref->Option bz
def ai.get:ai->Ref->Option bz
 | [],_=>none
 | (r',b) :: h,r=>if r'=r then b else ai.get h r
def ai.gen:ai->Nat->Nat->Nat
 | [],_,_=>0
 | (r',_) :: h,d,t=>if r'.d=d/\r'.t=t then r'.g+1 else ai.gen h d t
def ai.put:ai->Ref->Option bz->ai
 | [],r,b=>[(r,b)]
 | (r',b') :: h,r,b=>if r'=r then (r,b) :: h else (r',b') :: ai.put h r b
def dH:List AV->Nat->AV
 | [],_=>AV.undef
 | x :: _,0=>x
 | _ :: l,n+1=>dH l n
def Cu:List AV->Nat->AV->List AV
 | [],0,v=>[v]
 | [],n+1,v=>AV.undef :: Cu [] n v
 | _ :: l,0,v=>v :: l
 | x :: l,n+1,v=>x :: Cu l n v
structure St where
 tm:List AV
 hp:ai
def aL(P:Program)(t:TypeId):Option Nat:=(P.info? t).map (·.size)
def o9(P:Program)(t:TypeId):Option Nat:=(P.info? t).map (·.bytes)
def ff(P:Program)(t:TypeId):Option AV:=((P.info? t).bind (·.zero)).bind ofValue
def dI(P:Program)(t:TypeId):Option Bool:=(P.underlying t).map fun | .struct _ | .array _ _=>true | _=>false
def oc(P:Program)(t:TypeId)(f:Nat):Option (Nat × TypeId):=
 match P.underlying t with
 | some (.struct a)=>(a[f]?).map λx=>(x.offset,x.type)
 | _=>none
def ei(P:Program)(t:TypeId):Option TypeId:=
 match P.underlying t with
 | some (.slice e)=>some e
 | _=>none
def lx(P:Program)(t:TypeId):Option (Nat × TypeId):=
 match P.underlying t with
 | some (.array n e)=>some (n,e)
 | _=>none
def bX(es:List AV)(i j n:Nat)(a:Bool):Option AV:=
 match es[i]? with
 | none=>none
 | some e=>
  if a then (if j+n<=e.cells.length/\0<n then some (.agg ((e.cells.drop j).take n)) else none) else e.cells[j]?
def patch(cs:List AV)(j:Nat)(new:List AV):List AV:=cs.take j++new++cs.drop (j+new.length)
def sM(e:AV)(j:Nat)(new:List AV):Option AV:=
 match e with
 | .agg cs=>if j+new.length<=cs.length then some (.agg (patch cs j new)) else none
 | _=>match j,new with
  | 0,[x]=>some x
  | _,_=>none
def jz(es:List AV)(i j:Nat)(new:List AV):Option (List AV):=
 match es[i]? with
 | none=>none
 | some e=>(sM e j new).map λa=>es.set i a
def view(g:da):Nat->AV->Option AV
 | 0,_=>none
 | n+1,x=>
  match x with
  | .v x=>some (.v x)
  | .agg cs=>(cs.mapM (view g n)).map .agg
  | .tup cs=>(cs.mapM (view g n)).map .tup
  | .bW esz es cap=>some (.bW esz es cap)
  | .fsl .. => none
  | .iptr esz es i j=>some (.iptr esz es i j)
  | .cL r off len cap=>
   match g r with
   | some b=>if b.arr=true/\off+len<=b.es.length then some (.bW b.esz ((b.es.drop off).take len) cap) else none
   | none=>none
  | .ptr r i j=>
   match g r with
   | some b=>if b.arr then some (.iptr b.esz b.es i j) else (b.es.mapM (view g n)).map λes => .iptr b.esz es i j
   | none=>none
  | .fn f a b=>match a.mapM (view g n),b.mapM (view g n) with
   | some a,some b=>some (.fn f a b)
   | _,_=>none
  | .ifc t x=>(view g n x).map (.ifc t)
  | .yld _ | .mp _ | .ch _ | .lp .. => none
def ay(g:da):Nat->AV->List Ref
 | 0,_=>[]
 | n+1,x=>
  match x with
  | .agg cs | .tup cs=>cs.flatMap (ay g n)
  | .cL r _ _ _=>[r]
  | .ptr r _ _=>r :: (match g r with | some b=>if b.arr then [] else b.es.flatMap (ay g n) | none=>[])
  | .fn _ a b=>a.flatMap (ay g n)++b.flatMap (ay g n)
  | .ifc _ x=>ay g n x
  | .mp r=>[r]
  | .ch r=>[r]
  | _=>[]
def flat:Nat->AV->Bool
 | 0,_=>false
 | n+1,x=>
  match x with
  | .v _=>true
  | .agg cs | .tup cs=>cs.all (flat n)
  | .ifc _ x=>flat n x
  | .fn _ a b=>a.all (flat n)&&b.all (flat n)
  | _=>false
def cJ(H:ai):List Ref->ai
 | []=>H
 | r :: rs=>match H.get r with
  | some b=>cJ (H.put r (some { b with kH:=true})) rs
  | none=>cJ H rs
def kg(g:da)(rs:List Ref):Bool:=rs.all λr=>match g r with | some b=>b.kH | none=>false
def depth:Nat:=8
def aO(tm:List AV):Operand->Option AV
 | .tmp t=>some (dH tm t)
 | .const v=>ofValue v
 | .func f=>some (.fn (.func f) [] [])
 | .global _=>none
def intOf:AV->Option Int
 | .v (.int _ n)=>some n
 | _=>none
def Ed:AV->Option Bool
 | .v (.bool b)=>some b
 | _=>none
def bI:Nat:=140737488355328
def cS(g:da):AV->Option (Nat × List AV)
 | .v (.string s)=>some (1,s.data.toList.map λb => .v (.int .u8 b.toNat))
 | .bW esz es _=>some (esz,es)
 | .cL r off len _=>match g r with
  | some b=>if b.arr=true/\off+len<=b.es.length then some (b.esz,(b.es.drop off).take len) else none
  | none=>none
 | _=>none
def bounds(len:Nat)(cap:Option Nat)(a b c:Option Int):Option (Nat × Nat × Option Nat):=
 match c with
 | some m=>
  match b with
  | some h=>if 0<=a.getD 0/\a.getD 0<=h/\h<=m/\m<=cap.getD len/\h<=len then some ((a.getD 0).toNat,h.toNat,some (m.toNat - (a.getD 0).toNat)) else none
  | none=>none
 | none=>if 0<=a.getD 0/\a.getD 0<=b.getD len/\b.getD len<=len then some ((a.getD 0).toNat,(b.getD len).toNat,cap.map (· - (a.getD 0).toNat)) else none
def mh(tm:List AV):Option Operand->Option (Option Int)
 | none=>some none
 | some o=>match (aO tm o).bind intOf with
  | some n=>some (some n)
  | none=>none
def Au(P:Program)(t:TypeId)(cs:List AV)(a:Nat):Option AV:=
 match dI P t,aL P t with
 | some true,some n=>if a+n<=cs.length then some (.agg ((cs.drop a).take n)) else none
 | some false,_=>cs[a]?
 | _,_=>none
def lP(a:Nat->Option (Nat × Nat))(cells:List AV):List (Nat × AV)->Option (List AV)
 | []=>some cells
 | (i,v) :: rest=>
  match a i with
  | none=>none
  | some (off,size)=>
   if v.cells.length=size/\off+size<=cells.length then lP a (patch cells off v.cells) rest else none
def aD(P:Program)(t:TypeId)(i:Nat):Option (Nat × Nat):=
 match oc P t i with
 | some (off,ft)=>(aL P ft).map λn=>(off,n)
 | none=>none
def placesOf(P:Program)(t:TypeId):Option (List (Nat × Nat)):=
 match P.underlying t with
 | some (.struct a)=>a.toList.mapM λf=>(P.info? f.type).map λi=>(f.offset,i.size)
 | _=>none
def iR(es:List AV):List (Nat × AV)->Option (List AV)
 | []=>some es
 | (i,v) :: rest=>if i<es.length then iR (es.set i v) rest else none
def iS(tm:List AV)(ps:List (Nat × Operand)):Option (List (Nat × AV)):=
 ps.mapM λ(i,o)=>(aO tm o).map λx=>(i,x)
def CJ(P:Program)(a:BinOp)(t:TypeId)(b c:Operand)(x y:Value):Option Value:=
 bn P (do eqGuard a t b c x y;binOp a t x y)
def wh:AV->Option Nat
 | .v (.slice none 0 0)=>some 0
 | .bW _ es _=>some es.length
 | .cL _ _ n _=>some n
 | _=>none
def Ka(f:Value->Value->Sem Value)(P:Program)(args:List AV):Option AV:=
 match args.mapM Iv with
 | some (x :: rest)=>(bn P (rest.foldlM f x)).bind jR
 | _=>none
def byteOf:AV->Option UInt8
 | .v (.int .u8 n)=>some (UInt8.ofNat n.toNat)
 | _=>none
abbrev jw:=Option (AV × List bz)
def jQ(x:Option AV):jw:=x.map (·,[])
def GG(d:Operand->Option AV)(c a b:Operand):jw:=
 match (d c).bind Ed with
 | some true=>jQ (d a)
 | some false=>jQ (d b)
 | none=>none
def wV(P:Program)(r:Ref)(e:TypeId):jw:=
 match ff P e,aL P e with
 | some z,some n=>if z.cells.length=n/\z.cells.all AV.one/\0<n then some (.ptr r 0 0,[⟨n,[z],false,false⟩]) else none
 | _,_=>none
def J4(P:Program)(r:Ref)(e:TypeId)(x:Option AV):jw:=
 match x,aL P e with
 | some x,some n=>if x.cells.length=n/\x.cells.all AV.one/\0<n then some (.ptr r 0 0,[⟨n,[x],false,false⟩]) else none
 | _,_=>none
def mP(P:Program)(t:TypeId)(a:Option (List (Nat × AV))):jw:=
 match ff P t,a with
 | some (.agg z),some a=>
  match lx P t with
  | some (_,e)=>match aL P e with
   | some n=>(lP (λi=>some (i * n,n)) z a).map λcs=>(.agg cs,[])
   | none=>none
  | none=>match placesOf P t with
   | some ps=>(lP (ps[·]?) z a).map λcs=>(.agg cs,[])
   | none=>none
 | _,_=>none
def fI(g:da)(a:List (Nat × AV)):Option (List (Nat × AV)):=a.mapM λ(i,x)=>(view g depth x).map (i,·)
def cq(g:da)(xs:List AV):List Ref:=xs.flatMap (ay g depth)
def mkSlice(P:Program)(g:da)(t:TypeId)(n:Nat)(a:List (Nat × AV)):Option bz:=
 match ei P t with
 | none=>none
 | some e=>match fI g a,ff P e,aL P e with
  | some ws,some z,some s=>
   if 0<s/\n * s<=16777216/\z.cells.length=s/\z.cells.all AV.one/\ws.all (λp=>p.2.cells.length=s&&p.2.cells.all AV.one) then
    (iR (List.replicate n z) ws).map λes=>⟨s,es,true,false⟩
   else none
  | _,_,_=>none
def im(P:Program)(a:Bool)(g:da)(r:Ref)(t:TypeId)(n:Nat)(c:Option (List (Nat × AV))):jw:=
 match c with
 | none=>none
 | some c=>if kg g (cq g (c.map (·.2))) then (mkSlice P g t n c).map λb=>(if a then (.bW b.esz b.es (some n),[]) else (.cL r 0 n (some n),[b])) else none
def tD(P:Program)(g:da)(t:TypeId)(a:Option AV):jw:=
 match a,dI P t,aL P t with
 | some (.ptr r' i j),some c,some n=>match g r' with
  | some b=>jQ (bX b.es i j n c)
  | none=>none
 | some (.iptr _ es i j),some c,some n=>jQ (bX es i j n c)
 | _,_,_=>none
def LL(x:Option AV):jw:=
 match x with
 | some (.ptr r' i j)=>some (.ptr r' i j,[])
 | some (.iptr n es i j)=>some (.iptr n es i j,[])
 | some (.fn (.func f) a b)=>some (.fn (.func f) a b,[])
 | _=>none
def Kj:AV->Bool
 | .bW .. | .cL .. => true
 | _=>false
def oh:AV->Bool
 | .v (.slice none 0 0)=>true
 | _=>false
def cf(P:Program)(a:BinOp)(t:TypeId)(c b:Operand)(x y:Option AV):jw:=
 match x,y with
 | some x,some y=>
  if Kj x&&oh y||Kj y&&oh x then
   match P.underlying t,a with
   | some (.slice _),.eql=>some (.v (.bool false),[])
   | some (.slice _),.neq=>some (.v (.bool true),[])
   | _,_=>none
  else
   match gJ x,gJ y with
   | some x,some y=>jQ ((CJ P a t c b x y).bind jR)
   | _,_=>none
 | _,_=>none
def Ye(P:Program)(a:UnOp)(x:Option AV):jw:=
 jQ (((x.bind Iv).bind λx=>bn P (Op.unary a x)).bind jR)
def fF(P:Program)(t:TypeId):Bool:=
 match P.underlying t with
 | some (.slice e)=>(match P.underlying e with | some (.int .u8)=>true | _=>false)
 | _=>false
def isStr(P:Program)(t:TypeId):Bool:=match P.underlying t with | some .string=>true | _=>false
def gl(P:Program)(g:da)(r:Ref)(a c:TypeId)(x:Option AV):jw:=
 match x with
 | some (.v (.slice none 0 0))=>if fF P a&&isStr P c then some (.v (.string .empty),[]) else none
 | some (.v (.string s))=>
  if isStr P a&&isStr P c then some (.v (.string s),[])
  else if isStr P a&&fF P c then
   (if s.size<=bI then some (.cL r 0 s.size none,[⟨1,s.data.toList.map λb => .v (.int .u8 b.toNat),true,false⟩]) else none)
  else none
 | some (.v x)=>jQ ((bn P (Go.convert a c x)).bind jR)
 | some x=>if fF P a&&isStr P c then
  match cS g x with
  | some (_,es)=>(es.mapM byteOf).map λl=>(.v (.string ⟨l.toArray⟩),[])
  | none=>none
  else if a == c&&fF P a then
   match x with
   | .cL r' _ _ _=>(match g r' with
    | some b=>if b.esz=1 then some (x,[]) else none
    | none=>none)
   | _=>none
  else none
 | none=>none
def sT(P:Program)(t:TypeId)(x:Option AV):jw:=
 match P.underlying t with
 | some (.interface _)=>none
 | some _=>x.map λx=>(.ifc t x,[])
 | none=>none
def ue(f:Fn)(first captured:Option (List AV)):jw:=
 match first,captured with
 | some a,some b=>some (.fn f a b,[])
 | _,_=>none
def Ez(P:Program)(r:Ref)(t:TypeId)(l c:Option AV):jw:=
 match ei P t,l.bind intOf,c.bind intOf with
 | some e,some l,some c=>match ff P e,aL P e,o9 P e with
  | some z,some s,some b=>
   if 0<=l/\l<=c/\c * b<=bI/\c<=9223372036854775807/\0<s/\z.cells.length=s/\z.cells.all AV.one then some (.cL r 0 l.toNat none,[⟨s,List.replicate l.toNat z,true,false⟩]) else none
  | _,_,_=>none
 | _,_,_=>none
def iQ(P:Program)(g:da)(t:TypeId)(x:Option AV)(d a e:Option (Option Int)):jw:=
 match d,a,e with
 | some d,some a,some e=>
  match x with
  | some (.v (.slice none 0 0))=>if ((ei P t).bind (aL P)).isSome then (bounds 0 (some 0) d a e).map λ_=>(.v (.slice none 0 0),[]) else none
  | some (.v (.string s))=>if isStr P t&&e.isNone then (bounds s.size none d a none).map λ(l,h,_)=>(.v (.string (s.extract l h)),[]) else none
  | some (.bW esz es cap)=>if (ei P t).bind (aL P)=some esz then (bounds es.length cap d a e).map λ(l,h,c)=>(.bW esz ((es.drop l).take (h - l)) c,[]) else none
  | some (.cL r' off len cap)=>(match g r' with
   | some b=>if (ei P t).bind (aL P)=some b.esz then (bounds len cap d a e).map λ(l,h,c)=>(.cL r' (off+l) (h - l) c,[]) else none
   | none=>none)
  | _=>none
 | _,_,_=>none
def wa(P:Program)(g:da)(t:TypeId)(x:Option AV)(a c d:Option (Option Int)):jw:=
 match a,c,d,x with
 | some a,some c,some none,some (.cL r' off len cap)=>(match g r' with
  | some b=>if (ei P t).bind (aL P)=some b.esz/\0<=a.getD 0/\a.getD 0<=c.getD len/\c.getD len<=cap.getD len then
   some (.cL r' (off+(a.getD 0).toNat) ((c.getD len).toNat - (a.getD 0).toNat) (cap.map (· - (a.getD 0).toNat)),[]) else none
  | none=>none)
 | _,_,_,_=>none
def LK(P:Program)(g:da)(t:TypeId)(args:List AV):jw:=
 match args,ei P t with
 | [.cL r _ _ _,.cL r' _ _ _],some e=>(match g r,g r',aL P e with
  | some b,some b',some z=>if r≠r'/\1<b.esz/\b.esz=z/\b'.esz=z then some (.v (.bool false),[]) else none
  | _,_,_=>none)
 | _,_=>none
def EB(ur:FuncId->Option TypeId)(a:Bool)(f:Operand):Option TypeId:=match a,f with
 | false,.func fi=>ur fi
 | _,_=>none
@[simp] theorem yY(ur:FuncId->Option TypeId)(f:Operand):EB ur true f=none:=by cases f<;>rfl
def jM(P:Program)(t:TypeId)(x:Option AV)(f:Nat):jw:=
 match aD P t f with
 | some (off,s)=>if 0<s then
  match x with
  | some (.ptr r' i j)=>some (.ptr r' i (j+off),[])
  | some (.iptr n es i j)=>some (.iptr n es i (j+off),[])
  | _=>none
  else none
 | none=>none
def tT(P:Program)(t:TypeId)(x:Option AV)(f:Nat):jw:=
 match oc P t f,x with
 | some (off,ft),some (.agg cs)=>jQ (Au P ft cs off)
 | _,_=>none
def eg(P:Program)(g:da)(t:TypeId)(x a:Option AV):jw:=
 match a.bind intOf with
 | some k=>
  match ei P t with
  | some e=>match x,aL P e with
   | some (.bW esz es _),some s=>if 0<=k/\k<es.length/\s=esz then some (.iptr esz es k.toNat 0,[]) else none
   | some (.cL r' off len _),some s=>(match g r' with
    | some b=>if 0<=k/\k<len/\s=b.esz then some (.ptr r' (off+k.toNat) 0,[]) else none
    | none=>none)
   | _,_=>none
  | none=>match lx P t with
   | some (n,e)=>match x,aL P e with
    | some (.ptr r' i j),some s=>if 0<=k/\k<n then some (.ptr r' i (j+k.toNat * s),[]) else none
    | some (.iptr esz es i j),some s=>if 0<=k/\k<n then some (.iptr esz es i (j+k.toNat * s),[]) else none
    | _,_=>none
   | none=>none
 | none=>none
def rj(P:Program)(t:TypeId)(x a:Option AV):jw:=
 match a.bind intOf,x with
 | some k,some (.agg cs)=>(match lx P t with
  | some (n,e)=>(match aL P e with
   | some s=>if 0<=k/\k<n then jQ (Au P e cs (k.toNat * s)) else none
   | none=>none)
  | none=>none)
 | some k,some (.v (.string s))=>if isStr P t/\0<=k then jQ ((s[k.toNat]?).map λb => .v (.int .u8 b.toNat)) else none
 | _,_=>none
def s9(P:Program)(x:Option AV)(a:TypeId)(ok:Bool):jw:=
 match P.underlying a,x with
 | some (.interface _),_=>none
 | some _,some (.ifc t y)=>
  if t=a then some ((if ok then .tup [y,.v (.bool true)] else y),[])
  else if ok then (ff P a).map λz=>(.tup [z,.v (.bool false)],[]) else none
 | some _,some (.v .nilIface)=>if ok then (ff P a).map λz=>(.tup [z,.v (.bool false)],[]) else none
 | _,_=>none
def tE(x:Option AV)(i:Nat):jw:=
 match x with
 | some (.tup a)=>jQ (a[i]?)
 | _=>none
def bj(ents:List AV):bz:=⟨0,.v (.bool true) :: ents,false,false⟩
def jU(g:da)(r:Ref):Option (List AV):=match g r with
 | some ⟨0,.v (.bool true) :: ents,false,_⟩=>some ents
 | _=>none
def Hj(cap:Nat)(b:Bool)(a:List AV):bz:=⟨0,.v (.bool false) :: .v (.int .i64 cap) :: .v (.bool b) :: a,false,false⟩
def Vj(g:da)(r:Ref):Option (Nat × Bool × List AV):=match g r with
 | some ⟨0,.v (.bool false) :: .v (.int .i64 cap) :: .v (.bool a) :: buf,false,_⟩=>some (cap.toNat,a,buf)
 | _=>none
def Lc(P:Program)(t:TypeId):Option TypeId:=match P.underlying t with
 | some (.chan _ e)=>some e
 | _=>none
def HO(P:Program)(t:TypeId):Option (TypeId × TypeId):=match P.underlying t with
 | some (.map k e)=>some (k,e)
 | _=>none
def AG:AV->Option Value
 | .tup [k,_]=>gJ k
 | _=>none
def Hb:AV->Option AV
 | .tup [_,v]=>some v
 | _=>none
def za(P:Program)(a:Bool)(b:TypeId)(k:Value)(c:List Value):Option (Option Nat):=
 match bn P (Instr.checkKey a 10000 b k) with
 | some _=>(bn P (Instr.findKey b k (c.map λx=>⟨x,Go.undef,0⟩))).map λo=>o.map (·.1)
 | none=>none
def eU(P:Program)(g:da)(t:TypeId)(x k:Option AV)(ok:Bool):jw:=
 match HO P t,x,k.bind gJ with
 | some (c,et),some (.mp r),some b=>(match jU g r with
  | some ents=>(match ents.mapM AG with
   | some a=>(match za P a.isEmpty c b a with
    | some (some i)=>(ents[i]?.bind Hb).map λv=>((if ok then .tup [v,.v (.bool true)] else v),[])
    | some none=>(ff P et).map λz=>((if ok then .tup [z,.v (.bool false)] else z),[])
    | none=>none)
   | none=>none)
  | none=>none)
 | _,_,_=>none
def wb(P:Program)(g:da)(t:Option TypeId)(r:Ref):jw:=
 match t.bind (HO P),jU g r with
 | some _,some ents=>some (.v (.int .i64 ents.length),[])
 | _,_=>none
def PB:Value->Value->Bool
 | .bool a,.bool b=>a == b
 | .int k n,.int k' c=>decide (k=k')&&decide (n=c)
 | .string s,.string t=>decide (s=t)
 | .slice none a b,.slice none d b'=>Nat.beq a d&&Nat.beq b b'
 | .nilFunc,.nilFunc=>true
 | .nilIface,.nilIface=>true
 | _,_=>false
def Jh:Nat->AV->AV->Bool
 | 0,_,_=>false
 | n+1,x,y=>
  match x,y with
  | .v u,.v v=>PB u v
  | .agg cs,.agg ds=>Nat.beq cs.length ds.length&&(cs.zip ds).all λp=>Jh n p.1 p.2
  | .bW z es c,.bW d a b=>Nat.beq z d&&decide (c=b)&&Nat.beq es.length a.length&&(es.zip a).all λp=>Jh n p.1 p.2
  | _,_=>false
def IM(r r':Ref):Bool:=Nat.beq r.t r'.t&&Nat.beq r.g r'.g&&Nat.beq r.d r'.d&&Nat.beq r.k r'.k
def BD:Nat->AV->AV->Bool
 | 0,_,_=>false
 | n+1,x,y=>
  match x,y with
  | .v u,.v v=>PB u v
  | .agg cs,.agg ds=>Nat.beq cs.length ds.length&&(cs.zip ds).all λp=>BD n p.1 p.2
  | .tup cs,.tup ds=>Nat.beq cs.length ds.length&&(cs.zip ds).all λp=>BD n p.1 p.2
  | .bW z es c,.bW h d g=>Nat.beq z h&&decide (c=g)&&Nat.beq es.length d.length&&(es.zip d).all λp=>BD n p.1 p.2
  | .cL r a b c,.cL r' e b' g=>IM r r'&&Nat.beq a e&&Nat.beq b b'&&decide (c=g)
  | .ptr r i j,.ptr r' o k=>IM r r'&&Nat.beq i o&&Nat.beq j k
  | .mp r,.mp r'=>IM r r'
  | .ch r,.ch r'=>IM r r'
  | .fn (.func f) a b,.fn (.func m) e b'=>Nat.beq f m&&(Nat.beq a.length e.length&&(a.zip e).all λp=>BD n p.1 p.2)&&(Nat.beq b.length b'.length&&(b.zip b').all λp=>BD n p.1 p.2)
  | .ifc t x,.ifc t' l=>Nat.beq t t'&&BD n x l
  | _,_=>false
def Kx(k k':bz):Bool:=Nat.beq k.esz k'.esz&&k.arr == k'.arr&&k.kH == k'.kH&&Nat.beq k.es.length k'.es.length&&(k.es.zip k'.es).all λp=>BD 8 p.1 p.2
def G2(H H':ai):Bool:=H.all λp=>match H.get p.1 with
 | none=>true
 | some k=>match H'.get p.1 with
  | none=>false
  | some k'=>Kx k k'
def UD(xs ys:List AV):Bool:=Nat.beq xs.length ys.length&&(xs.zip ys).all λp=>Jh 8 p.1 p.2
def Kb:List (FuncId × List AV × AV)->FuncId->List AV->Option AV
 | [],_,_=>none
 | (g,xs,y) :: T,f,args=>if Nat.beq g f&&UD xs args then some y else Kb T f args
def aE(r:Ref):Nat->AV->List bz->AV × List bz
 | 0,x,a=>(x,a)
 | n+1,x,a=>
  match x with
  | .fsl esz es cap=>if esz=0 then (.mp { r with k:=a.length},a++[⟨0,es,false,false⟩]) else (.cL { r with k:=a.length} 0 es.length cap,a++[⟨esz,es,true,false⟩])
  | .agg cs=>let (ys,a):=cs.foldl (λ(p:List AV × List bz) c=>let (y,a):=aE r n c p.2;(p.1++[y],a)) ([],a);(.agg ys,a)
  | .tup cs=>let (ys,a):=cs.foldl (λ(p:List AV × List bz) c=>let (y,a):=aE r n c p.2;(p.1++[y],a)) ([],a);(.tup ys,a)
  | .ifc t x=>let (y,a):=aE r n x a;(.ifc t y,a)
  | x=>(x,a)
inductive xb where
 | fn (f:FuncId)
 | yld (r:Ref)
def Az(m:Nat):Bool:=m == 1||m == 3
def CK:Nat->AV->Bool
 | 0,_=>false
 | n+1,x=>
  match x with
  | .v _=>true
  | .agg cs | .tup cs=>cs.all (CK n)
  | .fsl z es _=>z != 0&&es.all (flat depth)
  | .bW _ es _=>es.isEmpty
  | .ifc _ x=>CK n x
  | _=>false
structure Nl where
 f:ai->ai->Bool
 ok : ∀H H',f H H'=true ->∀q k,H.get q=some k->H'.get q=some k
def Us:Nl:=⟨λ_ _=>false,λ_ _ h=>by cases h⟩
structure Env where
 P:Program
 strict:Oper->Bool
 apart:Array Oper->List (Tmp × Tmp)
 mode:FuncId->Nat
 allowed:FuncId->Bool
 spec:FuncId->List AV->Option AV
 ok:Array Oper->Bool:=λ_=>true
 kH:Oper->Bool:=λ_=>false
 wide:Oper->Bool:=λ_=>false
 ur:FuncId->Option TypeId:=λ_=>none
 thrSpec:FuncId->List AV->ai->Option (AV × ai):=λ_ _ _=>none
 sm:Nl:=Us
def ku(E:Env)(pc:FuncId->List AV->Option AV)(g:da)(r:Ref)(f:Option AV)(args:List AV):jw:=
 match f with
 | some (.fn (.func fi) first captured)=>
  if E.mode fi=2 then none else
  match (first++args++captured).mapM (view g depth) with
  | some xs=>match pc fi xs with
   | some y=>if flat depth y||kg g (cq g (first++args++captured))||(E.mode fi == 3&&CK depth y) then some (aE r depth y []) else none
   | none=>none
  | none=>none
 | _=>none
def HQ(P:Program)(t:Option TypeId)(x:AV):jw:=
 match t with
 | none=>none
 | some t=>match lx P t with
  | some (n,_)=>some (.v (.int .i64 n),[])
  | none=>if isStr P t then (match x with | .v (.string s)=>some (.v (.int .i64 s.size),[]) | _=>none)
   else if (ei P t).isSome then (wh x).map λn=>(.v (.int .i64 n),[]) else none
def pv(P:Program)(g:da)(e:TypeId)(x:AV):Option (Nat × List AV):=
 match x with
 | .v (.slice none 0 0)=>(aL P e).map λz=>(z,[])
 | .v (.int _ n)=>match ff P e,aL P e with
  | some w,some z=>if 0<=n/\n<=bI/\w.cells.length=z/\w.cells.all AV.one then some (z,List.replicate n.toNat w) else none
  | _,_=>none
 | x=>cS g x
def isNum:AV->Bool
 | .v (.int _ _)=>true
 | _=>false
def isInt(P:Program)(t:TypeId):Bool:=match P.underlying t with | some (.int _)=>true | _=>false
def jB(P:Program)(g:da)(r:Ref)(t t':Option TypeId)(s x:AV):jw:=
 match t.bind (ei P) with
 | none=>none
 | some e=>
  if (t'.bind P.underlying).isNone\/(t'.map (isInt P)).getD false≠isNum x then none else
  match aL P e,o9 P e,ff P e,pv P g e x with
  | some z,some a,some d,some (c,new)=>
   if c≠z\/z=0\/a=0\/d.cells.length≠z then none else
   match s with
   | .v (.slice none 0 0)=>if new=[] then some (s,[]) else if new.length * a<=bI then some (.cL r 0 new.length none,[⟨z,new,true,false⟩]) else none
   | .bW n es cap=>if n≠z then none else if new=[] then some (s,[]) else
    match cap with
    | some k=>if k<es.length+new.length/\(es.length+new.length) * a<=bI then some (.cL r 0 (es.length+new.length) none,[⟨z,es++new,true,false⟩]) else none
    | none=>none
   | .cL r' off len cap=>(match g r' with
    | some b=>if b.esz≠z\/b.arr=false then none else if new=[] then some (s,[]) else
     (match cap with
     | some k=>if off+len<=b.es.length/\k<len+new.length/\(len+new.length) * a<=bI then
      some (.cL r 0 (len+new.length) none,[⟨z,(b.es.drop off).take len++new,true,false⟩]) else none
     | none=>none)
    | none=>none)
   | _=>none
  | _,_,_,_=>none
def ZE(P:Program)(t:Option TypeId)(x:AV):jw:=
 match t.bind (ei P),x with
 | some _,.v (.slice none 0 0)=>some (.v (.int .i64 0),[])
 | some _,.bW _ _ (some k)=>some (.v (.int .i64 k),[])
 | some _,.cL _ _ _ (some k)=>some (.v (.int .i64 k),[])
 | _,_=>none
def cO(P:Program)(a:Bool)(g:da)(r:Ref)(b:Builtin)(c:Array TypeId)(args:List AV):jw:=
 match b,args with
 | .len,[.mp r']=>if a then none else wb P g c[0]? r'
 | .len,[x]=>HQ P c[0]? x
 | .min,args=>jQ (Ka Builtin.min2 P args)
 | .max,args=>jQ (Ka Builtin.max2 P args)
 | .append,[s,x]=>jB P g r c[0]? c[1]? s x
 | .cap,[x]=>ZE P c[0]? x
 | _,_=>none
def AD(b:Bool)(a:List bz):List bz:=if b then a.map (λk => { k with kH:=true}) else a
def cE(E:Env)(pc:FuncId->List AV->Option AV)(d:Bool)(g:da)(tm:List AV)(r:Ref)(o:Oper):jw:=
 match o.op with
 | .move x | .assign x=>jQ (aO tm x)
 | .pick c a b=>GG (aO tm) c a b
 | .alloc e=>wV E.P r e
 | .box e x=>J4 E.P r e (aO tm x)
 | .build t ps=>mP E.P t (iS tm ps.toList)
 | .buildSlice t n ps=>im E.P (d && !E.strict o) g r t n (iS tm ps.toList)
 | .load t a=>tD E.P g t (aO tm a)
 | .nilCheck x=>LL (aO tm x)
 | .binOp op t v q _=>cf E.P op t v q (aO tm v) (aO tm q)
 | .unOp op _ x=>Ye E.P op (aO tm x)
 | .convert src dst x=>gl E.P g r src dst (aO tm x)
 | .makeInterface t x=>sT E.P t (aO tm x)
 | .makeFunc f first captured=>ue f (first.toList.mapM (aO tm)) (captured.toList.mapM (aO tm))
 | .makeSlice t l c=>Ez E.P r t (aO tm l) (aO tm c)
 | .makeMap _ none=>some (.mp r,[bj []])
 | .lookup t x k ok=>eU E.P g t (aO tm x) (aO tm k) ok
 | .slice t x m j u=>cond (E.wide o && !d) (wa E.P g t (aO tm x) (mh tm m) (mh tm j) (mh tm u)) (iQ E.P g t (aO tm x) (mh tm m) (mh tm j) (mh tm u))
 | .fieldAddr t x f=>jM E.P t (aO tm x) f
 | .field t x f=>tT E.P t (aO tm x) f
 | .indexAddr t x h=>eg E.P g t (aO tm x) (aO tm h)
 | .index t x h=>rj E.P t (aO tm x) (aO tm h)
 | .typeAssert x _ want ok=>s9 E.P (aO tm x) want ok
 | .extract x i=>tE (aO tm x) i
 | .call c=>
  match c.args.toList.mapM (aO tm) with
  | none=>none
  | some args=>
   match c.callee with
   | .value f=>(match EB E.ur d f with
    | some t=>LK E.P g t args
    | none=>(ku E pc g r (aO tm f) args).map λp=>(p.1,AD (E.kH o) p.2))
   | .invoke _ _=>none
   | .builtin b=>cO E.P (d&&(E.strict o || !(match c.args.toList with | [.tmp _]=>true | _=>false))) g r b c.argTypes args
 | _=>none
def keyed(r:Ref):Nat->List bz->ai->ai
 | _,[],g=>g
 | k,b :: a,g=>keyed r (k+1) a (({ r with k:=k},some b) :: g)
abbrev du:=Option (AV × ai)
def nT(P:Program)(H:ai)(t:TypeId)(a x:Option AV):du:=
 match a,x,aL P t with
 | some (.ptr r' i j),some x,some n=>
  match H.get r' with
  | some b=>
   if x.cells.length=n/\x.cells.all AV.one/\b.kH=false then
    (if b.arr=true then
     match view H.get depth x with
     | some y=>if r'∈ay H.get depth x then none else if y.cells.all AV.one=true then (jz b.es i j y.cells).map λes=>(AV.undef,(cJ H (ay H.get depth x)).put r' (some { b with es})) else none
     | none=>none
    else (jz b.es i j x.cells).map λes=>(AV.undef,H.put r' (some { b with es})))
   else none
  | none=>none
 | _,_,_=>none
def kq(P:Program)(H:ai)(r:Ref)(t:TypeId)(n:Nat)(a:Option (List (Nat × AV))):du:=
 match a with
 | none=>none
 | some a=>(mkSlice P H.get t n a).map λb=>(.cL r 0 n (some n),(r,some b) :: cJ H (cq H.get (a.map (·.2))))
def m7(E:Env)(pc:FuncId->List AV->Option AV)(tc:xb->List AV->ai->du)(H:ai)(r:Ref)(f:Option AV)(args:List AV):du:=
 match f with
 | some (.fn (.func g) first captured)=>
  if E.mode g=2 then tc (.fn g) (first++args++captured) H else
  match (first++args++captured).mapM (view H.get depth) with
  | some xs=>(pc g xs).map λy=>((aE r depth y []).1,keyed r 0 (aE r depth y []).2 (cJ H (cq H.get (first++args++captured))))
  | none=>none
 | some (.yld q)=>tc (.yld q) args H
 | _=>none
def qn(b:Bool)(sm:Nl)(H:ai)(x:du):du:=match b,x with
 | true,some (y,H')=>if flat depth y&&(G2 H H'||sm.f H H') then some (y,H) else none
 | _,x=>x
def mN(P:Program)(H:ai)(t t':Option TypeId)(s x:AV):du:=
 match t.bind (ei P) with
 | none=>none
 | some e=>
  if (t'.bind P.underlying).isNone\/(t'.map (isInt P)).getD false≠isNum x then none else
  match aL P e,o9 P e,ff P e,pv P H.get e x with
  | some z,some a,some f,some (c,new)=>
   if c≠z\/z=0\/a=0\/new=[]\/f.cells.length≠z then none else
   match s with
   | .cL r' off len none=>(match H.get r' with
    | some b=>if off=0/\b.arr=true/\b.esz=z/\len=b.es.length/\(len+new.length) * a<=bI then
     some (.cL ⟨r'.d,r'.t,H.gen r'.d r'.t,0⟩ 0 (len+new.length) none,(⟨r'.d,r'.t,H.gen r'.d r'.t,0⟩,some ⟨z,b.es++new,true,b.kH⟩) :: H.put r' none) else none
    | none=>none)
   | _=>none
  | _,_,_,_=>none
def KU(P:Program)(H:ai)(t:Option TypeId)(a x:AV):du:=
 match t.bind (ei P) with
 | none=>none
 | some e=>match aL P e with
  | none=>none
  | some z=>match (if oh x then some (z,[]) else cS H.get x) with
   | none=>none
   | some (c,src)=>if c≠z\/z=0 then none else
    match a with
    | .v (.slice none 0 0)=>some (.v (.int .i64 0),H)
    | .cL r' off len _=>(match H.get r' with
     | some b=>
      if b.arr=true/\b.esz=z/\b.kH=false/\off+len<=b.es.length then
       some (.v (.int .i64 (Nat.min src.length len:Nat)),H.put r' (some { b with es:=b.es.take off++src.take (Nat.min src.length len)++b.es.drop (off+Nat.min src.length len)})) else none
     | none=>none)
    | _=>none
def FY(P:Program)(H:ai)(t:Option TypeId)(c x:AV):du:=
 match (t.bind (ei P)).bind (aL P),c,x with
 | some z,.cL r off len _,.cL r2 a z7 _=>(match H.get r,H.get r2 with
  | some b,some b2=>
   if b.arr=true/\b2.arr=true/\b.esz=z/\b2.esz=z/\0<z/\b.kH=false/\off<=b.es.length/\a+Nat.min z7 len<=b2.es.length then
    some (.v (.int .i64 (Nat.min z7 len:Nat)),H.put r (some { b with es:=b.es.take off++(b2.es.drop a).take (Nat.min z7 len)++b.es.drop (off+Nat.min z7 len)})) else none
  | _,_=>none)
 | _,_,_=>none
def dQ(P:Program)(H:ai)(t:TypeId)(m k x:Option AV):du:=
 match HO P t,m,k,x with
 | some (c,_),some (.mp r),some k,some x=>(match gJ k,jU H.get r with
  | some a,some ents=>(match ents.mapM AG with
   | some b=>(match za P false c a b with
    | some (some i)=>if ((b[i]?).map λk0=>Instr.sameBits 10000 k0 a)=some true then some (AV.undef,H.put r (some (bj (ents.set i (.tup [k,x]))))) else none
    | some none=>some (AV.undef,H.put r (some (bj (ents++[.tup [k,x]]))))
    | none=>none)
   | none=>none)
  | _,_=>none)
 | _,_,_,_=>none
def iO(P:Program)(H:ai)(t:TypeId)(m k:Option AV):du:=
 match HO P t,m,k with
 | some (c,et),some (.mp r),some k=>(match gJ k,jU H.get r with
  | some a,some ents=>(match ents.mapM AG with
   | some b=>(match za P false c a b with
    | some (some i)=>if ((b[i]?).map λk0=>Instr.sameBits 10000 k0 a)=some true then (ents[i]?.bind Hb).map λv=>(.tup [v,.v (.int .i64 i)],H.put r (some (bj (ents.set i (.tup [k,v]))))) else none
    | some none=>(ff P et).map λz=>(.tup [z,.v (.int .i64 ents.length)],H.put r (some (bj (ents++[.tup [k,z]]))))
    | none=>none)
   | none=>none)
  | _,_=>none)
 | _,_,_=>none
def fE(H:ai)(m s x:Option AV):du:=
 match m,s,x with
 | some (.mp r),some (.v (.int _ n)),some x=>(match jU H.get r with
  | some ents=>if 0<=n then (match ents[n.toNat]? with
   | some (.tup [k,_])=>some (AV.undef,H.put r (some (bj (ents.set n.toNat (.tup [k,x])))))
   | _=>none) else none
  | none=>none)
 | _,_,_=>none
def AS(P:Program)(H:ai)(r:Ref)(t:TypeId)(n:Option AV):du:=
 match n,(Lc P t).bind (o9 P) with
 | some (.v (.int _ n)),some b=>if 0<=n/\n<=1000000/\b<=1000000 then some (.ch r,keyed r 0 [Hj n.toNat false []] H) else none
 | _,_=>none
def FU(H:ai)(c x:Option AV):du:=
 match c,x with
 | some (.ch r),some x=>(match Vj H.get r with
  | some (cap,false,buf)=>if buf.length<cap/\flat depth x=true then some (AV.undef,H.put r (some (Hj cap false (buf++[x])))) else none
  | _=>none)
 | _,_=>none
def aaj(ok:Bool)(x:AV)(b:Bool):AV:=if ok then .tup [x,.v (.bool b)] else x
def Is(P:Program)(H:ai)(t:TypeId)(c:Option AV)(ok:Bool):du:=
 match c,(Lc P t).bind (ff P) with
 | some (.ch r),some z=>(match Vj H.get r with
  | some (cap,a,x :: buf)=>some (aaj ok x true,H.put r (some (Hj cap a buf)))
  | some (_,true,[])=>some (aaj ok z false,H)
  | _=>none)
 | _,_=>none
def Ql:Op->Bool
 | .send .. | .recv .. => true
 | _=>false
def evalW(E:Env)(pc:FuncId->List AV->Option AV)(tc:xb->List AV->ai->du)(H:ai)(tm:List AV)(r:Ref)(o:Oper):du:=
 match o.op with
 | .store t a x=>nT E.P H t (aO tm a) (aO tm x)
 | .mapUpdate t m k x | .insert t m k x=>dQ E.P H t (aO tm m) (aO tm k) (aO tm x)
 | .mapEntry t m k=>iO E.P H t (aO tm m) (aO tm k)
 | .entryStore _ m s x=>fE H (aO tm m) (aO tm s) (aO tm x)
 | .buildSlice t n ps=>kq E.P H r t n (iS tm ps.toList)
 | .makeChan t n=>AS E.P H r t (aO tm n)
 | .send c x=>FU H (aO tm c) (aO tm x)
 | .recv t c ok=>Is E.P H t (aO tm c) ok
 | .call c=>
  match c.args.toList.mapM (aO tm) with
  | none=>none
  | some args=>
   match c.callee with
   | .value f=>qn (E.kH o) E.sm H (m7 E pc tc H r (aO tm f) args)
   | .invoke _ _=>none
   | .builtin b=>
    match b,args with
    | .append,[s,x]=>mN E.P H c.argTypes[0]? c.argTypes[1]? s x
    | .copy,[dst,x]=>cond (E.wide o) (FY E.P H c.argTypes[0]? dst x) (KU E.P H c.argTypes[0]? dst x)
    | _,_=>none
 | _=>none
def wanted(ops:Array Oper)(tm:List AV)(o:Oper):Option Bool:=
 match o.guard with
 | none=>some true
 | some (j,want)=>
  match (ops[j]?).bind (·.dst) with
  | some t=>(match dH tm t with
   | .v (.bool b)=>some (b == want)
   | .v (.tuple a)=>if a.isEmpty then some false else none
   | _=>none)
  | none=>some false
def Y3(E:Env):Op->Bool
 | .store .. | .mapUpdate .. | .insert .. | .mapEntry .. | .entryStore .. => true
 | .call c=>match c.callee with
  | .builtin .append | .builtin .copy=>true
  | .value (.func g)=>E.mode g == 2
  | .value (.tmp _)=>true
  | _=>false
 | _=>false
def Bi:Op->Bool
 | .buildSlice .. => true
 | _=>false
def jo(E:Env)(o:Oper):Bool:=(!E.strict o&&Y3 E o.op)||(E.kH o&&Bi o.op)
def dg(nt:Nat)(tm:List AV)(a:Option Tmp)(x:AV):Option (List AV):=
 match a with
 | none=>some tm
 | some d=>if d<nt then some (Cu tm d x) else none
def evalOp(E:Env)(pc:FuncId->List AV->Option AV)(tc:xb->List AV->ai->du)(nt dep:Nat)(a:Bool)(ops:Array Oper)(o:Oper)(st:St):Option St:=
 match wanted ops st.tm o with
 | none=>none
 | some false=>(dg nt st.tm o.dst AV.undef).map λtm => { st with tm}
 | some true=>
  match cE E pc a st.hp.get st.tm ⟨dep,o.dst.getD 0,st.hp.gen dep (o.dst.getD 0),0⟩ o with
  | some (x,b)=>(dg nt st.tm o.dst x).map λtm=>⟨tm,keyed ⟨dep,o.dst.getD 0,st.hp.gen dep (o.dst.getD 0),0⟩ 0 b st.hp⟩
  | none=>
   if a && !jo E o then none else
   match evalW E pc tc st.hp st.tm ⟨dep,o.dst.getD 0,st.hp.gen dep (o.dst.getD 0),0⟩ o with
   | some (x,H)=>(dg nt st.tm o.dst x).map λtm=>⟨tm,H⟩
   | none=>none
def nu(E:Env)(pc:FuncId->List AV->Option AV)(tc:xb->List AV->ai->du)(nt dep:Nat)(a:Bool)(ops:Array Oper):List Oper->St->Option St
 | [],st=>some st
 | o :: rest,st=>match evalOp E pc tc nt dep a ops o st with
  | some b=>nu E pc tc nt dep a ops rest b
  | none=>none
def lK(P:Program)(st:St):ResultVar->Option AV
 | .tmp t=>some (dH st.tm t)
 | .cell a t=>match dH st.tm a,dI P t,aL P t with
  | .ptr r i j,some g,some n=>match st.hp.get r with
   | some b=>bX b.es i j n g
   | none=>none
  | _,_,_=>none
def xN(P:Program)(fn:Func)(st:St):Option AV:=
 match fn.results.toList.mapM (lK P st) with
 | some []=>some (.v (.tuple #[]))
 | some [x]=>some x
 | some xs=>some (.tup xs)
 | none=>none
def codeOk(ok:Array Oper->Bool):Code->Bool
 | .region _ ops draw => !draw||ok ops
 | .seq a b | .cond _ a b=>codeOk ok a&&codeOk ok b
 | .block _ c | .loop c | .scope c=>codeOk ok c
 | .rangeFunc _ _ a b=>codeOk ok a&&codeOk ok b
 | _=>true
def ow(ok:Array Oper->Bool):Item->Bool
 | .code c | .inLoop c=>codeOk ok c
 | _=>true
def vp(E:Env)(run:Option Ref->Nat->Nat->List Item->St->Option St)(dep:Nat)(f:FuncId)(args:List AV)(H:ai):Option (AV × ai):=
 if E.allowed f then
  match E.P.funcs[f]? with
  | some fn=>match fn.body with
   | some c=>if args.length<=fn.ntmps then
    match run none fn.ntmps dep [.code c] ⟨args,H⟩ with
    | some st=>(xN E.P fn st).map (·,st.hp)
    | none=>none
    else none
   | none=>none
  | none=>none
 else none
def dM(g:da):Nat->AV->Option AV
 | 0,_=>none
 | n+1,x=>
  match x with
  | .agg cs=>(cs.mapM (dM g n)).map .agg
  | .tup cs=>(cs.mapM (dM g n)).map .tup
  | .ifc t x=>(dM g n x).map (.ifc t)
  | .cL r 0 len cap=>
   match g r with
   | some b=>if b.arr=true/\len<=b.es.length then some (if b.kH then .bW b.esz (b.es.take len) cap else .fsl b.esz (b.es.take len) cap) else none
   | none=>none
  | .mp r=>
   match jU g r with
   | some ents=>if ents.all (flat depth) then some (.fsl 0 (.v (.bool true) :: ents) none) else none
   | none=>none
  | x=>view g (n+1) x
def bG(E:Env)(run:Option Ref->Nat->Nat->List Item->St->Option St)(f:FuncId)(args:List AV):Option AV:=
 match E.spec f args with
 | some y=>some y
 | none=>match vp E run 0 f args [] with
  | some (x,H)=>if Az (E.mode f)=true then (if (ay H.get depth x).Nodup then dM H.get depth x else none) else view H.get depth x
  | none=>none
def kE(st:Nat)(a:AV):bz:=⟨0,[.v (.int .i64 st),a],false,false⟩
def zb(H:ai)(r:Ref):Option (Nat × AV):=match H.get r with
 | some ⟨0,[.v (.int .i64 st),inf],_,_⟩=>some (st.toNat,inf)
 | _=>none
def wU(tm:List AV):List Tmp->List AV->List AV
 | t :: a,x :: xs=>wU (Cu tm t x) a xs
 | _,_=>tm
def A3(E:Env)(run:Option Ref->Nat->Nat->List Item->St->Option St)(dep:Nat)(r:Ref)(args:List AV)(H:ai):Option (AV × ai):=
 match zb H r with
 | some (0,.lp f nt ps assign body tm)=>
  if args.length=ps.length/\ps.all (· < nt)=true/\codeOk E.ok assign=true/\codeOk E.ok body=true then
   (match run (some r) nt dep [.code assign,.beginRound,.code body] ⟨wU tm ps args,H⟩ with
   | some st=>(match zb st.hp r with
    | some (0,_)=>some (.v (.bool true),st.hp)
    | some (n+2,_)=>some (.v (.bool false),st.hp)
    | _=>none)
   | none=>none)
  else none
 | _=>none
def fg(E:Env)(run:Option Ref->Nat->Nat->List Item->St->Option St)(dep:Nat)(t:xb)(args:List AV)(H:ai):Option (AV × ai):=
 match t with
 | .fn f=>(match E.thrSpec f args H with
  | some z=>some z
  | none=>if E.mode f=2 then vp E run (dep+1) f args H else none)
 | .yld r=>A3 E run (dep+1) r args H
def wY(rd:Option Ref)(st:St)(n:Nat):Option St:=match rd with
 | none=>if n=2 then some st else none
 | some r=>match zb st.hp r with
  | some (1,inf)=>some { st with hp:=st.hp.put r (some (kE n inf))}
  | _=>none
def rM(E:Env)(ops:Array Oper):List (Tmp × Tmp):=E.apart ops
def jA:AV->Option Ref
 | .ptr r _ _=>some r
 | .cL r _ _ _=>some r
 | .mp r=>some r
 | .ch r=>some r
 | _=>none
def Ex(tm:List AV)(p:Tmp × Tmp):Bool:=match jA (dH tm p.1),jA (dH tm p.2) with
 | some r,some r'=>decide (r≠r')
 | _,_=>true
def xK(st:St)(o:Oper):Bool:=match o.op with
 | .store _ (.tmp t) _=>(match dH st.tm t with
  | .ptr r _ _=>(match st.hp.get r with
   | some b => !b.arr
   | none=>false)
  | _=>true)
 | _=>true
def YZ:Op->Option Tmp
 | .buildSlice _ _ ps=>(match ps.toList with
  | [(_,.tmp t)]=>some t
  | _=>none)
 | _=>none
def Hn(E:Env)(st:St)(o:Oper):Bool := !(E.kH o&&Bi o.op)||(match YZ o.op with
 | some t=>(match dH st.tm t with
  | .cL .. => true
  | .v _=>true
  | _=>false)
 | none=>false)
def tj(E:Env)(ops:Array Oper)(st:St):Bool:=(rM E ops).isEmpty||((rM E ops).all (Ex st.tm)&&(ops.toList.all (xK st)&&ops.toList.all (Hn E st)))
def bR(E:Env):Nat->(rd:Option Ref)->(nt dep:Nat)->List Item->St->Option St
 | 0,_,_,_,_,_=>none
 | n+1,rd,nt,dep,items,st=>
  match items with
  | []=>(match rd with
   | none=>some st
   | some _=>wY rd st 0)
  | .beginRound :: k=>(match rd with
   | none=>none
   | some r=>match zb st.hp r with
    | some (0,inf)=>bR E n rd nt dep k { st with hp:=st.hp.put r (some (kE 1 inf))}
    | _=>none)
  | .code c :: k=>
   (match c with
   | .skip | .label _=>bR E n rd nt dep k st
   | .ret=>wY rd st 2
   | .seq a b=>bR E n rd nt dep (.code a :: .code b :: k) st
   | .cond c a b=>
    (match (aO st.tm c).bind Ed with
    | some true=>bR E n rd nt dep (.code a :: k) st
    | some false=>bR E n rd nt dep (.code b :: k) st
    | none=>none)
   | .block id b=>bR E n rd nt dep (.code b :: .inBlock id :: k) st
   | .scope b=>bR E n rd nt dep (.code b :: .inScope b :: k) st
   | .loop b=>bR E n rd nt dep (.code b :: .inLoop b :: k) st
   | .exit id=>(match exitTo id k with
    | some k'=>bR E n rd nt dep k' st
    | none=>if rd.isSome then wY rd st (id+3) else none)
   | .region _ ops draw=>(match nu E (bG E (bR E n)) (fg E (bR E n) dep) nt dep draw ops ops.toList st with
    | some d=>if draw && !tj E ops d then none else bR E n rd nt dep k d
    | none=>none)
   | .rangeFunc g ps assign body=>(match rd,aO st.tm g with
    | none,some (.fn (.func gi) first captured)=>
     (match fg E (bR E n) dep (.fn gi) (first++[.yld ⟨dep,nt,st.hp.gen dep nt,0⟩]++captured)
      ((⟨dep,nt,st.hp.gen dep nt,0⟩,some (kE 0 (.lp 0 nt ps.toList assign body st.tm))) :: st.hp) with
     | some (_,H')=>(match zb H' ⟨dep,nt,st.hp.gen dep nt,0⟩ with
      | some (0,_)=>bR E n rd nt dep k ⟨st.tm,H'.put ⟨dep,nt,st.hp.gen dep nt,0⟩ none⟩
      | some (2,_)=>some ⟨st.tm,H'.put ⟨dep,nt,st.hp.gen dep nt,0⟩ none⟩
      | some (id+3,_)=>(match exitTo id k with
       | some k'=>bR E n rd nt dep k' ⟨st.tm,H'.put ⟨dep,nt,st.hp.gen dep nt,0⟩ none⟩
       | none=>none)
      | _=>none)
     | none=>none)
    | _,_=>none)
   | _=>none)
  | .inLoop b :: k=>bR E n rd nt dep (.code b :: .inLoop b :: k) st
  | .inBlock _ :: k | .inScope _ :: k=>bR E n rd nt dep k st
  | _=>none
def eI(o:Oper):List Nat:=(o.after.toList.filter (Region.binds .any)).map (·.on)
def BW(a:List Nat):List Nat->Nat
 | []=>0
 | j :: b=>(2 ^ j ||| a.getD j 0) ||| BW a b
def dp:List Oper->List Nat->List Nat
 | [],acc=>acc
 | o :: os,acc=>dp os (acc++[BW acc (eI o)])
def OT(c:Call):Bool:=match c.args.toList with
 | [.tmp _]=>true
 | _=>false
def ke:Op->Bool
 | .move _ | .assign _ | .pick .. | .binOp .. | .unOp .. | .makeInterface .. | .makeFunc .. | .fieldAddr .. | .field .. | .index .. | .typeAssert .. | .extract .. | .nilCheck _ | .build .. => false
 | .call c=>match c.callee with
  | .builtin .len=>OT c
  | .builtin .min | .builtin .max=>false
  | _=>true
 | _=>true
def Mj:Op->Bool
 | .call c=>(match c.callee with
  | .builtin .len=>true
  | _=>false)
 | _=>false
def xa(E:Env)(o:Oper):Bool:=ke o.op && !(E.strict o&&Mj o.op)
def iY(ops:Array Oper)(i:Nat):Option Tmp:=(ops[i]?).bind (·.dst)
def lk(E:Env)(ops:Array Oper)(i:Nat):Bool:=(List.range (i+1)).any λj=>match ops[j]? with
 | some o=>jo E o
 | none=>false
def yh(ops:Array Oper)(A:List Nat)(oi a:Oper)(i j:Nat):Bool:=
 (a.dst.isNone||oi.dst != a.dst) &&
 (match a.dst with | some d => !(oi.looksAt ops).contains d||(A.getD i 0).testBit j | none=>true) &&
 (match oi.dst with | some d => !(a.looksAt ops).contains d||(A.getD i 0).testBit j | none=>true)
def OE(E:Env)(ops:Array Oper)(A:List Nat)(oi a:Oper)(i j:Nat):Bool:=
 yh ops A oi a i j &&
 (!(xa E oi&&xa E a&&lk E ops i)||(A.getD i 0).testBit j)
def CD(E:Env)(ops:Array Oper):Bool:=
 (List.range ops.size).all λi=>match ops[i]? with
  | some oi=>(eI oi).all (· < i)&&(!xa E oi||jo E oi||oi.dst.isSome) &&
   (List.range i).all λj=>match ops[j]? with
    | some a=>OE E ops (dp ops.toList []) oi a i j
    | none=>true
  | none=>true
def BA(P:Program):Op->Option Tmp
 | .load _ (.tmp t)=>some t
 | .indexAddr _ (.tmp t) _=>some t
 | .slice _ (.tmp t) _ _ _=>some t
 | .convert _ dst (.tmp t)=>if fF P dst then none else some t
 | .lookup _ (.tmp t) _ _=>some t
 | .call c=>match c.callee with
  | .builtin .len=>(match c.args.toList with
   | [.tmp t]=>some t
   | _=>none)
  | _=>none
 | _=>none
def storeT:Op->Option Tmp
 | .store _ (.tmp t) _=>some t
 | _=>none
def Ho:Op->Option Tmp
 | .call c=>match c.callee with
  | .builtin .append=>(match c.args.toList with
   | .tmp t :: _=>some t
   | _=>none)
  | _=>none
 | _=>none
def RE:Op->Option Tmp
 | .mapUpdate _ (.tmp t) _ _=>some t
 | .insert _ (.tmp t) _ _=>some t
 | .mapEntry _ (.tmp t) _=>some t
 | .entryStore _ (.tmp t) _ _=>some t
 | _=>none
def Gi(o:Op):Option Tmp:=match RE o with
 | some t=>some t
 | none=>Ho o
def p7(E:Env)(o:Oper):Bool:=E.kH o && !E.strict o&&(match o.op with
 | .call c=>(match c.callee with
  | .value (.func g)=>E.mode g == 2
  | _=>false)
 | _=>false)
def cls(E:Env)(o:Oper):Nat:=
 if xa E o then (if (storeT o.op).isSome then 2 else if (BA E.P o.op).isSome then 1 else if jo E o then 4 else 3) else 0
def mI(E:Env)(o:Oper):Option Tmp:=match storeT o.op with
 | some t=>some t
 | none=>match BA E.P o.op with
  | some t=>some t
  | none=>if Bi o.op then YZ o.op else Gi o.op
def settled(E:Env)(ops:Array Oper)(oi c:Oper):Bool:=match mI E oi,mI E c with
 | some a,some b=>(rM E ops).contains (a,b)||(rM E ops).contains (b,a)
 | _,_=>false
def blind(E:Env)(o:Oper):Bool:=cls E o == 3&&(match o.op with
 | .alloc _ | .makeMap _ none=>true
 | .call c=>c.args.toList.isEmpty&&(match c.callee with
  | .value (.func _)=>true
  | _=>false)
 | _=>false)
def O2(E:Env)(o:Oper):Bool:=cls E o == 3&&(match o.op with
 | .alloc _ | .makeMap _ none=>true
 | _=>false)
def oK(E:Env)(oi a:Oper):Bool:=O2 E oi&&((Ho a.op).isSome&&a.dst.isSome)
def qu(E:Env)(oi a:Oper):Bool:=(cls E oi == 2&&Nat.ble 3 (cls E a) && !blind E a)||(cls E a == 2&&Nat.ble 3 (cls E oi) && !blind E oi)||(Nat.ble 3 (cls E oi)&&Nat.ble 3 (cls E a)&&(cls E oi == 4||cls E a == 4) && !oK E oi a && !oK E a oi)
def CS(b a:Nat):Bool:=(b == 2&&(a == 1||a == 2))||(a == 2&&b == 1)||(b == 1&&a == 4)||(b == 4&&a == 1)
def OR(E:Env)(ops:Array Oper)(A:List Nat)(oi a:Oper)(i j:Nat):Bool:=
 yh ops A oi a i j &&
 (!qu E oi a||(A.getD i 0).testBit j) &&
 (!CS (cls E oi) (cls E a)||p7 E oi||p7 E a||(A.getD i 0).testBit j||settled E ops oi a)
def N5(ops:Array Oper)(i:Nat)(t:Option Tmp):Bool:=match t with
 | some t=>(List.range ops.size).all λk=>iY ops k != some t||decide (k<i)
 | none=>false
def PZ(E:Env)(ops:Array Oper)(i:Nat)(o:Oper):Bool:=match cls E o with
 | 0=>true
 | 3=>o.dst.isSome
 | _=>p7 E o||N5 ops i (mI E o)
def UE(E:Env)(ops:Array Oper):Bool := !(rM E ops).isEmpty &&
 (List.range ops.size).all λi=>match ops[i]? with
  | some oi=>(eI oi).all (· < i)&&PZ E ops i oi &&
   (List.range i).all λj=>match ops[j]? with
    | some a=>OR E ops (dp ops.toList []) oi a i j
    | none=>true
  | none=>true
def D7(E:Env)(ops:Array Oper):Bool:=CD E ops||UE E ops
theorem oe{α:Type}{P:Program}{s:Sem α} : ∀ {a:α},bn P s=some a ->∀w,s.run P w = .ok a w:=by
 induction s with
 | pure a=>intro b h w;simp[bn]at h;subst h;rfl
 | program k c=>intro a h w;exact c P h w
 | mark m k c=>intro a h w;exact c h w
 | _=>intro a h;simp[bn]at h
theorem jT{α g:Type}{f:α->Option g} : ∀ {l:List α} {c:List g},l.mapM f=some c->c.length=l.length:=by
 intro l
 induction l with
 | nil=>intro c h;simp at h;subst h;rfl
 | cons a l i=>
  intro c h
  simp only[ny,tu,tZ,ig]at h
  obtain⟨b,_,j,d,e⟩:=h
  simp at e
  subst e
  simp[i d]
theorem rp{α e:Type}{f:α->Option e} : ∀ {l:List α} {d:List e},l.mapM f=some d ->∀(i:Nat)(y:e),d[i]?=some y ->∃x,l[i]?=some x/\f x=some y:=by
 intro l
 induction l with
 | nil=>intro d h i y c;simp at h;subst h;simp at c
 | cons a l k=>
  intro d h i y c
  simp only[ny,tu,tZ,ig]at h
  obtain⟨b,m,n,g,j⟩:=h
  simp at j
  subst j
  cases i with
  | zero=>simp at c;subst c;exact⟨a,rfl,m⟩
  | succ i=>simp at c;simpa using k g i y c
theorem lA{α d:Type}{f:α->Option d}{l:List α}{b:List d}(h:l.mapM f=some b)(i:Nat)(x:α)(e:l[i]?=some x) : ∃y,b[i]?=some y/\f x=some y:=by
 have j:=jT h
 have c:i<b.length:=by rw[j];exact(iN.1 e).1
 obtain⟨k,a,g⟩:=rp h i b[i] (fc c)
 rw[e]at a
 cases a
 exact⟨_,fc c,g⟩
abbrev Mem:=Nat->Nat->Option Value
structure Loc where
 b:Nat
 esz:Nat
 n:Nat
abbrev Map:=Ref->Option Loc
def ek:Map:=λ_=>none
inductive VR (M:Mem):Map->AV->Value->Prop
 | v {ι x} (h:scalar x=true):VR M ι (.v x) x
 | agg {ι cs vs} (hl:cs.length=vs.size) (h : ∀(i:Nat) c u,cs[i]?=some c->vs[i]?=some u->VR M ι c u):VR M ι (.agg cs) (.agg vs)
 | tup {ι cs vs} (h0:cs≠[]) (hl:cs.length=vs.size) (h : ∀(i:Nat) c u,cs[i]?=some c->vs[i]?=some u->VR M ι c u):VR M ι (.tup cs) (.tuple vs)
 | bW {ι esz es cap a c} (cell:Nat->Nat->Value) (hs:a.spot=none\/es=[]) (hc:es.length<=c) (hk : ∀k,cap=some k->c=k)
  (hm : ∀i j,i<es.length->j<esz->M a.block (a.off+(i * esz+j))=some (cell i j)/\(cell i j).oneCell'=true)
  (he : ∀e∈es,e.cells.length=esz)
  (h : ∀(i j:Nat) e x,es[i]?=some e->e.cells[j]?=some x->VR M ek x (cell i j)):VR M ι (.bW esz es cap) (.slice (some a) es.length c)
 | cL {ι r off len cap l a c} (hr:ι r=some l) (hb:a.block=l.b) (hs:a.spot=none) (ha:c=0\/a.off=off * l.esz) (hc:len<=c) (hn:c=0\/off+c<=l.n)
  (hk : ∀k,cap=some k->c=k) (hz:0<l.esz):VR M ι (.cL r off len cap) (.slice (some a) len c)
 | ptr {ι r i j l} (hr:ι r=some l) (hz:0<l.esz):VR M ι (.ptr r i j) (.pointer (some ⟨l.b,i * l.esz+j,none⟩))
 | iptr {ι esz es i j b o} (cell:Nat->Nat->Value)
  (hm : ∀i j,i<es.length->j<esz->M b (o+(i * esz+j))=some (cell i j)/\(cell i j).oneCell'=true)
  (he : ∀e∈es,e.cells.length=esz)
  (h : ∀(i j:Nat) e x,es[i]?=some e->e.cells[j]?=some x->VR M ek x (cell i j)):VR M ι (.iptr esz es i j) (.pointer (some ⟨b,o+(i * esz+j),none⟩))
 | fn {ι f a b a' b'} (ha:a.length=a'.size) (hb:b.length=b'.size) (h : ∀(i:Nat) c u,a[i]?=some c->a'[i]?=some u->VR M ι c u)
  (h' : ∀(i:Nat) c u,b[i]?=some c->b'[i]?=some u->VR M ι c u):VR M ι (.fn f a b) (.func f a' b')
 | ifc {ι t x u} (h:VR M ι x u):VR M ι (.ifc t x) (.iface t u)
 | yld {ι r l} (hr:ι r=some l) (hz:l.esz=0):VR M ι (.yld r) (.func (.yield l.b) #[] #[])
 | mp {ι r l} (hr:ι r=some l) (hz:l.esz=0):VR M ι (.mp r) (.map (some l.b))
 | ch {ι r l} (hr:ι r=some l) (hz:l.esz=0):VR M ι (.ch r) (.chan (some l.b))
theorem VR.mono{M M':Mem}(D : ∀b o x,M b o=some x->M' b o=some x){ι:Map}{x:AV}{u:Value}(h:VR M ι x u) :
 ∀a:Map,(∀r l,ι r=some l->a r=some l)->VR M' a x u:=by
 induction h with
 | v h=>intro a _;exact .v h
 | agg A _ g=>intro a d;exact .agg A λi c u f q=>g i c u f q a d
 | tup F A _ g=>intro a d;exact .tup F A λi c u f q=>g i c u f q a d
 | bW cell t f y hm he _ g=>
  intro a d
  exact .bW cell t f y (λi j k n=>⟨D _ _ _ (hm i j k n).1,(hm i j k n).2⟩) he λi j e x k n=>g i j e x k n ek (λ_ _ h=>h)
 | cL m w t z f E y p=>intro a d;exact .cL (d _ _ m) w t z f E y p
 | ptr m p=>intro a d;exact .ptr (d _ _ m) p
 | yld m p=>intro a d;exact .yld (d _ _ m) p
 | mp m p=>intro a d;exact .mp (d _ _ m) p
 | ch m p=>intro a d;exact .ch (d _ _ m) p
 | iptr cell hm he _ g=>
  intro a d
  exact .iptr cell (λi j k n=>⟨D _ _ _ (hm i j k n).1,(hm i j k n).2⟩) he λi j e x k n=>g i j e x k n ek (λ_ _ h=>h)
 | fn z w _ _ g C=>intro a d;exact .fn z w (λi c u f q=>g i c u f q a d) λi c u f q=>C i c u f q a d
 | ifc _ g=>intro a d;exact .ifc (g a d)
theorem VR.up{M:Mem}{x:AV}{u:Value}(h:VR M ek x u)(ι:Map):VR M ι x u:=h.mono (λ_ _ _ h=>h) ι (λ_ _ h=>by cases h)
def mc(M:Mem)(ι:Map)(xs:List AV)(us:List Value):Prop:=xs.length=us.length /\∀(i:Nat) x u,xs[i]?=some x->us[i]?=some u->VR M ι x u
theorem mc.nil{M:Mem}{ι:Map}:mc M ι [] []:=⟨rfl,λi x u h=>by simp at h⟩
theorem mc.cons{M:Mem}{ι:Map}{x:AV}{u:Value}{xs:List AV}{us:List Value}(h:VR M ι x u)(c:mc M ι xs us):mc M ι (x :: xs) (u :: us):=
 ⟨by simp[c.1],λi y v a b=>by
  cases i with
  | zero=>simp at a b;subst a;subst b;exact h
  | succ i=>simp at a b;exact c.2 i y v a b⟩
theorem mc.append{M:Mem}{ι:Map}{xs ys:List AV}{us e:List Value}(h:mc M ι xs us)(d:mc M ι ys e):mc M ι (xs++ys) (us++e):=
 ⟨by simp[h.1,d.1],λi y v c b=>by
  rcases fm i xs.length with a | a
  ·rw[nS a]at c
   rw[nS (h.1 ▸ a)]at b
   exact h.2 i y v c b
  ·rw[pf a]at c
   rw[pf (h.1 ▸ a)]at b
   rw[<-h.1]at b
   exact d.2 _ y v c b⟩
theorem mc.mono{M M':Mem}{ι a:Map}{xs:List AV}{us:List Value}(h:mc M ι xs us)(e : ∀b o x,M b o=some x->M' b o=some x)(c : ∀r l,ι r=some l->a r=some l):mc M' a xs us:=
 ⟨h.1,λi x u f d=>(h.2 i x u f d).mono e a c⟩
theorem mc.take{M:Mem}{ι:Map}{xs:List AV}{us:List Value}(h:mc M ι xs us)(n:Nat):mc M ι (xs.take n) (us.take n):=
 ⟨by simp[h.1],λi x u a c=>by
  rw[Bn]at a c
  split at a
  ·rename_i b;rw[if_pos b]at c;exact h.2 i x u a c
  ·cases a⟩
theorem mc.drop{M:Mem}{ι:Map}{xs:List AV}{us:List Value}(h:mc M ι xs us)(n:Nat):mc M ι (xs.drop n) (us.drop n):=
 ⟨by simp[h.1],λi x u b a=>by
  rw[Ft]at b a
  exact h.2 _ x u b a⟩
theorem VR.rO{M:Mem}{ι:Map}{cs:List AV}{b:Array Value}:VR M ι (.agg cs) (.agg b)↔mc M ι cs b.toList:=
 ⟨λh=>by cases h with | agg f h=>exact⟨by simpa using f,λi x u e a=>h i x u e (by simpa using a)⟩,
  λh => .agg (by simpa using h.1) λi c u d a=>h.2 i c u d (by simpa using a)⟩
theorem VR.cells{M:Mem}{ι:Map}{x:AV}{u:Value}(h:VR M ι x u):mc M ι x.cells u.cells.toList:=by
 have one : ∀ {x:AV} {u:Value},VR M ι x u->x.cells=[x]->u.cells = #[u]->mc M ι x.cells u.cells.toList:=by
  intro x u h k c
  rw[k,c]
  exact mc.cons h mc.nil
 cases h with
 | agg l h=>exact⟨by simpa [AV.cells,Value.cells] using l,λi x u k c=>h i x u (by simpa [AV.cells] using k) (by simpa [Value.cells] using c)⟩
 | v h=>
  refine one (.v h) rfl ?_
  cases u<;>first | rfl | (simp[scalar]at h)
 | tup o l h=>exact one (.tup o l h) rfl rfl
 | bW cell d e g hm he h=>exact one (.bW cell d e g hm he h) rfl rfl
 | cL a f d j e m g b=>exact one (.cL a f d j e m g b) rfl rfl
 | ptr a b=>exact one (.ptr a b) rfl rfl
 | yld a b=>exact one (.yld a b) rfl rfl
 | mp a b=>exact one (.mp a b) rfl rfl
 | ch a b=>exact one (.ch a b) rfl rfl
 | iptr cell hm he h=>exact one (.iptr cell hm he h) rfl rfl
 | fn j f h n=>exact one (.fn j f h n) rfl rfl
 | ifc h=>exact one (.ifc h) rfl rfl
theorem VR.one{M:Mem}{ι:Map}{x:AV}{u:Value}(h:VR M ι x u)(a:x.one=true):u.oneCell'=true:=by
 cases h with
 | v h=>cases u<;>first | rfl | (simp[AV.one]at a)
 | agg b h=>simp[AV.one]at a
 | tup c b h=>simp[AV.one]at a
 | bW=>rfl
 | cL=>rfl
 | ptr=>rfl
 | iptr=>rfl
 | fn=>rfl
 | ifc=>rfl
 | yld=>rfl
 | mp=>rfl
 | ch=>rfl
theorem og{M:Mem}{ι:Map}{u:Value}{x:AV}(h:jR u=some x):VR M ι x u:=by
 unfold jR at h
 split at h
 ·cases h;exact .v (by assumption)
 ·cases h
theorem CO{M:Mem}{ι:Map}{us:List Value}{xs:List AV}(h:us.mapM jR=some xs):mc M ι xs us:=
 ⟨jT h,λi x u d c=>by
  obtain⟨e,a,b⟩:=rp h i x d
  rw[c]at a;cases a
  exact og b⟩
theorem jN{M:Mem}{ι:Map}{u:Value}{x:AV}(h:ofValue u=some x):VR M ι x u:=by
 cases u with
 | agg cs=>
  simp only[ofValue,bO]at h
  obtain⟨xs,d,rfl⟩:=h
  exact VR.rO.2 (CO d)
 | func f a b=>
  simp only[ofValue]at h
  split at h
  ·rename_i g
   cases h
   simp at g
   obtain⟨rfl,rfl⟩:=g
   exact .fn rfl rfl (λi c u j=>by simp at j) (λi c u j=>by simp at j)
  ·cases h
 | tuple o=>
  simp only[ofValue]at h
  split at h
  ·rename_i k
   simp at k
   subst k
   cases h
   exact .v rfl
  ·rename_i k
   simp only[bO]at h
   obtain⟨xs,d,rfl⟩:=h
   have l:=CO (M:=M) (ι:=ι) d
   refine .tup ?_ (by simpa using l.1) λi c u j m=>l.2 i c u j (by simpa using m)
   intro e
   subst e
   have:=l.1
   simp at this
   exact k (by simpa using KO this.symm)
 | iface t x=>
  simp only[ofValue,bO]at h
  obtain⟨y,n,rfl⟩:=h
  exact .ifc (og n)
 | _=>exact og (by simpa [ofValue] using h)
theorem N1{M:Mem}{ι:Map}{x:AV}{u v:Value}(h:VR M ι x u)(a:Iv x=some v):u=v:=by
 cases h<;>simp[Iv]at a
 exact a
theorem u5{M:Mem}{ι:Map}{x:AV}{u v:Value}(h:VR M ι x u)(f:gJ x=some v):u=v:=by
 cases h<;>simp[gJ]at f
 ·exact f
 ·rename_i cs g n j
  obtain⟨l,a,rfl⟩:=f
  congr 1
  apply Er
  intro i
  rcases fm i g.size with e | e
  ·have b:=jT a
   have d:i<l.length:=by omega
   obtain⟨c,k,m⟩:=rp a i l[i] (fc d)
   have:=N1 (j i c g[i] k (jY e)) m
   simp[this,jY e,fc d]
  ·have b:=jT a
   rw[Array.getElem?_eq_none e]
   simp
   omega
def bz.map(k:bz)(ι:Map):Map:=if k.arr then ek else ι
def Dl(z a:Nat)(fz:Nat × Nat):Prop:=(∀o,o<a ->¬(fz.1<=o/\(o<fz.2\/fz.2<fz.1)))/\(1<z ->¬(fz.1<=a/\a<fz.2))
theorem Dl.zero(z n:Nat):Dl z n (0,0):=⟨λo _ h=>by simp at h,λ_ h=>by simp at h⟩
structure fY (M:Mem) (ι:Map) (w:World) (l:Loc) (k:bz):Prop where
 esz:l.esz=k.esz
 heap : ∃arr T fz,w.heap[l.b]?=some (.cells arr T fz)/\arr.size=l.n * k.esz/\Dl k.esz arr.size fz /\
  ∀(i j:Nat) e x,k.es[i]?=some e->e.cells[j]?=some x ->∃u,arr[i * k.esz+j]?=some u/\u.oneCell'=true/\VR M (k.map ι) x u
 len:k.es.length<=l.n
 cells : ∀e∈k.es,e.cells.length=k.esz
 frozen : ∀o x,M l.b o=some x->k.kH=true/\o<k.es.length * k.esz
def Cw(n:Nat)(r:Loop):Prop:=match n with
 | 0=>r.state = .ready/\r.pending=none
 | 1=>r.state = .busy
 | 2=>r.state = .done/\r.pending=some .ret
 | id+3=>r.state = .done/\r.pending=some (.exit id)
def Hv(M:Mem)(ι:Map)(w:World)(l:Loc)(k:bz):Prop:=
 ∃(n nt:Nat) (ps:List Tmp) (assign body:Code) (tm:List AV) (r:Loop),k.esz=0/\k.arr=false/\k.es=[.v (.int .i64 n),.lp 0 nt ps assign body tm]/\w.heap[l.b]?=some (.loop r)/\r.params=ps.toArray/\r.assign=assign/\r.body=body /\
  r.tmps.size=nt/\(∀t,VR M ι (dH tm t) (r.tmps.getD t undef))/\Cw n r
def Nn(M:Mem)(ι:Map)(w:World)(l:Loc)(k:bz):Prop:=
 ∃(ents:List AV) (a:Array MapEntry),k.esz=0/\k.arr=false/\k.es = .v (.bool true) :: ents/\w.heap[l.b]?=some (.map a a.size)/\a.size=ents.length /\
  ∀(i:Nat) ent e,ents[i]?=some ent->a[i]?=some e ->∃c d,ent = .tup [c,d]/\gJ c=some e.key/\VR M ι d e.val/\e.born=i
def Hy(M:Mem)(ι:Map)(w:World)(l:Loc)(k:bz):Prop:=
 ∃(cap s r:Nat) (c:Bool) (a:List AV) (arr:Array Value),k.esz=0/\k.arr=false/\k.es = .v (.bool false) :: .v (.int .i64 cap) :: .v (.bool c) :: a/\w.heap[l.b]?=some (.chan cap arr c s r false) /\
  arr.size=a.length /\∀(i:Nat) x u,a[i]?=some x->arr[i]?=some u->VR M ι x u
def nM(M:Mem)(ι:Map)(w:World)(l:Loc)(k:bz):Prop:=Hv M ι w l k\/Nn M ι w l k\/Hy M ι w l k
structure o6 (M:Mem) (ι:Map) (w:World) (l:Loc) (k:bz):Prop where
 esz:l.esz=k.esz
 cellsOk:0<k.esz->fY M ι w l k
 objOk:k.esz=0->nM M ι w l k
 frozen : ∀o x,M l.b o=some x->k.kH=true/\o<k.es.length * k.esz
theorem fY.Vo{M:Mem}{ι:Map}{w:World}{l:Loc}{k:bz}(h:fY M ι w l k)(a:0<k.esz):o6 M ι w l k:=⟨h.esz,λ_=>h,λe=>by omega,h.frozen⟩
theorem nM.zero{M:Mem}{ι:Map}{w:World}{l:Loc}{k:bz}(h:nM M ι w l k):k.esz=0/\k.arr=false:=by
 rcases h with ⟨n,nt,ps,as,c,tm,r,a,b,_⟩ | ⟨ents,entries,a,b,_⟩ | ⟨_,_,_,_,_,_,a,b,_⟩
 ·exact⟨a,b⟩
 ·exact⟨a,b⟩
 ·exact⟨a,b⟩
theorem nM.obj{M:Mem}{ι:Map}{w:World}{l:Loc}{k:bz}(h:nM M ι w l k):(∃r,w.heap[l.b]?=some (.loop r))\/(∃es c,w.heap[l.b]?=some (.map es c)) \/∃a b c d e f,w.heap[l.b]?=some (.chan a b c d e f):=by
 rcases h with ⟨n,nt,ps,as,g,tm,r,_,_,_,h,_⟩ | ⟨ents,entries,_,_,_,h,_⟩ | ⟨_,_,_,_,_,_,_,_,_,h,_⟩
 ·exact .inl ⟨_,h⟩
 ·exact .inr (.inl ⟨_,_,h⟩)
 ·exact .inr (.inr ⟨_,_,_,_,_,_,h⟩)
theorem nM.same{M:Mem}{ι:Map}{w:World}{l:Loc}{k k':bz}(h:nM M ι w l k)(f:k'.esz=k.esz)(i:k'.arr=k.arr)(g:k'.es=k.es):nM M ι w l k':=by
 rcases h with ⟨n,nt,ps,as,j,tm,r,d,e,b,a⟩ | ⟨ents,entries,d,e,b,a⟩ | ⟨c,s,r,m,buf,arr,d,e,b,a⟩
 ·exact .inl ⟨n,nt,ps,as,j,tm,r,f.trans d,i.trans e,g.trans b,a⟩
 ·exact .inr (.inl ⟨ents,entries,f.trans d,i.trans e,g.trans b,a⟩)
 ·exact .inr (.inr ⟨c,s,r,m,buf,arr,f.trans d,i.trans e,g.trans b,a⟩)
theorem nM.Vo{M:Mem}{ι:Map}{w:World}{l:Loc}{k:bz}(h:nM M ι w l k)(d:l.esz=0)(a : ∀o x,M l.b o=some x->False):o6 M ι w l k:=
 ⟨by rw[d,h.zero.1],λe=>by have:=h.zero.1;omega,λ_=>h,λo x c=>(a o x c).elim⟩
theorem o6.pos{M:Mem}{ι:Map}{w:World}{l:Loc}{k:bz}(h:o6 M ι w l k)(a:k.arr=true):0<k.esz:=by
 rcases Iq k.esz with e | e
 ·have:=(h.objOk e).zero.2;rw[a]at this;cases this
 ·exact e
structure ic (M:Mem) (ι:Map) (g:da) (w:World):Prop where
 mem : ∀b o x,M b o=some x->w.cell? ⟨b,o,none⟩=some x
 live : ∀r k,g r=some k ->∃l,ι r=some l/\o6 M ι w l k
 inj : ∀r r' k k' l l',g r=some k->g r'=some k'->ι r=some l->ι r'=some l'->l.b=l'.b->r=r'
theorem ic.at{M:Mem}{ι:Map}{g:da}{w:World}(d:ic M ι g w){r:Ref}{b:bz}{l:Loc}(f:ι r=some l)(h:0<l.esz)(e:g r=some b):fY M ι w l b:=by
 obtain⟨i,a,c⟩:=d.live r b e
 rw[f]at a;cases a
 exact c.cellsOk (by have:=c.esz;omega)
theorem nM.mono{M M':Mem}{ι d:Map}{w w':World}{l:Loc}{k:bz}(h:nM M ι w l k)(A : ∀b o x,M b o=some x->M' b o=some x)(f : ∀r l,ι r=some l->d r=some l)(y:w'.heap[l.b]?=w.heap[l.b]?):nM M' d w' l k:=by
 rcases h with ⟨n,nt,ps,as,D,tm,r,q,C,j,v,m,p,g,I,H,G⟩ | ⟨ents,entries,q,j,v,m,p,g⟩ | ⟨c,s,r,E,buf,arr,q,j,v,m,p,g⟩
 ·exact .inl ⟨n,nt,ps,as,D,tm,r,q,C,j,by rw[y];exact v,m,p,g,I,λt=>(H t).mono A d f,G⟩
 ·exact .inr (.inl ⟨ents,entries,q,j,v,by rw[y];exact m,p,λi z e a b=>by obtain⟨J,F,c1,c2,c3⟩:=g i z e a b;exact⟨J,F,c1,c2,c3.1.mono A d f,c3.2⟩⟩)
 ·exact .inr (.inr ⟨c,s,r,E,buf,arr,q,j,v,by rw[y];exact m,p,λi x u a b=>(g i x u a b).mono A d f⟩)
structure uh (M:Mem) (ι:Map) (g:da) (w:World) (M':Mem) (ι':Map) (g':da) (w':World):Prop where
 os:w'.os=w.os
 tape:w'.tape=w.tape
 output:w'.output=w.output
 size:w.heap.size<=w'.heap.size
 chg : ∀b,b<w.heap.size->(∀r k l,g r=some k->ι r=some l->l.b≠b)->w'.heap[b]?=w.heap[b]?
 mem : ∀b o x,M b o=some x->M' b o=some x
 map : ∀r l,ι r=some l->ι' r=some l
 live : ∀r k l,g' r=some k->ι' r=some l->w.heap.size<=l.b \/∃r0 k0 l0,g r0=some k0/\ι r0=some l0/\l0.b=l.b
 new : ∀b o x,M' b o=some x->M b o=some x\/w.heap.size<=b \/∃r0 k0 l0,g r0=some k0/\ι r0=some l0/\l0.b=b
theorem uh.refl{M:Mem}{ι:Map}{g:da}{w:World}:uh M ι g w M ι g w:=
 ⟨rfl,rfl,rfl,dc _,λ_ _ _=>rfl,λ_ _ _ h=>h,λ_ _ h=>h,λr k l h a => .inr ⟨r,k,l,h,a,rfl⟩,λ_ _ _ h => .inl h⟩
theorem uh.trans{M ι g w M' ι' g' w' M'' ι'' g'' w''}(h:uh M ι g w M' ι' g' w')(c:uh M' ι' g' w' M'' ι'' g'' w''):uh M ι g w M'' ι'' g'' w'':=by
 have f : ∀b,b<w.heap.size->(∀r k l,g r=some k->ι r=some l->l.b≠b) ->∀r k l,g' r=some k->ι' r=some l->l.b≠b:=by
  intro b t d r k l y q e
  rcases h.live r k l y q with a | ⟨m,k0,n,a,p,i⟩
  ·omega
  ·exact d m k0 n a p (i.trans e)
 refine⟨c.os.trans h.os,c.tape.trans h.tape,c.output.trans h.output,Bk h.size c.size,?_,λb o x A=>c.mem b o x (h.mem b o x A),
  λr l q=>c.map r l (h.map r l q),?_,?_⟩
 ·intro b t d
  rw[c.chg b (Ep t h.size) (f b t d),h.chg b t d]
 ·intro r k l y q
  rcases c.live r k l y q with a | ⟨m,k0,n,a,p,i⟩
  ·exact .inl (Bk h.size a)
  ·rcases h.live m k0 n a p with j | ⟨r1,k1,v,j,u,z⟩
   ·exact .inl (i ▸ j)
   ·exact .inr ⟨r1,k1,v,j,u,z.trans i⟩
 ·intro b o x A
  rcases c.new b o x A with a | a | ⟨m,k0,n,a,p,i⟩
  ·exact h.new b o x a
  ·exact .inr (.inl (Bk h.size a))
  ·rcases h.live m k0 n a p with j | ⟨r1,k1,v,j,u,z⟩
   ·exact .inr (.inl (i ▸ j))
   ·exact .inr (.inr ⟨r1,k1,v,j,u,z.trans i⟩)
theorem lF{w:World}{b o:Nat}{arr:Array Value}{T:TypeId}{fz:Nat × Nat}(h:w.heap[b]?=some (.cells arr T fz)):w.cell? ⟨b,o,none⟩=arr[o]?:=by
 simp[World.cell?,h]
theorem iL(b o n:Nat):(⟨b,o,none⟩:Addr).add n=⟨b,o+n,none⟩:=by
 unfold Addr.add;split<;>simp_all
theorem lG{a:Addr}(h:a.spot=none):a=⟨a.block,a.off,none⟩:=by cases a;simp_all
theorem yP{P:Program}{t:TypeId}{n:Nat}(h:aL P t=some n) : ∃i,P.info? t=some i/\i.size=n:=by
 simpa [aL] using h
theorem run_sizeOf{P:Program}{t:TypeId}{n:Nat}(h:aL P t=some n)(w:World):(sizeOf t).run P w = .ok n w:=by
 obtain⟨i,a,rfl⟩:=yP h
 simp[sizeOf,typeInfo,a]
theorem bB{P:Program}{t:TypeId}{d:TypeDesc}(h:P.underlying t=some d)(w:World):(underlying t).run P w = .ok d w:=by
 simp[underlying,h]
theorem A1{P:Program}{t:TypeId}{b:Bool}(h:dI P t=some b)(w:World):(isAgg t).run P w = .ok b w:=by
 simp only[dI,bO]at h
 obtain⟨d,a,rfl⟩:=h
 simp only[isAgg,Sem.run_bind,bB a,Result.andThen_ok]
 cases d<;>rfl
theorem xL{P:Program}{t:TypeId}{z:AV}(h:ff P t=some z)(w:World) : ∃u,(zeroValue t).run P w = .ok u w/\ofValue u=some z:=by
 simp only[ff,ig]at h
 obtain⟨u,⟨i,a,b⟩,hu⟩:=h
 exact⟨u,by simp[zeroValue,typeInfo,a,b],hu⟩
def Cells(M:Mem)(ι:Map)(w:World)(b o:Nat)(xs:List AV):Prop:=
 ∀(j:Nat) x,xs[j]?=some x ->∃u,w.cell? ⟨b,o+j,none⟩=some u/\u.oneCell'=true/\VR M ι x u
theorem Cells.values{M ι w b o}{xs:List AV}(h:Cells M ι w b o xs) : ∃us:List Value,mc M ι xs us/\(∀u∈us,u.oneCell'=true) /\∀(j:Nat) u,us[j]?=some u->w.cell? ⟨b,o+j,none⟩=some u:=by
 induction xs generalizing o with
 | nil=>exact⟨[],mc.nil,by simp,by simp⟩
 | cons x xs c=>
  obtain⟨u,hu,e,k⟩:=h 0 x rfl
  obtain⟨us,g,f,i⟩:=c (o:=o+1) λj y d=>by
   have:=h (j+1) y (by simpa using d)
   rwa [show o+(j+1)=o+1+j by omega]at this
  refine⟨u :: us,mc.cons k g,by simpa [e] using f,?_⟩
  intro j v a
  cases j with
  | zero=>simp at a;subst a;exact hu
  | succ j=>
   simp at a
   have:=i j v a
   rwa [show o+(j+1)=o+1+j by omega]
theorem Cells.sub{M ι w b o}{xs:List AV}(h:Cells M ι w b o xs)(j n:Nat):Cells M ι w b (o+j) ((xs.drop j).take n):=by
 intro i x a
 rw[Bn]at a
 split at a
 ·rw[Ft]at a
  obtain⟨u,d,c⟩:=h _ x a
  exact⟨u,by rwa [show o+j+i=o+(j+i) by omega],c⟩
 ·cases a
theorem vZ{P:Program}{t:TypeId}{f:Bool}{n:Nat}(g:dI P t=some f)(l:aL P t=some n){M ι w b o}{cs:List AV}{j:Nat}{y:AV}
 (h:Cells M ι w b o cs)
 (e:(if f then (if j+n<=cs.length/\0<n then some (AV.agg ((cs.drop j).take n)) else none) else cs[j]?)=some y) :
 ∃u,(loadVar t ⟨b,o+j,none⟩).run P w = .ok u w/\VR M ι y u:=by
 cases f with
 | false=>
  simp at e
  obtain⟨u,hu,_,p⟩:=h j y e
  exact⟨u,by simp[loadVar,A1 g,hu],p⟩
 | true=>
  simp at e
  obtain⟨⟨q,x⟩,rfl⟩:=e
  obtain⟨us,c,_,a⟩:=(h.sub j n).values
  have d:us.length=n:=by rw[<-c.1];simp;omega
  refine⟨.agg us.toArray,?_,VR.rO.2 (by simpa using c)⟩
  have i:=run_loadCells_list (P:=P) w ⟨b,o+j,none⟩ us (λk v m=>by rw[iL];exact a k v m)
  rw[d]at i
  simp[loadVar,A1 g,run_sizeOf l,i]
theorem fY.cell{M ι w l k}(h:fY M ι w l k)(i:Nat){e:AV}(a:k.es[i]?=some e):Cells M (k.map ι) w l.b (i * k.esz) e.cells:=by
 obtain⟨arr,T,fz,c,_,_,d⟩:=h.heap
 intro j x m
 obtain⟨u,hu,f,g⟩:=d i j e x a m
 exact⟨u,by rw[lF c];exact hu,f,g⟩
theorem bz.map_le(k:bz)(ι:Map) : ∀r l,k.map ι r=some l->ι r=some l:=by
 intro r l h
 unfold bz.map at h
 split at h
 ·cases h
 ·exact h
theorem P1{P:Program}{t:TypeId}{f:Bool}{n:Nat}(l:dI P t=some f)(m:aL P t=some n){M ι g w}(x:ic M ι g w)
 {r:Ref} {i j:Nat} {k:bz} {y:AV} {a:Value} (p:VR M ι (.ptr r i j) a) (o:g r=some k) (b:bX k.es i j n f=some y) :
 ∃u,(Instr.loadAt t a).run P w = .ok u w/\VR M ι y u:=by
 cases p with | ptr q A=>
 have c:=x.at q A o
 unfold bX at b
 split at b
 ·cases b
 ·rename_i e v
  obtain⟨u,d,z⟩:=vZ l m (c.cell i v) b
  refine⟨u,?_,z.mono (λ_ _ _ h=>h) ι (k.map_le ι)⟩
  rw[<-c.esz]at d
  simp[Instr.loadAt,Instr.sureAddr,d]
theorem Cells.ZT{M:Mem}{w:World}(l : ∀b o x,M b o=some x->w.cell? ⟨b,o,none⟩=some x){esz b o i:Nat}{es:List AV}{cell:Nat->Nat->Value}
 (d : ∀i j,i<es.length->j<esz->M b (o+(i * esz+j))=some (cell i j)/\(cell i j).oneCell'=true)
 (k : ∀e∈es,e.cells.length=esz) (h : ∀(i j:Nat) e x,es[i]?=some e->e.cells[j]?=some x->VR M ek x (cell i j)) {e:AV} (c:es[i]?=some e):Cells M ek w b (o+i * esz) e.cells:=by
 intro j x g
 have f:j<esz:=by
  rw[<-k e (fL c)]
  exact(iN.1 g).1
 have a:i<es.length:=(iN.1 c).1
 refine⟨cell i j,?_,(d i j a f).2,h i j e x c g⟩
 rw[show o+i * esz+j=o+(i * esz+j) by omega]
 exact l _ _ _ (d i j a f).1
theorem UX{P:Program}{t:TypeId}{f:Bool}{n:Nat}(l:dI P t=some f)(m:aL P t=some n){M ι w}(k : ∀b o x,M b o=some x->w.cell? ⟨b,o,none⟩=some x)
 {esz i j:Nat} {es:List AV} {y:AV} {a:Value} (v:VR M ι (.iptr esz es i j) a) (c:bX es i j n f=some y) :
 ∃u,(Instr.loadAt t a).run P w = .ok u w/\VR M ι y u:=by
 cases v with | iptr cell p he h=>
 rename_i b o
 unfold bX at c
 split at c
 ·cases c
 ·rename_i e g
  obtain⟨u,d,q⟩:=vZ l m (Cells.ZT k p he h g) c
  refine⟨u,?_,q.up ι⟩
  rw[show o+i * esz+j=o+(i * esz+j) by omega]at d
  simp[Instr.loadAt,Instr.sureAddr,d]
structure Ei (w w':World) (o:Obj):Prop where
 os:w'.os=w.os
 tape:w'.tape=w.tape
 output:w'.output=w.output
 heap:w'.heap=w.heap.push o
theorem Ei.cell{w w':World}{o:Obj}(h:Ei w w' o){a:Addr}{x:Value}(b:w.cell? a=some x):w'.cell? a=some x:=by
 have c:=World.block_lt_of_cell? w a b
 unfold World.cell? at b ⊢
 rw[h.heap,Es c,<-jY c]
 exact b
theorem Ei.old{w w':World}{o:Obj}(h:Ei w w' o)(b:Nat)(a:b<w.heap.size):w'.heap[b]?=w.heap[b]?:=by
 rw[h.heap,Es a,<-jY a]
def kD(ι:Map)(q:Ref)(l:Loc):Map:=λr=>if r=q then some l else ι r
def lI(g:da)(q:Ref)(k:bz):da:=λr=>if r=q then some k else g r
theorem E7{ι:Map}{q:Ref}{l:Loc}(b:ι q=none) : ∀r a,ι r=some a->kD ι q l r=some a:=by
 intro r a h
 unfold kD
 split
 ·subst_vars;rw[b]at h;cases h
 ·exact h
theorem ic.W2{M ι g w}(h:ic M ι g w){q:Ref}(b:ι q=none):g q=none:=by
 cases c:g q with
 | none=>rfl
 | some k=>obtain⟨l,a,_⟩:=h.live q k c;rw[b]at a;cases a
theorem fY.lt{M ι w l k}(h:fY M ι w l k):l.b<w.heap.size:=by
 obtain⟨arr,T,fz,a,_⟩:=h.heap
 exact(iG.1 a).1
theorem nM.lt{M ι w l k}(h:nM M ι w l k):l.b<w.heap.size:=by
 rcases h.obj with ⟨_,a⟩ | ⟨_,_,a⟩ | ⟨_,_,_,_,_,_,a⟩
 ·exact(iG.1 a).1
 ·exact(iG.1 a).1
 ·exact(iG.1 a).1
theorem o6.lt{M ι w l k}(h:o6 M ι w l k):l.b<w.heap.size:=by
 rcases Iq k.esz with e | e
 ·exact(h.objOk e).lt
 ·exact(h.cellsOk e).lt
theorem o6.Vk{M ι w l k}(h:o6 M ι w l k){arr:Array Value}{T:TypeId}{fz:Nat × Nat}(c:w.heap[l.b]?=some (.cells arr T fz)):fY M ι w l k/\0<k.esz:=by
 rcases Iq k.esz with e | e
 ·rcases(h.objOk e).obj with ⟨_,a⟩ | ⟨_,_,a⟩ | ⟨_,_,_,_,_,_,a⟩
  ·rw[c]at a;cases a
  ·rw[c]at a;cases a
  ·rw[c]at a;cases a
 ·exact⟨h.cellsOk e,e⟩
theorem fY.cr{M ι w l k M' ι' w'}(h:fY M ι w l k)(m : ∀b o x,M b o=some x->M' b o=some x)(d : ∀r l,ι r=some l->ι' r=some l)
 (p:w'.heap[l.b]?=w.heap[l.b]?) (v : ∀o x,M' l.b o=some x->k.kH=true/\o<k.es.length * k.esz):fY M' ι' w' l k:=by
 obtain⟨arr,T,fz,n,q,y,t⟩:=h.heap
 refine⟨h.esz,⟨arr,T,fz,p ▸ n,q,y,?_⟩,h.len,h.cells,v⟩
 intro i j e x g z
 obtain⟨u,hu,f,C⟩:=t i j e x g z
 refine⟨u,hu,f,C.mono m _ ?_⟩
 intro r A a
 unfold bz.map at a ⊢
 split
 ·rename_i c;rw[if_pos c]at a;exact a
 ·rename_i c;rw[if_neg c]at a;exact d r A a
theorem o6.cr{M ι w l k M' ι' w'}(h:o6 M ι w l k)(f : ∀b o x,M b o=some x->M' b o=some x)(a : ∀r l,ι r=some l->ι' r=some l)
 (c:w'.heap[l.b]?=w.heap[l.b]?) (d : ∀o x,M' l.b o=some x->k.kH=true/\o<k.es.length * k.esz):o6 M' ι' w' l k:=
 ⟨h.esz,λe=>(h.cellsOk e).cr f a c d,λe=>(h.objOk e).mono f a c,d⟩
theorem ic.alloc{M ι g w}(y:ic M ι g w){q:Ref}(R:ι q=none){w':World}{arr:Array Value}{T:TypeId}{fz:Nat × Nat}(m:Ei w w' (.cells arr T fz))
 (k:bz) (U:0<k.esz) (n:Nat) (I:arr.size=n * k.esz) (K:Dl k.esz arr.size fz) (D:k.es.length<=n) (c : ∀e∈k.es,e.cells.length=k.esz)
 (O : ∀(i j:Nat) e x,k.es[i]?=some e->e.cells[j]?=some x ->∃u,arr[i * k.esz+j]?=some u/\u.oneCell'=true/\VR M (k.map ι) x u) :
 ic M (kD ι q ⟨w.heap.size,k.esz,n⟩) (lI g q k) w'/\uh M ι g w M (kD ι q ⟨w.heap.size,k.esz,n⟩) (lI g q k) w':=by
 have d:=E7 (l:=⟨w.heap.size,k.esz,n⟩) R
 have A : ∀b o x,M b o=some x->b<w.heap.size:=λb o x h=>World.block_lt_of_cell? w ⟨b,o,none⟩ (y.mem b o x h)
 have C:w'.heap[w.heap.size]?=some (.cells arr T fz):=by rw[m.heap];simp
 refine⟨⟨λb o x h=>m.cell (y.mem b o x h),?_,?_⟩,⟨m.os,m.tape,m.output,by rw[m.heap];simp,λb f _=>m.old b f,λ_ _ _ h=>h,d,?_,λ_ _ _ h => .inl h⟩⟩
 ·intro r k' v
  unfold lI at v
  split at v
  ·rename_i e
   subst e
   cases v
   refine⟨⟨w.heap.size,k.esz,n⟩,by simp[kD],fY.Vo ⟨rfl,⟨arr,T,fz,C,I,K,?_⟩,D,c,?_⟩ U⟩
   ·intro i j e x Q P
    obtain⟨u,hu,L,V⟩:=O i j e x Q P
    refine⟨u,hu,L,V.mono (λ_ _ _ h=>h) _ ?_⟩
    intro r' W a
    unfold bz.map at a ⊢
    split
    ·rename_i J;rw[if_pos J]at a;exact a
    ·rename_i J;rw[if_neg J]at a;exact d r' W a
   ·intro o x h
    exact absurd (A _ _ _ h) (Bl _)
  ·obtain⟨l,a,f⟩:=y.live r k' v
   exact⟨l,d r l a,f.cr (λ_ _ _ h=>h) d (m.old _ f.lt) f.frozen⟩
 ·intro r r' k1 k2 N S z E p t H
  unfold lI at z E
  unfold kD at p t
  by_cases F:r=q<;>by_cases G:r'=q
  ·rw[F,G]
  ·rw[if_pos F]at p;rw[if_neg G]at E t
   obtain⟨l,a,f⟩:=y.live r' k2 E
   rw[a]at t;cases t;cases p
   exact absurd f.lt (by rw[<-H];exact Bl _)
  ·rw[if_neg F]at z p;rw[if_pos G]at t
   obtain⟨l,a,f⟩:=y.live r k1 z
   rw[a]at p;cases p;cases t
   exact absurd f.lt (by rw[H];exact Bl _)
  ·rw[if_neg F]at z p;rw[if_neg G]at E t
   exact y.inj r r' k1 k2 N S z E p t H
 ·intro r k' l v a
  unfold lI at v
  unfold kD at a
  split at v
  ·rename_i e;rw[if_pos e]at a;cases a;exact .inl (dc _)
  ·rename_i e;rw[if_neg e]at a;exact .inr ⟨r,k',l,v,a,rfl⟩
def cd(w:World)(b:Nat)(o:Obj):World := { w with heap:=w.heap.setIfInBounds b o}
theorem gk{w:World}{b:Nat}{o:Obj}(a:b<w.heap.size):(cd w b o).heap[b]?=some o:=by simp[cd,a]
theorem eE{w:World}{b b':Nat}{o:Obj}(h:b≠b'):(cd w b o).heap[b']?=w.heap[b']?:=by simp[cd,Bo h]
def cD(arr:Array Value)(o:Nat)(us:List Value):Array Value:=(arr.toList.take o++us++arr.toList.drop (o+us.length)).toArray
theorem iq{arr:Array Value}{o:Nat}{us:List Value}(h:o+us.length<=arr.size)(i:Nat) :
 (cD arr o us)[i]?=if o<=i/\i<o+us.length then us[i - o]? else arr[i]?:=by
 unfold cD
 simp only[NL]
 have b:(arr.toList.take o).length=o:=by simp;omega
 rcases fm i o with a | a
 ·rw[Ce,nS (by omega),Bn,if_pos a,if_neg (by omega)]
  simp
 ·rcases fm i (o+us.length)with c | c
  ·rw[Ce,pf (by omega),nS (by omega),if_pos ⟨a,c⟩,b]
  ·rw[pf (by simp;omega),Ft,if_neg (by omega)]
   simp only[oT,b,Ir]
   congr 1
   omega
theorem jd{arr:Array Value}{o:Nat}{us:List Value}(h:o+us.length<=arr.size):(cD arr o us).size=arr.size:=by
 simp[cD];omega
theorem mO{P:Program}{b:Nat}{T:TypeId}{fz:Nat × Nat}(o:Nat) : ∀(us:List Value)(i:Nat)(arr:Array Value)(w:World),w.heap[b]?=some (.cells arr T fz) ->
 o+i+us.length<=arr.size->(∀j,j<arr.size ->¬(fz.1<=j/\(j<fz.2\/fz.2<fz.1)))->(∀u∈us,u.oneCell'=true) ->
 (storeCells ⟨b,o,none⟩ us i).run P w = .ok () (cd w b (.cells (cD arr (o+i) us) T fz)):=by
 intro us
 induction us with
 | nil=>
  intro i arr w a q p l
  have g:=(iG.1 a).1
  have e:cD arr (o+i) []=arr:=by simp[cD]
  have y:cd w b (.cells arr T fz)=w:=by
   have:w.heap.setIfInBounds b (.cells arr T fz)=w.heap:=by
    apply Er
    intro k
    by_cases c:b=k
    ·subst c;rw[a,Fw g]
    ·rw[Bo c]
   unfold cd
   rw[this]
  simp[storeCells,e,y]
 | cons u us z=>
  intro i arr w a q p l
  have g:=(iG.1 a).1
  simp only[qZ]at q
  have x:w.cell? ⟨b,o+i,none⟩=some arr[o+i]:=by rw[lF a];exact jY (by omega)
  have m:w.frozen? ⟨b,o+i,none⟩=false:=by
   have:=p (o+i) (by omega)
   simp only[World.frozen?,a]
   simp only[NK,decide_eq_false_iff_not]
   by_cases h:fz.1<=o+i
   ·exact .inr λA=>this ⟨h,.inl A⟩
   ·exact .inl h
  have d:w.setCell ⟨b,o+i,none⟩ u=cd w b (.cells (arr.setIfInBounds (o+i) u) T fz):=by
   unfold World.setCell cd
   congr 1
   apply Er
   intro k
   rw[KK]
   by_cases c:b=k
   ·subst c;rw[a,Fw g];simp
   ·simp[c,Bo c]
  have f:=l u (by simp)
  have n:=z (i+1) (arr.setIfInBounds (o+i) u) (cd w b (.cells (arr.setIfInBounds (o+i) u) T fz)) (gk g) (by simp;omega) (by simpa using p) (λv D=>l v (by simp[D]))
  simp only[storeCells,Sem.run_bind,iL,run_store P w _ u _ f,x,m,d]
  simp only[nz, ↓reduceIte,Result.andThen_ok]
  rw[n]
  congr 1
  unfold cd
  simp only[Array.setIfInBounds_setIfInBounds]
  congr 3
  apply Er
  intro k
  rw[iq (by simp;omega),iq (by simp;omega)]
  by_cases C:k=o+i
  ·subst C
   rw[if_neg (by omega),if_pos ⟨dc _,by simp⟩]
   simp[show o+i<arr.size by omega]
  ·by_cases t:o+(i+1)<=k/\k<o+(i+1)+us.length
   ·rw[if_pos t,if_pos (by simp;omega)]
    rw[show k - (o+i)=(k - (o+(i+1)))+1 by omega]
    simp
   ·rw[if_neg t,if_neg (by simp;omega)]
    rw[Bo (by omega)]
theorem ic.mark{M ι g w}(n:ic M ι g w){r:Ref}{k:bz}{l:Loc}(t:g r=some k)(A:ι r=some l){arr:Array Value}{T:TypeId}{C fz:Nat × Nat}{w':World}
 (z:w.heap[l.b]?=some (.cells arr T C)) (m:w'=cd w l.b (.cells arr T fz)) (E:Dl k.esz arr.size fz):ic M ι g w'/\uh M ι g w M ι g w':=by
 obtain⟨U,p,L⟩:=n.live r k t
 rw[A]at p;cases p
 have F:=L.lt
 have f:w'.heap[l.b]?=some (.cells arr T fz):=by rw[m];exact gk F
 have c : ∀b,l.b≠b->w'.heap[b]?=w.heap[b]?:=λb a=>by rw[m];exact eE a
 have j : ∀b o,w'.cell? ⟨b,o,none⟩=w.cell? ⟨b,o,none⟩:=by
  intro b o
  by_cases a:l.b=b
  ·subst a;rw[lF f,lF z]
  ·exact World.cell?_of_block (c b a)
 refine⟨⟨λb o x h=>by rw[j];exact n.mem b o x h,?_,n.inj⟩,?_⟩
 ·intro r' k1 u
  obtain⟨y,q,d⟩:=n.live r' k1 u
  refine⟨y,q,?_⟩
  by_cases a:l.b=y.b
  ·obtain⟨i,D⟩:=d.Vk (a ▸ z)
   obtain⟨I,T1,N,v,R,S,O⟩:=i.heap
   rw[<-a,z]at v
   injection v with v;injection v with J P V
   subst J;subst P
   have G:k1=k:=by
    have e:=n.inj r r' k k1 l y t u A q a
    subst e;rw[t]at u;exact(Option.some.inj u).symm
   exact fY.Vo ⟨d.esz,⟨arr,T,fz,by rw[<-a];exact f,R,by rw[G];exact E,O⟩,i.len,i.cells,d.frozen⟩ D
  ·exact d.cr (λ_ _ _ h=>h) (λ_ _ h=>h) (c _ a) d.frozen
 ·refine⟨by rw[m];rfl,by rw[m];rfl,by rw[m];rfl,by rw[m];simp[cd],λb K H=>c b (H r k l t A),λ_ _ _ h=>h,λ_ _ h=>h,λr k l h Q => .inr ⟨r,k,l,h,Q,rfl⟩,λ_ _ _ h => .inl h⟩
theorem ic.write{M ι g w}(D:ic M ι g w){r:Ref}{k k':bz}{l:Loc}(v:g r=some k)(F:ι r=some l)(W:0<l.esz){arr:Array Value}{T:TypeId}{fz:Nat × Nat}{w':World}
 (m:w'=cd w l.b (.cells arr T fz)) (a:k'.esz=k.esz) (Q:k'.arr=k.arr) (I:arr.size=l.n * k.esz) (O:Dl k.esz arr.size fz)
 (z:k'.es.length<=l.n) (c : ∀e∈k'.es,e.cells.length=k.esz) (f : ∀o x,M l.b o=some x->False)
 (S : ∀(i j:Nat) e x,k'.es[i]?=some e->e.cells[j]?=some x ->∃u,arr[i * k.esz+j]?=some u/\u.oneCell'=true/\VR M (k'.map ι) x u) :
 ic M ι (lI g r k') w'/\uh M ι g w M ι (lI g r k') w':=by
 obtain⟨Y,y,H⟩:=D.live r k v
 rw[F]at y;cases y
 have P:=H.lt
 refine⟨⟨?_,?_,?_⟩,?_⟩
 ·intro b o x h
  have q:l.b≠b:=λe=>f o x (e ▸ h)
  rw[World.cell?_of_block (w:=w) (by rw[m];exact eE q)]
  exact D.mem b o x h
 ·intro r' k1 C
  unfold lI at C
  split at C
  ·rename_i e
   subst e
   cases C
   refine⟨l,F,fY.Vo ⟨by rw[H.esz,a],⟨arr,T,fz,by rw[m];exact gk P,by rw[a];exact I,by rw[a];exact O,by rw[a];exact S⟩,z,by rw[a];exact c,λo x h=>(f o x h).elim⟩ (by rw[a,<-H.esz];exact W)⟩
  ·rename_i q
   obtain⟨d,E,t⟩:=D.live r' k1 C
   have J:l.b≠d.b:=λe=>q (D.inj r' r k1 k d l C v E F e.symm)
   exact⟨d,E,t.cr (λ_ _ _ h=>h) (λ_ _ h=>h) (by rw[m];exact eE J) t.frozen⟩
 ·intro r1 r2 k1 k2 d X A G U V R
  have p : ∀ {r1:Ref} {k1:bz},lI g r k' r1=some k1 ->∃k,g r1=some k:=by
   intro r1 k1 h
   unfold lI at h
   split at h
   ·rename_i e;exact⟨k,e ▸ v⟩
   ·exact⟨k1,h⟩
  obtain⟨_,N⟩:=p A
  obtain⟨_,K⟩:=p G
  exact D.inj r1 r2 _ _ d X N K U V R
 ·refine⟨by rw[m];rfl,by rw[m];rfl,by rw[m];rfl,by rw[m];simp[cd],?_,λ_ _ _ h=>h,λ_ _ h=>h,?_,λ_ _ _ h => .inl h⟩
  ·intro b _ L
   rw[m]
   exact eE (L r k l v F)
  ·intro r1 k1 d A G
   unfold lI at A
   split at A
   ·rename_i e;subst e;exact .inr ⟨r1,k,d,v,G,rfl⟩
   ·exact .inr ⟨r1,k1,d,A,G,rfl⟩
end Go.Ab
namespace Go.Ab
open Classical
def SI(ι:Map)(g:da)(R:List Ref)(b o:Nat):Prop :=∃r∈R,∃k l,g r=some k/\ι r=some l/\l.b=b/\o<k.es.length * k.esz
noncomputable def nd(M:Mem)(ι:Map)(g:da)(w:World)(R:List Ref):Mem:=λb o=>
 match M b o with
 | some x=>some x
 | none=>if SI ι g R b o then w.cell? ⟨b,o,none⟩ else none
theorem wx{M ι g w R} : ∀b o x,M b o=some x->nd M ι g w R b o=some x:=by
 intro b o x h;simp[nd,h]
theorem zm{M ι g w R}(c : ∀b o x,M b o=some x->w.cell? ⟨b,o,none⟩=some x) : ∀b o x,nd M ι g w R b o=some x->w.cell? ⟨b,o,none⟩=some x:=by
 intro b o x h
 unfold nd at h
 split at h
 ·rename_i y a;cases h;exact c b o _ a
 ·split at h
  ·exact h
  ·cases h
theorem B3{M ι g w R b o x}(h:nd M ι g w R b o=some x):M b o=some x\/SI ι g R b o:=by
 unfold nd at h
 split at h
 ·rename_i y c;cases h;exact .inl c
 ·split at h
  ·rename_i a;exact .inr a
  ·cases h
theorem D1{n esz i j:Nat}(a:i<n)(b:j<esz):i * esz+j<n * esz:=by
 have:(i+1) * esz<=n * esz:=mH _ a
 rw[m5]at this
 omega
theorem Nf{M ι g w R}(t:ic M ι g w){r:Ref}{k:bz}{l:Loc}(E:r∈R)(n:g r=some k)(p:ι r=some l){i j:Nat}(h:i<k.es.length)(F:j<k.esz) :
 ∃u,nd M ι g w R l.b (i * k.esz+j)=some u/\u.oneCell'=true/\w.cell? ⟨l.b,i * k.esz+j,none⟩=some u /\
  ∀e x,k.es[i]?=some e->e.cells[j]?=some x->VR M (k.map ι) x u:=by
 obtain⟨J,c,f⟩:=t.live r k n
 rw[p]at c;cases c
 replace f:=f.cellsOk (by omega)
 obtain⟨arr,T,fz,z,H,I,C⟩:=f.heap
 have a:k.es[i]?=some k.es[i]:=fc h
 have D:=f.cells k.es[i] (lY h)
 have d:k.es[i].cells[j]?=some (k.es[i].cells[j]'(by omega)):=fc _
 obtain⟨u,hu,v,G⟩:=C i j _ _ a d
 have m:w.cell? ⟨l.b,i * k.esz+j,none⟩=some u:=by rw[lF z];exact hu
 refine⟨u,?_,v,m,?_⟩
 ·unfold nd
  split
  ·rename_i y A;have:=t.mem _ _ _ A;rw[m]at this;cases this;rfl
  ·rw[if_pos ⟨r,E,k,l,n,p,rfl,D1 h F⟩];exact m
 ·intro e x q o
  rw[a]at q;cases q
  rw[d]at o;cases o
  exact G
theorem KZ{g:da}{n:Nat}{x y:AV}(h:view g (n+1) x=some y)(c : ∀cs,x ≠ .agg cs):x.cells=[x]/\y.cells=[y]:=by
 refine⟨by cases x<;>first | rfl | exact absurd rfl (c _),?_⟩
 cases x with
 | agg cs=>exact absurd rfl (c cs)
 | v x=>simp[view]at h;subst h;rfl
 | tup cs=>simp only[view,bO]at h;obtain⟨_,_,rfl⟩:=h;rfl
 | bW=>simp[view]at h;subst h;rfl
 | iptr=>simp[view]at h;subst h;rfl
 | fsl=>simp[view]at h
 | cL r off len cap=>
  simp only[view]at h
  split at h
  ·split at h
   ·cases h;rfl
   ·cases h
  ·cases h
 | ptr r i j=>
  simp only[view]at h
  split at h
  ·split at h
   ·cases h;rfl
   ·simp only[bO]at h;obtain⟨_,_,rfl⟩:=h;rfl
  ·cases h
 | fn f a b=>
  simp only[view]at h
  split at h
  ·cases h;rfl
  ·cases h
 | ifc t x=>simp only[view,bO]at h;obtain⟨_,_,rfl⟩:=h;rfl
 | yld=>simp[view]at h
 | mp=>simp[view]at h
 | ch=>simp[view]at h
 | lp=>simp[view]at h
theorem F1{g:da}{n:Nat}{e i:AV}(h:view g (n+1) e=some i) :
 i.cells.length=e.cells.length /\∀(j:Nat) d,i.cells[j]?=some d ->∃m x,m<=n+1/\e.cells[j]?=some x/\view g m x=some d /\∀r∈ay g m x,r∈ay g (n+1) e:=by
 by_cases b : ∃cs,e = .agg cs
 ·obtain⟨cs,rfl⟩:=b
  simp only[view,bO]at h
  obtain⟨ys,c,rfl⟩:=h
  refine⟨by simp[AV.cells,jT c],?_⟩
  intro j d a
  obtain⟨x,b,p⟩:=rp c j d (by simpa [AV.cells] using a)
  refine⟨n,x,by omega,by simpa [AV.cells] using b,p,?_⟩
  intro r f
  simp only[ay,sv]
  exact⟨x,fL b,f⟩
 ·obtain⟨k,l⟩:=KZ h (λcs o=>b ⟨cs,o⟩)
  refine⟨by rw[k,l];rfl,?_⟩
  intro j d a
  rw[l]at a
  cases j with
  | zero=>
   simp at a
   subst a
   exact⟨n+1,e,dc _,by rw[k];rfl,h,λr f=>f⟩
  | succ j=>simp at a
theorem Ci{M ι g w R}(hS:ic M ι g w) : ∀(n:Nat)(x y:AV)(u:Value),view g n x=some y->(∀r∈ay g n x,r∈R)->VR M ι x u->VR (nd M ι g w R) ek y u:=by
 intro n
 induction n using Nat.strongRecOn with | ind n ih=>
 intro x y u h L O
 cases n with
 | zero=>simp[view]at h
 | succ n=>
  have A : ∀ {cs ys:List AV} {us:List Value},cs.mapM (view g n)=some ys->(∀r∈cs.flatMap (ay g n),r∈R)->mc M ι cs us->mc (nd M ι g w R) ek ys us:=by
   intro cs ys us G L Z
   refine⟨by rw[jT G];exact Z.1,λi y' u hy H=>?_⟩
   obtain⟨x,E,hf⟩:=rp G i y' hy
   exact ih n (by omega) x y' u hf (λr N=>L r (sv.2 ⟨x,fL E,N⟩)) (Z.2 i x u E H)
  cases x with
  | v x=>simp[view]at h;subst h;cases O with | v hs=>exact .v hs
  | agg cs=>
   simp only[view,bO]at h
   obtain⟨ys,G,rfl⟩:=h
   cases O with | agg hl P=>
   exact VR.rO.2 (A G (by simpa [ay] using L) (VR.rO.1 (.agg hl P)))
  | tup cs=>
   simp only[view,bO]at h
   obtain⟨ys,G,rfl⟩:=h
   cases O with | tup h0 hl P=>
   rename_i vs
   have:=A (us:=vs.toList) G (by simpa [ay] using L) ⟨by simpa using hl,λi x u E H=>P i x u E (by simpa using H)⟩
   refine .tup ?_ (by simpa using this.1) λi c u S H=>this.2 i c u S (by simpa using H)
   intro e
   subst e
   have I:=jT G
   exact h0 (Ch (by simpa using I.symm))
  | bW esz es cap=>
   simp[view]at h;subst h
   cases O with | bW cell hs S T hm J P=>
   exact(VR.bW (M:=M) (ι:=ek) cell hs S T hm J P).mono wx _ (λ_ _ h=>h)
  | iptr esz es i j=>
   simp[view]at h;subst h
   cases O with | iptr cell hm J P=>
   exact(VR.iptr (M:=M) (ι:=ek) cell hm J P).mono wx _ (λ_ _ h=>h)
  | fsl=>simp[view]at h
  | cL r off len cap=>
   simp only[view]at h
   split at h
   ·rename_i k T
    split at h
    ·rename_i P
     cases h
     obtain⟨z,K⟩:=P
     cases O with | cL N hb hs ha S hn hkk W=>
     rename_i l a c
     have V:r∈R:=L r (by simp[ay])
     have q:=hS.at N W T
     have hll:((k.es.drop off).take len).length=len:=by simp;omega
     have hat : ∀i,i<len->((k.es.drop off).take len)[i]?=k.es[off+i]?:=by
      intro i p
      rw[Bn,if_pos p,Ft]
     have U:0<len->a.off=off * k.esz:=by
      intro h0
      rcases ha with h | h
      ·omega
      ·rw[h,q.esz]
     have key : ∀i j,i<len->j<k.esz ->∃u,nd M ι g w R a.block (a.off+(i * k.esz+j))=some u/\u.oneCell'=true /\∀e x,k.es[off+i]?=some e->e.cells[j]?=some x->VR M (k.map ι) x u:=by
      intro i j p F
      obtain⟨u,I,Q,_,Y⟩:=Nf hS V T N (i:=off+i) (j:=j) (by omega) F
      refine⟨u,?_,Q,Y⟩
      rw[U (by omega),hb,show off * k.esz+(i * k.esz+j)=(off+i) * k.esz+j by rw[m5];omega]
      exact I
     let cell:Nat->Nat->Value:=λi j=>(nd M ι g w R a.block (a.off+(i * k.esz+j))).getD undef
     have:=VR.bW (M:=nd M ι g w R) (ι:=ek) (esz:=k.esz) (es:=(k.es.drop off).take len) (cap:=cap) (a:=a) (c:=c) cell (.inl hs) (by omega) hkk
      (by
       intro i j p F
       rw[hll]at p
       obtain⟨u,I,Q,_⟩:=key i j p F
       simp[cell,I,Q])
      (by
       intro e J
       exact q.cells e (Fv (zH J)))
      (by
       intro i j e x p E
       have D:i<len:=by have:=(iN.1 p).1;omega
       rw[hat i D]at p
       have F:j<k.esz:=by
        rw[<-q.cells e (fL p)]
        exact(iN.1 E).1
       obtain⟨u,I,Q,Y⟩:=key i j D F
       have:=Y e x p E
       rw[bz.map,if_pos z]at this
       simp only[cell,I,cX]
       exact this.mono wx _ (λ_ _ h=>h))
     rw[hll]at this
     exact this
    ·cases h
   ·cases h
  | ptr r i j=>
   cases O with | ptr N W=>
   rename_i l
   simp only[view]at h
   split at h
   ·rename_i k T
    have V:r∈R:=L r (by simp[ay])
    have q:=hS.at N W T
    let cell:Nat->Nat->Value:=λi j=>(nd M ι g w R l.b (0+(i * k.esz+j))).getD undef
    have d : ∀i j,i<k.es.length->j<k.esz->nd M ι g w R l.b (0+(i * k.esz+j))=some (cell i j)/\(cell i j).oneCell'=true /\∀e x,k.es[i]?=some e->e.cells[j]?=some x->VR M (k.map ι) x (cell i j):=by
     intro i j p F
     obtain⟨u,I,Q,_,Y⟩:=Nf hS V T N p F
     rw[uN]at *
     simp only[cell,uN,I,cX]
     exact⟨trivial,Q,Y⟩
    split at h
    ·rename_i z
     cases h
     have:=VR.iptr (M:=nd M ι g w R) (ι:=ek) (esz:=k.esz) (es:=k.es) (i:=i) (j:=j) (b:=l.b) (o:=0) cell (λi j p F=>⟨(d i j p F).1,(d i j p F).2.1⟩) q.cells
      (by
       intro i j e x p E
       have D:=(iN.1 p).1
       have F:j<k.esz:=by
        rw[<-q.cells e (fL p)]
        exact(iN.1 E).1
       have:=(d i j D F).2.2 e x p E
       rw[bz.map,if_pos z]at this
       exact this.mono wx _ (λ_ _ h=>h))
     rw[uN]at this
     rw[q.esz]
     exact this
    ·rename_i z
     simp only[bO]at h
     obtain⟨es',C,rfl⟩:=h
     cases n with
     | zero=>
      cases hke:k.es with
      | nil=>
       rw[hke]at C
       simp at C
       subst C
       have:=VR.iptr (M:=nd M ι g w R) (ι:=ek) (esz:=k.esz) (es:=[]) (i:=i) (j:=j) (b:=l.b) (o:=0) cell (by intro i j p;simp at p) (by simp) (by intro i j e x p;simp at p)
       rw[uN]at this
       rw[q.esz]
       exact this
      | cons e es=>
       rw[hke]at C
       simp[view]at C
     | succ n=>
      have K:=jT C
      have:=VR.iptr (M:=nd M ι g w R) (ι:=ek) (esz:=k.esz) (es:=es') (i:=i) (j:=j) (b:=l.b) (o:=0) cell
       (λi j p F=>⟨(d i j (K ▸ p) F).1,(d i j (K ▸ p) F).2.1⟩)
       (by
        intro e' he'
        obtain⟨i',D,rfl⟩:=sw he'
        obtain⟨e,J,hf⟩:=rp C i' _ (fc D)
        rw[(F1 hf).1]
        exact q.cells e (fL J))
       (by
        intro i' j' e' x' D hx'
        obtain⟨e,J,hf⟩:=rp C i' e' D
        obtain⟨m,x,hm,E,hfx,X⟩:=(F1 hf).2 j' x' hx'
        have hlt:=(iN.1 J).1
        have F:j'<k.esz:=by
         rw[<-q.cells e (fL J)]
         exact(iN.1 E).1
        have hvx:=(d i' j' hlt F).2.2 e x J E
        rw[bz.map,if_neg z]at hvx
        refine ih m (by omega) x x' _ hfx ?_ hvx
        intro r' hr'
        refine L r' ?_
        simp only[ay,T,if_neg z,m6,sv]
        exact .inr ⟨e,fL J,X r' hr'⟩)
      rw[uN]at this
      rw[q.esz]
      exact this
   ·cases h
  | fn f a b=>
   simp only[view]at h
   split at h
   ·rename_i a' b' ha' hb'
    cases h
    cases O with | fn hla hlb hha hhb=>
    rename_i va vb
    simp only[ay,nR]at L
    have I:=A (us:=va.toList) ha' (λr N=>L r (.inl N)) ⟨by simpa using hla,λi x u E H=>hha i x u E (by simpa using H)⟩
    have Q:=A (us:=vb.toList) hb' (λr N=>L r (.inr N)) ⟨by simpa using hlb,λi x u E H=>hhb i x u E (by simpa using H)⟩
    exact .fn (by simpa using I.1) (by simpa using Q.1) (λi c u S H=>I.2 i c u S (by simpa using H)) (λi c u S H=>Q.2 i c u S (by simpa using H))
   ·cases h
  | ifc t x=>
   simp only[view,bO]at h
   obtain⟨y,hy,rfl⟩:=h
   cases O with | ifc O=>
   exact .ifc (ih n (by omega) x y _ hy (by simpa [ay] using L) O)
  | yld=>simp[view]at h
  | mp=>simp[view]at h
  | ch=>simp[view]at h
  | lp=>simp[view]at h
def vK(g:da)(R:List Ref):da:=λr=>if r∈R then (g r).map λk => { k with kH:=true} else g r
theorem AB{M ι g w R}(D:ic M ι g w):ic (nd M ι g w R) ι (vK g R) w/\uh M ι g w (nd M ι g w R) ι (vK g R) w:=by
 have a : ∀ {r k},vK g R r=some k ->∃k0,g r=some k0/\k = { k0 with kH:=k.kH}/\(r∈R->k.kH=true)/\(k0.kH=true->k.kH=true):=by
  intro r k h
  unfold vK at h
  split at h
  ·simp only[bO]at h
   obtain⟨k0,E,rfl⟩:=h
   exact⟨k0,E,rfl,λ_=>rfl,λ_=>rfl⟩
  ·rename_i G
   exact⟨k,h,rfl,λH=>absurd H G,λh=>h⟩
 refine⟨⟨zm D.mem,?_,?_⟩,⟨rfl,rfl,rfl,dc _,λ_ _ _=>rfl,wx,λ_ _ h=>h,?_,?_⟩⟩
 ·intro r k h
  obtain⟨k0,t,F,G,hm⟩:=a h
  obtain⟨l,v,c⟩:=D.live r k0 t
  refine⟨l,v,?_⟩
  have q:k.es=k0.es:=by rw[F]
  have m:k.esz=k0.esz:=by rw[F]
  have J:k.arr=k0.arr:=by rw[F]
  have n : ∀o x,nd M ι g w R l.b o=some x->k.kH=true/\o<k.es.length * k.esz:=by
   intro o x y
   rw[q,m]
   rcases B3 y with h | ⟨r',z,k',A,d,f,p,C⟩
   ·exact⟨hm (c.frozen o x h).1,(c.frozen o x h).2⟩
   ·have e:=D.inj r' r k' k0 A l d t f v p
    subst e
    rw[t]at d;cases d
    exact⟨G z,C⟩
  refine⟨by rw[m];exact c.esz,λI=>?_,λI=>?_,n⟩
  ·replace c:=c.cellsOk (by rw[<-m];exact I)
   obtain⟨arr,T,fz,N,O,L,P⟩:=c.heap
   refine⟨by rw[m];exact c.esz,⟨arr,T,fz,N,by rw[m];exact O,by rw[m];exact L,?_⟩,by rw[q];exact c.len,by rw[q,m];exact c.cells,n⟩
   intro i j e x K y
   rw[q]at K
   rw[m]
   obtain⟨u,hu,C,Q⟩:=P i j e x K y
   refine⟨u,hu,C,?_⟩
   have:k.map ι=k0.map ι:=by unfold bz.map;rw[J]
   rw[this]
   exact Q.mono wx _ (λ_ _ h=>h)
  ·exact((c.objOk (by rw[<-m];exact I)).mono (M':=nd M ι g w R) wx (λ_ _ h=>h) rfl).same m J q
 ·intro r r' k k' l A h H v f c
  obtain⟨k0,t,_⟩:=a h
  obtain⟨k1,q,_⟩:=a H
  exact D.inj r r' _ _ l A t q v f c
 ·intro r k l h v
  obtain⟨k0,t,_⟩:=a h
  exact .inr ⟨r,k0,l,t,v,rfl⟩
 ·intro b o x y
  rcases B3 y with h | ⟨r',z,k',A,d,f,p,C⟩
  ·exact .inl h
  ·exact .inr (.inr ⟨r',k',A,d,f,p⟩)
theorem MB{g:da}{R:List Ref}(h:kg g R=true):vK g R=g:=by
 funext r
 unfold vK
 split
 ·rename_i b
  simp only[kg,gD]at h
  have:=h r b
  cases a:g r with
  | none=>rfl
  | some k=>
   rw[a]at this
   simp at this
   simp[<-this]
 ·rfl
end Go.Ab
