/-
  The abstract machine: a deterministic evaluator of the model's code over data, in which a slice that nobody writes is a list. No statement of a seat is proved here.
-/
import Derived.WalkKit
import Derived.RangeFuncIn
import Derived.RangeFuncRecord
import Derived.RangeFuncLeaves
import Derived.OrdersIn
set_option linter.unusedVariables false
set_option linter.unusedSimpArgs false
set_option linter.unusedSectionVars false
set_option linter.unnecessarySimpa false
set_option linter.defProp false
namespace Go.Ab
set_option linter.defProp false
def iQa:=@Go.IntWalk.i64_in
def iQb:=@decide_eq_true_eq
def iQc:=@decide_eq_false_iff_not
def iQd:=@Go.Result.andThen_ok
def iQe:=@Go.Sem.run_bind
def iQf:=@congrArg
def iQg:=@decide_eq_true
def iQh:=@if_false
def iQi:=@decide_eq_false
def iQj:=@Go.Sem.run_pure
def iQk:=@Go.World.cell?_of_block
def iQl:=@beq_iff_eq
def iQm:=@Go.World.block_lt_of_cell?
def iQn:=@Go.Steps.trans
def iQo:=@Go.step_lone_go
def iQp:=@forall_const
def iQq:=@cond_true
def iQr:=@Go.Frame.finish_atR
def iQs:=@and_true
def iQt:=@true_and
def iQu:=@cond_false
def iQv:=@or_false
def iQw:=@Go.IntKind.wrap_i32
def iQx:=@Go.mem_ready
def iQy:=@Go.StepsIn.steps
def iQz:=@List.exists_cons_of_ne_nil
def iQA:=@List.getD_eq_getElem?_getD
def iQB:=@of_decide_eq_true
def iQC:=@Go.run_convert_bytes_string
def iQD:=@Go.World.putObj_heap_other
def iQE:=@List.mem_singleton_self
def iQF:=@decide_true
def iQG:=@List.getElem_cons_succ
def iQH:=@UInt32.toNat_ofBitVec
def iQI:=@UInt8.lt_iff_toNat_lt
def iQJ:=@UInt8.le_iff_toNat_le
def iQK:=@List.countP_le_length
def iQL:=@Nat.div_lt_iff_lt_mul
def iQM:=@Go.run_sliceBound
def iQN:=@Go.size_zeroCells
def iQO:=@List.take_take
def iQP:=@UInt8.toNat_ofBitVec
def iQQ:=@BitVec.ofInt_natCast
def iQR:=@List.map_take
def iQS:=@List.drop_one
def iQT:=@Array.toList_zipIdx
def iQU:=@List.Sublist.append
def iQV:=@Nat.min_self
def bG := @Option.map_eq_some_iff
def bt := @Bool.and_eq_true
def de := @List.getElem?_eq_getElem
def cN := @List.take_of_length_le
def eQ := @Option.ite_none_right_eq_some
def dT := @List.getElem?_eq_some_iff
def iz := @Option.bind_eq_some_iff
def dX := @Option.bind_some
def fZ := @List.mem_of_getElem?
def kn := @Array.getElem?_eq_getElem
def cb := @Option.getD_some
def bg := @Nat.le_refl
def ic := @List.getElem?_append_right
def iT := @Array.getElem?_eq_some_iff
def ib := @Option.isSome_iff_exists
def dV := @Option.some.injEq
def dY := @List.all_eq_true
def jG := @List.getElem?_append_left
def eO := @List.getElem_mem
def gj := @Bool.false_eq_true
def iS := @List.mem_cons_of_mem
def gD := @List.mem_cons_self
def gz := @Bool.not_eq_true'
def ef := @List.mem_cons
def kF := @Nat.eq_of_beq_eq_true
def gC := @List.mem_flatMap
def ju := @List.length_append
def iA := @List.length_cons
def eU := @Nat.lt_or_ge
def jt := @Bool.or_eq_true
def lX := @Nat.mul_le_mul_right
def j7 := @List.length_take
def k9 := @List.mem_singleton
def ia := @Bool.true_and
def kR := @List.getElem?_map
def lU := @List.flatMap_cons
def kQ := @List.mem_append
def ji := @Nat.le_of_lt
def k8 := @List.length_nil
def o5 := @List.getElem_of_mem
def j6 := @List.mem_map
def sK := @List.length_eq_zero_iff
def nM := @List.length_drop
def pF := @Bool.not_eq_false'
def na := @List.mapM_cons
def yG := @List.eq_nil_of_length_eq_zero
def oD := @List.append_nil
def sJ := @Option.bind_eq_bind
def qq := @List.append_assoc
def o4 := @List.nil_append
def AD := @Array.getElem?_setIfInBounds_ne
def lT := @Nat.add_mul
def oC := @List.drop_drop
def qp := @Nat.lt_succ_self
def wF := @List.drop_of_length_le
def pE := @Bool.false_and
def Fg := @Array.getElem?_setIfInBounds_self_of_lt
def wE := @List.getElem?_eq_none
def rB := @List.foldl_cons
def rA := @Option.pure_def
def wD := @Bool.and_eq_true_iff
def vl := @Nat.pos_of_ne_zero
def BY := @Array.getD_eq_getD_getElem?
def yF := @List.mem_of_mem_take
def uf := @Option.getD_none
def vk := @Classical.not_not
def sI := @Prod.mk.injEq
def yE := @List.getElem?_drop
def yD := @Nat.lt_of_lt_of_le
def rz := @Nat.sub_self
def AB := @List.take_append_drop
def AA := @List.length_replicate
def D5 := @Int.tmod_eq_emod_of_nonneg
def za := @List.getElem?_take
def wC := @List.nodup_cons
def wB := @List.cons.injEq
def wA := @List.take_left'
def Az := @Array.length_toList
def wz := @List.mem_range
def yC := @UInt8.toNat_inj
def ue := @Nat.zero_add
def BX := @List.mem_of_mem_drop
def D4 := @Array.getElem?_push_lt
def BW := @List.flatMap_append
def BU := @Int.toNat_of_nonneg
def vj := @Nat.le_trans
def Ff := @Int.eq_ofNat_of_zero_le
def D3 := @List.mem_append_left
def yB := @List.all_cons
def D2 := @List.getElem?_range
def D1 := @List.length_pos_iff
def Ky := @Array.eq_empty_of_size_eq_zero
def Ay := @Nat.min_eq_left
def Ax := @List.drop_left'
def Fe := @Array.getElem?_toList
def Fc := @Bool.and_eq_false_iff
def Kx := @List.take_append_of_le_length
def D0 := @Array.ext_getElem?
def BT := @List.take_length
def BS := @List.not_mem_nil
def xF := @List.map_append
def ug := @Nat.add_zero
def s8 := @Nat.zero_le
def Dg := @List.getElem?_set_self
def vH := @Nat.lt_irrefl
def vG := @List.map_cons
def FB := @Int.tdiv_eq_ediv_of_nonneg
def Df := @List.mem_append_right
def De := @Nat.le_of_ble_eq_true
def Dd := @List.set_append_right
def xE := @Bool.not_false
def zh := @Option.map_none
def zg := @List.length_map
def Bq := @Nat.lt_trichotomy
def Bp := @Nat.lt_succ_of_lt
def xD := @Sum.inr.injEq
def xC := @Bool.false_or
def FA := @List.getElem?_cons_succ
def Bo := @List.flatMap_nil
def Dc := @Nat.eq_zero_or_pos
def Db := @List.set_cons_zero
def Fz := @Array.getElem?_modify
def Fy := @List.length_singleton
def zf := @Sum.inl.injEq
def ze := @Bool.not_true
def zd := @Bool.and_true
def Jp := @List.takeWhile_cons_of_pos
def Jo := @List.takeWhile_cons_of_neg
def Da := @List.nodup_append
def Jn := @List.mem_or_eq_of_mem_set
def Fx := @List.getElem?_set_ne
def Bn := @Bool.and_false
def zb := @Bool.or_self
def Fw := @List.mem_map_of_mem
def Fv := @Bool.or_eq_true_iff
def Jm := @List.getElem?_cons_zero
def Jl := @Nat.add_sub_cancel_left
def rO := @Ne.symm
def Bm := @Bool.and_self
def Fu := @BitVec.toNat_ofInt
def C9 := @List.mem_filter
def Jk := @UInt32.toNat_shiftLeft
def Ft := @List.take_add_one
def Nf := @Option.ite_none_left_eq_some
def Jj := @List.contains_iff_mem
def Bl := @List.all_nil
def C8 := @List.drop_zero
def Bk := @List.map_map
def Bj := @Int.pow_succ
def Fs := @Option.bind_none
def Nd := @Array.getElem?_append_left
def Bi := @Nat.le_succ
def Ji := @List.replicate_zero
def Fq := @Option.some.inj
def Nc := @List.drop_eq_getElem_cons
def Nb := @List.extract_eq_take_drop
def Jh := @List.pairwise_cons
def C7 := @Nat.mul_comm
def Na := @List.getElem?_take_of_lt
def M9 := @Array.getElem?_replicate
def M8 := @List.filter_cons_of_neg
def Jg := @List.ext_getElem?
def Jf := @Int.toNat_natCast
def Fp := @Nat.add_assoc
def Je := @Nat.shiftLeft_eq
def Jd := @List.any_eq_true
def Jc := @Array.toList_inj
def Jb := @Nat.mod_eq_of_lt
def Ja := @Nat.min_eq_right
def I9 := @List.cons_append
def I8 := @List.drop_length
def M7 := @List.getElem?_toArray
def SI := @List.replicate_append_replicate
def Fo := @List.map_set
def SG := @List.eq_nil_iff_forall_not_mem
def M6 := @Array.toList_extract
def Fm := @Nat.succ_mul
def M5 := @List.range_eq_range'
def I7 := @Int.natCast_pow
def Fl := @Int.lt_or_le
def M4 := @Bool.or_eq_false_iff
def MZ := @List.replicate_succ
def SF := @List.dropLast_concat_getLast
def Fk := @Nat.le_zero
def Fj := @Nat.sub_mul
def MY := @Nat.lt_or_gt_of_ne
def MX := @Array.foldl_toList
def SE := @Nat.two_pow_add_eq_or_of_lt
def MW := @List.zip_cons_cons
def I6 := @List.mapM_nil
def MV := @Int.emod_eq_of_lt
def MU := @Function.comp_def
def Fi := @Array.ext'
def Fh := @Nat.not_lt
def MT := @UInt32.toNat_inj
def MS := @List.length_set
structure Ref where
 d:Nat
 t:Nat
 g:Nat
 k:Nat:=0
deriving DecidableEq,Inhabited
inductive AV where
 | v (x:Value)
 | agg (cs:List AV)
 | tup (vs:List AV)
 | bq (esz:Nat) (es:List AV) (cap:Option Nat)
 | bA (r:Ref) (off len:Nat) (cap:Option Nat)
 | dsl (r:Ref) (off len:Nat) (cap:Option Nat)
 | nsl (esz:Nat) (es:List AV) (cap:Option Nat)
 | fsl (esz:Nat) (es:List AV) (cap:Option Nat)
 | ptr (r:Ref) (i j:Nat)
 | iptr (esz:Nat) (es:List AV) (i j:Nat)
 | fn (f:Fn) (first captured:List AV)
 | ifc (t:TypeId) (x:AV)
 | yld (r:Ref)
 | mp (r:Ref)
 | ch (r:Ref)
 | yM (u:Value)
 | lp (f:FuncId) (nt:Nat) (ps:List Tmp) (assign body:Code) (tm:List AV)
def AV.undef:AV := .v Go.undef
instance:Inhabited AV:=⟨AV.undef⟩
def AV.cells:AV->List AV
 | .agg cs=>cs
 | x=>[x]
def AV.one:AV->Bool
 | .v (.tuple _) | .v (.agg _) | .agg _ | .tup _ | .fsl .. | .nsl .. | .lp .. => false
 | _=>true
structure aY where
 esz:Nat
 es:List AV
 arr:Bool
 gB:Bool
deriving Inhabited
def scalar:Value->Bool
 | .bool _ | .int _ _ | .float _ _ | .complex _ _ _ | .string _=>true
 | .pointer none | .slice none 0 0 | .map none | .chan none | .nilFunc | .nilIface=>true
 | .tuple a=>a.isEmpty
 | _=>false
def iE(x:Value):Option AV:=if scalar x then some (.v x) else none
def ofValue:Value->Option AV
 | .agg cs=>(cs.toList.mapM iE).map .agg
 | .func f first captured=>if first.isEmpty&&captured.isEmpty then some (.fn f [] []) else none
 | .tuple a=>if a.isEmpty then some (.v (.tuple #[])) else (a.toList.mapM iE).map .tup
 | .iface t x=>(iE x).map (.ifc t)
 | x=>iE x
def Io:AV->Option Value
 | .v x=>some x
 | _=>none
def kr:AV->Option Value
 | .v x=>some x
 | .agg cs=>(cs.mapM Io).map λl => .agg l.toArray
 | _=>none
def bD{b:Type}(P:Program):Sem b->Option b
 | .pure a=>some a
 | .program k=>bD P (k P)
 | .mark _ k=>bD P k
 | _=>none
abbrev aa:=List (Ref × Option aY)
abbrev cL:=Ref->Option aY
def aa.get:aa->Ref->Option aY
 | [],_=>none
 | (r',b) :: h,r=>if r'=r then b else aa.get h r
def aa.gen:aa->Nat->Nat->Nat
 | [],_,_=>0
 | (r',_) :: h,d,t=>if r'.d=d/\r'.t=t then r'.g+1 else aa.gen h d t
def aa.put:aa->Ref->Option aY->aa
 | [],r,b=>[(r,b)]
 | (r',a) :: h,r,b=>if r'=r then (r,b) :: h else (r',a) :: aa.put h r b
def cX:List AV->Nat->AV
 | [],_=>AV.undef
 | x :: _,0=>x
 | _ :: l,n+1=>cX l n
def Bx:List AV->Nat->AV->List AV
 | [],0,v=>[v]
 | [],n+1,v=>AV.undef :: Bx [] n v
 | _ :: l,0,v=>v :: l
 | x :: l,n+1,v=>x :: Bx l n v
structure St where
 tm:List AV
 hp:aa
def aH(P:Program)(t:TypeId):Option Nat:=(P.info? t).map (·.size)
def gX(P:Program)(t:TypeId):Option Nat:=(P.info? t).map (·.bytes)
def eP(P:Program)(t:TypeId):Option AV:=((P.info? t).bind (·.zero)).bind ofValue
def eI(P:Program)(t:TypeId):Option Bool:=(P.underlying t).map fun | .struct _ | .array _ _=>true | _=>false
def rU(P:Program)(t:TypeId)(f:Nat):Option (Nat × TypeId):=
 match P.underlying t with
 | some (.struct a)=>(a[f]?).map λx=>(x.offset,x.type)
 | _=>none
def cu(P:Program)(t:TypeId):Option TypeId:=
 match P.underlying t with
 | some (.slice e)=>some e
 | _=>none
def mC(P:Program)(t:TypeId):Option (Nat × TypeId):=
 match P.underlying t with
 | some (.array n e)=>some (n,e)
 | _=>none
def bP(es:List AV)(i j n:Nat)(a:Bool):Option AV:=
 match es[i]? with
 | none=>none
 | some e=>
  if a then (if j+n<=e.cells.length/\0<n then some (.agg ((e.cells.drop j).take n)) else none) else e.cells[j]?
def patch(cs:List AV)(j:Nat)(new:List AV):List AV:=cs.take j++new++cs.drop (j+new.length)
def nn(e:AV)(j:Nat)(new:List AV):Option AV:=
 match e with
 | .agg cs=>if j+new.length<=cs.length then some (.agg (patch cs j new)) else none
 | _=>match j,new with
  | 0,[x]=>some x
  | _,_=>none
def gr(es:List AV)(i j:Nat)(new:List AV):Option (List AV):=
 match es[i]? with
 | none=>none
 | some e=>(nn e j new).map λa=>es.set i a
def view(g:cL):Nat->AV->Option AV
 | 0,_=>none
 | n+1,x=>
  match x with
  | .v x=>some (.v x)
  | .agg cs=>(cs.mapM (view g n)).map .agg
  | .tup cs=>(cs.mapM (view g n)).map .tup
  | .bq esz es cap=>some (.bq esz es cap)
  | .fsl .. => none
  | .iptr esz es i j=>some (.iptr esz es i j)
  | .bA r off len cap=>
   match g r with
   | some b=>if b.arr=true/\off+len<=b.es.length then some (.bq b.esz ((b.es.drop off).take len) cap) else none
   | none=>none
  | .nsl .. => none
  | .dsl r off len cap=>
   match g r with
   | some b=>if b.arr=false/\off+len<=b.es.length then (b.es.mapM (view g n)).map λes => .bq b.esz ((es.drop off).take len) cap else none
   | none=>none
  | .ptr r i j=>
   match g r with
   | some b=>if b.arr then some (.iptr b.esz b.es i j) else (b.es.mapM (view g n)).map λes => .iptr b.esz es i j
   | none=>none
  | .fn f a b=>match a.mapM (view g n),b.mapM (view g n) with
   | some a,some b=>some (.fn f a b)
   | _,_=>none
  | .ifc t x=>(view g n x).map (.ifc t)
  | .yld _ | .mp _ | .ch _ | .yM _ | .lp .. => none
def af(g:cL):Nat->AV->List Ref
 | 0,_=>[]
 | n+1,x=>
  match x with
  | .agg cs | .tup cs=>cs.flatMap (af g n)
  | .bA r _ _ _=>[r]
  | .dsl r _ _ _=>r :: (match g r with | some b=>b.es.flatMap (af g n) | none=>[])
  | .ptr r _ _=>r :: (match g r with | some b=>if b.arr then [] else b.es.flatMap (af g n) | none=>[])
  | .fn _ a b=>a.flatMap (af g n)++b.flatMap (af g n)
  | .ifc _ x=>af g n x
  | .mp r=>[r]
  | .ch r=>[r]
  | _=>[]
def flat:Nat->AV->Bool
 | 0,_=>false
 | n+1,x=>
  match x with
  | .v _=>true
  | .agg cs | .tup cs=>cs.all (flat n)
  | .ifc _ x=>flat n x
  | .fn _ a b=>a.all (flat n)&&b.all (flat n)
  | _=>false
def b9(H:aa):List Ref->aa
 | []=>H
 | r :: rs=>match H.get r with
  | some b=>b9 (H.put r (some { b with gB:=true})) rs
  | none=>b9 H rs
def m0(g:cL)(rs:List Ref):Bool:=rs.all λr=>match g r with | some b=>b.gB | none=>false
def depth:Nat:=8
def aL(tm:List AV):Operand->Option AV
 | .tmp t=>some (cX tm t)
 | .const v=>ofValue v
 | .func f=>some (.fn (.func f) [] [])
 | .global _=>none
def tC:AV->Option Int
 | .v (.int _ n)=>some n
 | _=>none
def DU:AV->Option Bool
 | .v (.bool b)=>some b
 | _=>none
def aG:Nat:=140737488355328
def cy(g:cL):AV->Option (Nat × List AV)
 | .v (.string s)=>some (1,s.data.toList.map λb => .v (.int .u8 b.toNat))
 | .bq esz es _=>some (esz,es)
 | .bA r off len _=>match g r with
  | some b=>if b.arr=true/\off+len<=b.es.length then some (b.esz,(b.es.drop off).take len) else none
  | none=>none
 | _=>none
def bounds(len:Nat)(cap:Option Nat)(lo hi a:Option Int):Option (Nat × Nat × Option Nat):=
 match a with
 | some m=>
  match hi with
  | some h=>if 0<=lo.getD 0/\lo.getD 0<=h/\h<=m/\m<=cap.getD len/\h<=len then some ((lo.getD 0).toNat,h.toNat,some (m.toNat - (lo.getD 0).toNat)) else none
  | none=>none
 | none=>if 0<=lo.getD 0/\lo.getD 0<=hi.getD len/\hi.getD len<=len then some ((lo.getD 0).toNat,(hi.getD len).toNat,cap.map (· - (lo.getD 0).toNat)) else none
def mc(tm:List AV):Option Operand->Option (Option Int)
 | none=>some none
 | some o=>match (aL tm o).bind tC with
  | some n=>some (some n)
  | none=>none
def zw(P:Program)(t:TypeId)(cs:List AV)(a:Nat):Option AV:=
 match eI P t,aH P t with
 | some true,some n=>if a+n<=cs.length then some (.agg ((cs.drop a).take n)) else none
 | some false,_=>cs[a]?
 | _,_=>none
def uK(a:Nat->Option (Nat × Nat))(cells:List AV):List (Nat × AV)->Option (List AV)
 | []=>some cells
 | (i,v) :: rest=>
  match a i with
  | none=>none
  | some (off,size)=>
   if v.cells.length=size/\off+size<=cells.length then uK a (patch cells off v.cells) rest else none
def aF(P:Program)(t:TypeId)(i:Nat):Option (Nat × Nat):=
 match rU P t i with
 | some (off,a)=>(aH P a).map λn=>(off,n)
 | none=>none
def iD(P:Program)(t:TypeId):Option (List (Nat × Nat)):=
 match P.underlying t with
 | some (.struct a)=>a.toList.mapM λf=>(P.info? f.type).map λi=>(f.offset,i.size)
 | _=>none
def gN(es:List AV):List (Nat × AV)->Option (List AV)
 | []=>some es
 | (i,v) :: rest=>if i<es.length then gN (es.set i v) rest else none
def gO(tm:List AV)(ps:List (Nat × Operand)):Option (List (Nat × AV)):=
 ps.mapM λ(i,o)=>(aL tm o).map λx=>(i,x)
def vv(P:Program)(op:BinOp)(t:TypeId)(a b:Operand)(x y:Value):Option Value:=
 bD P (do eqGuard op t a b x y;binOp op t x y)
def sT:AV->Option Nat
 | .v (.slice none 0 0)=>some 0
 | .bq _ es _=>some es.length
 | .bA _ _ n _=>some n
 | .dsl _ _ n _=>some n
 | _=>none
def J0(f:Value->Value->Sem Value)(P:Program)(args:List AV):Option AV:=
 match args.mapM Io with
 | some (x :: rest)=>(bD P (rest.foldlM f x)).bind iE
 | _=>none
def byteOf:AV->Option UInt8
 | .v (.int .u8 n)=>some (UInt8.ofNat n.toNat)
 | _=>none
abbrev jl:=Option (AV × List aY)
def jI(x:Option AV):jl:=x.map (·,[])
def Gw(d:Operand->Option AV)(c a b:Operand):jl:=
 match (d c).bind DU with
 | some true=>jI (d a)
 | some false=>jI (d b)
 | none=>none
def uD(P:Program)(r:Ref)(e:TypeId):jl:=
 match eP P e,aH P e with
 | some z,some n=>if z.cells.length=n/\z.cells.all AV.one/\0<n then some (.ptr r 0 0,[⟨n,[z],false,false⟩]) else none
 | _,_=>none
def HU(P:Program)(r:Ref)(e:TypeId)(x:Option AV):jl:=
 match x,aH P e with
 | some x,some n=>if x.cells.length=n/\x.cells.all AV.one/\0<n then some (.ptr r 0 0,[⟨n,[x],false,false⟩]) else none
 | _,_=>none
def nS(P:Program)(t:TypeId)(a:Option (List (Nat × AV))):jl:=
 match eP P t,a with
 | some (.agg z),some a=>
  match mC P t with
  | some (_,e)=>match aH P e with
   | some n=>(uK (λi=>some (i * n,n)) z a).map λcs=>(.agg cs,[])
   | none=>none
  | none=>match iD P t with
   | some ps=>(uK (ps[·]?) z a).map λcs=>(.agg cs,[])
   | none=>none
 | _,_=>none
def cZ(g:cL)(a:List (Nat × AV)):Option (List (Nat × AV)):=a.mapM λ(i,x)=>(view g depth x).map (i,·)
def bH(g:cL)(a:List AV):List Ref:=a.flatMap (af g depth)
def mkSlice(P:Program)(g:cL)(t:TypeId)(n:Nat)(a:List (Nat × AV)):Option aY:=
 match cu P t with
 | none=>none
 | some e=>match cZ g a,eP P e,aH P e with
  | some ws,some z,some s=>
   if 0<s/\n * s<=16777216/\z.cells.length=s/\z.cells.all AV.one/\ws.all (λp=>p.2.cells.length=s&&p.2.cells.all AV.one) then
    (gN (List.replicate n z) ws).map λes=>⟨s,es,true,false⟩
   else none
  | _,_,_=>none
def fT(P:Program)(a:Bool)(g:cL)(r:Ref)(t:TypeId)(n:Nat)(c:Option (List (Nat × AV))):jl:=
 match c with
 | none=>none
 | some c=>if m0 g (bH g (c.map (·.2))) then (mkSlice P g t n c).map λb=>(if a then (.bq b.esz b.es (some n),[]) else (.bA r 0 n (some n),[b])) else none
def nh(P:Program)(g:cL)(t:TypeId)(a:Option AV):jl:=
 match a,eI P t,aH P t with
 | some (.ptr r' i j),some c,some n=>match g r' with
  | some b=>jI (bP b.es i j n c)
  | none=>none
 | some (.iptr _ es i j),some c,some n=>jI (bP es i j n c)
 | _,_,_=>none
def Ln(x:Option AV):jl:=
 match x with
 | some (.ptr r' i j)=>some (.ptr r' i j,[])
 | some (.iptr n es i j)=>some (.iptr n es i j,[])
 | some (.fn (.func f) a b)=>some (.fn (.func f) a b,[])
 | _=>none
def EN:AV->Bool
 | .bq .. | .bA .. | .dsl .. => true
 | _=>false
def jJ:AV->Bool
 | .v (.slice none 0 0)=>true
 | _=>false
def bN(P:Program)(op:BinOp)(t:TypeId)(b a:Operand)(x y:Option AV):jl:=
 match x,y with
 | some x,some y=>
  if EN x&&jJ y||EN y&&jJ x then
   match P.underlying t,op with
   | some (.slice _),.eql=>some (.v (.bool false),[])
   | some (.slice _),.neq=>some (.v (.bool true),[])
   | _,_=>none
  else
   match kr x,kr y with
   | some x,some y=>jI ((vv P op t b a x y).bind iE)
   | _,_=>none
 | _,_=>none
def Xj(P:Program)(op:UnOp)(x:Option AV):jl:=
 jI (((x.bind Io).bind λx=>bD P (Op.unary op x)).bind iE)
def dq(P:Program)(t:TypeId):Bool:=
 match P.underlying t with
 | some (.slice e)=>(match P.underlying e with | some (.int .u8)=>true | _=>false)
 | _=>false
def isStr(P:Program)(t:TypeId):Bool:=match P.underlying t with | some .string=>true | _=>false
def bX(P:Program)(g:cL)(r:Ref)(src dst:TypeId)(x:Option AV):jl:=
 match x with
 | some (.v (.slice none 0 0))=>if dq P src&&isStr P dst then some (.v (.string .empty),[]) else none
 | some (.v (.string s))=>
  if isStr P src&&isStr P dst then some (.v (.string s),[])
  else if isStr P src&&dq P dst then
   (if s.size<=aG then some (.bA r 0 s.size none,[⟨1,s.data.toList.map λb => .v (.int .u8 b.toNat),true,false⟩]) else none)
  else none
 | some (.v x)=>jI ((bD P (Go.convert src dst x)).bind iE)
 | some x=>if dq P src&&isStr P dst then
  match cy g x with
  | some (_,es)=>(es.mapM byteOf).map λl=>(.v (.string ⟨l.toArray⟩),[])
  | none=>none
  else if src == dst&&dq P src then
   match x with
   | .bA r' _ _ _=>(match g r' with
    | some b=>if b.esz=1 then some (x,[]) else none
    | none=>none)
   | _=>none
  else none
 | none=>none
def yc(P:Program)(t:TypeId)(x:Option AV):jl:=
 match P.underlying t with
 | some (.interface _)=>none
 | some _=>x.map λx=>(.ifc t x,[])
 | none=>none
def yL(f:Fn)(first captured:Option (List AV)):jl:=
 match first,captured with
 | some a,some b=>some (.fn f a b,[])
 | _,_=>none
def xk(P:Program)(r:Ref)(t:TypeId)(l c:Option AV):jl:=
 match cu P t,l.bind tC,c.bind tC with
 | some e,some l,some c=>match eP P e,aH P e,gX P e with
  | some z,some s,some b=>
   if 0<=l/\l<=c/\c * b<=aG/\c<=9223372036854775807/\0<s/\z.cells.length=s/\z.cells.all AV.one then some (.bA r 0 l.toNat none,[⟨s,List.replicate l.toNat z,true,false⟩]) else none
  | _,_,_=>none
 | _,_,_=>none
def cm(P:Program)(g:cL)(t:TypeId)(x:Option AV)(lo hi a:Option (Option Int)):jl:=
 match lo,hi,a with
 | some lo,some hi,some a=>
  match x with
  | some (.v (.slice none 0 0))=>if ((cu P t).bind (aH P)).isSome then (bounds 0 (some 0) lo hi a).map λ_=>(.v (.slice none 0 0),[]) else none
  | some (.v (.string s))=>if isStr P t&&a.isNone then (bounds s.size none lo hi none).map λ(l,h,_)=>(.v (.string (s.extract l h)),[]) else none
  | some (.bq esz es cap)=>if (cu P t).bind (aH P)=some esz then (bounds es.length cap lo hi a).map λ(l,h,c)=>(.bq esz ((es.drop l).take (h - l)) c,[]) else none
  | some (.bA r' off len cap)=>(match g r' with
   | some b=>if (cu P t).bind (aH P)=some b.esz then (bounds len cap lo hi a).map λ(l,h,c)=>(.bA r' (off+l) (h - l) c,[]) else none
   | none=>none)
  | some (.dsl r' off len cap)=>(match g r' with
   | some b=>if (cu P t).bind (aH P)=some b.esz then (bounds len cap lo hi a).map λ(l,h,c)=>(.dsl r' (off+l) (h - l) c,[]) else none
   | none=>none)
  | _=>none
 | _,_,_=>none
def lC(P:Program)(g:cL)(t:TypeId)(x:Option AV)(lo hi a:Option (Option Int)):jl:=
 match lo,hi,a,x with
 | some lo,some hi,some none,some (.bA r' off len cap)=>(match g r' with
  | some b=>if (cu P t).bind (aH P)=some b.esz/\0<=lo.getD 0/\lo.getD 0<=hi.getD len/\hi.getD len<=cap.getD len then
   some (.bA r' (off+(lo.getD 0).toNat) ((hi.getD len).toNat - (lo.getD 0).toNat) (cap.map (· - (lo.getD 0).toNat)),[]) else none
  | none=>none)
 | _,_,_,_=>none
def Gx(P:Program)(g:cL)(t:TypeId)(args:List AV):jl:=
 match args,cu P t with
 | [.bA r _ _ _,.bA r' _ _ _],some e=>(match g r,g r',aH P e with
  | some b,some a,some z=>if r≠r'/\1<b.esz/\b.esz=z/\a.esz=z then some (.v (.bool false),[]) else none
  | _,_,_=>none)
 | _,_=>none
def Eh(qC:FuncId->Option TypeId)(a:Bool)(f:Operand):Option TypeId:=match a,f with
 | false,.func b=>qC b
 | _,_=>none
@[simp] def yf(qC:FuncId->Option TypeId)(f:Operand):Eh qC true f=none:=by cases f<;>rfl
def iB(P:Program)(t:TypeId)(x:Option AV)(f:Nat):jl:=
 match aF P t f with
 | some (off,s)=>if 0<s then
  match x with
  | some (.ptr r' i j)=>some (.ptr r' i (j+off),[])
  | some (.iptr n es i j)=>some (.iptr n es i (j+off),[])
  | _=>none
  else none
 | none=>none
def tf(P:Program)(t:TypeId)(x:Option AV)(f:Nat):jl:=
 match rU P t f,x with
 | some (off,a),some (.agg cs)=>jI (zw P a cs off)
 | _,_=>none
def bK(P:Program)(g:cL)(t:TypeId)(x a:Option AV):jl:=
 match a.bind tC with
 | some k=>
  match cu P t with
  | some e=>match x,aH P e with
   | some (.bq esz es _),some s=>if 0<=k/\k<es.length/\s=esz then some (.iptr esz es k.toNat 0,[]) else none
   | some (.bA r' off len _),some s=>(match g r' with
    | some b=>if 0<=k/\k<len/\s=b.esz then some (.ptr r' (off+k.toNat) 0,[]) else none
    | none=>none)
   | some (.dsl r' off len _),some s=>(match g r' with
    | some b=>if 0<=k/\k<len/\s=b.esz then some (.ptr r' (off+k.toNat) 0,[]) else none
    | none=>none)
   | _,_=>none
  | none=>match mC P t with
   | some (n,e)=>match x,aH P e with
    | some (.ptr r' i j),some s=>if 0<=k/\k<n then some (.ptr r' i (j+k.toNat * s),[]) else none
    | some (.iptr esz es i j),some s=>if 0<=k/\k<n then some (.iptr esz es i (j+k.toNat * s),[]) else none
    | _,_=>none
   | none=>none
 | none=>none
def vT(P:Program)(t:TypeId)(x a:Option AV):jl:=
 match a.bind tC,x with
 | some k,some (.agg cs)=>(match mC P t with
  | some (n,e)=>(match aH P e with
   | some s=>if 0<=k/\k<n then jI (zw P e cs (k.toNat * s)) else none
   | none=>none)
  | none=>none)
 | some k,some (.v (.string s))=>if isStr P t/\0<=k then jI ((s[k.toNat]?).map λb => .v (.int .u8 b.toNat)) else none
 | _,_=>none
def Ad(P:Program)(x:Option AV)(a:TypeId)(ok:Bool):jl:=
 match P.underlying a,x with
 | some (.interface _),_=>none
 | some _,some (.ifc t y)=>
  if t=a then some ((if ok then .tup [y,.v (.bool true)] else y),[])
  else if ok then (eP P a).map λz=>(.tup [z,.v (.bool false)],[]) else none
 | some _,some (.v .nilIface)=>if ok then (eP P a).map λz=>(.tup [z,.v (.bool false)],[]) else none
 | _,_=>none
def sP(x:Option AV)(i:Nat):jl:=
 match x with
 | some (.tup a)=>jI (a[i]?)
 | _=>none
def oV(a:List AV):aY:=⟨0,.v (.bool true) :: a,false,false⟩
def ni(g:cL)(r:Ref):Option (List AV):=match g r with
 | some ⟨0,.v (.bool true) :: a,false,_⟩=>some a
 | _=>none
def Hh(cap:Nat)(b:Bool)(a:List AV):aY:=⟨0,.v (.bool false) :: .v (.int .i64 cap) :: .v (.bool b) :: a,false,false⟩
def Vl(g:cL)(r:Ref):Option (Nat × Bool × List AV):=match g r with
 | some ⟨0,.v (.bool false) :: .v (.int .i64 cap) :: .v (.bool a) :: buf,false,_⟩=>some (cap.toNat,a,buf)
 | _=>none
def KV(P:Program)(t:TypeId):Option TypeId:=match P.underlying t with
 | some (.chan _ e)=>some e
 | _=>none
def Np(P:Program)(t:TypeId):Option (TypeId × TypeId):=match P.underlying t with
 | some (.map k e)=>some (k,e)
 | _=>none
def Hf:AV->Option Value
 | .tup [k,_]=>kr k
 | _=>none
def Ka:AV->Option AV
 | .tup [_,v]=>some v
 | _=>none
def Cv(P:Program)(a:Bool)(b:TypeId)(k:Value)(c:List Value):Option (Option Nat):=
 match bD P (Instr.checkKey a 10000 b k) with
 | some _=>(bD P (Instr.findKey b k (c.map λx=>⟨x,Go.undef,0⟩))).map λo=>o.map (·.1)
 | none=>none
def oo(P:Program)(g:cL)(t:TypeId)(x k:Option AV)(ok:Bool):jl:=
 match Np P t,x,k.bind kr with
 | some (d,c),some (.mp r),some e=>(match ni g r with
  | some a=>(match a.mapM Hf with
   | some b=>(match Cv P b.isEmpty d e b with
    | some (some i)=>(a[i]?.bind Ka).map λv=>((if ok then .tup [v,.v (.bool true)] else v),[])
    | some none=>(eP P c).map λz=>((if ok then .tup [z,.v (.bool false)] else z),[])
    | none=>none)
   | none=>none)
  | none=>none)
 | _,_,_=>none
def Ac(P:Program)(g:cL)(t:Option TypeId)(r:Ref):jl:=
 match t.bind (Np P),ni g r with
 | some _,some a=>some (.v (.int .i64 a.length),[])
 | _,_=>none
def Pm:Value->Value->Bool
 | .bool a,.bool b=>a == b
 | .int k n,.int k' c=>decide (k=k')&&decide (n=c)
 | .string s,.string t=>decide (s=t)
 | .slice none a b,.slice none e d=>Nat.beq a e&&Nat.beq b d
 | .nilFunc,.nilFunc=>true
 | .nilIface,.nilIface=>true
 | _,_=>false
def I3:Nat->AV->AV->Bool
 | 0,_,_=>false
 | n+1,x,y=>
  match x,y with
  | .v u,.v v=>Pm u v
  | .agg cs,.agg ds=>Nat.beq cs.length ds.length&&(cs.zip ds).all λp=>I3 n p.1 p.2
  | .bq z es c,.bq a es' c'=>Nat.beq z a&&decide (c=c')&&Nat.beq es.length es'.length&&(es.zip es').all λp=>I3 n p.1 p.2
  | _,_=>false
def Gn(r r':Ref):Bool:=Nat.beq r.t r'.t&&Nat.beq r.g r'.g&&Nat.beq r.d r'.d&&Nat.beq r.k r'.k
def A0:Nat->AV->AV->Bool
 | 0,_,_=>false
 | n+1,x,y=>
  match x,y with
  | .v u,.v v=>Pm u v
  | .agg cs,.agg ds=>Nat.beq cs.length ds.length&&(cs.zip ds).all λp=>A0 n p.1 p.2
  | .tup cs,.tup ds=>Nat.beq cs.length ds.length&&(cs.zip ds).all λp=>A0 n p.1 p.2
  | .bq z es c,.bq h es' c'=>Nat.beq z h&&decide (c=c')&&Nat.beq es.length es'.length&&(es.zip es').all λp=>A0 n p.1 p.2
  | .bA r a b c,.bA r' e d c'=>Gn r r'&&Nat.beq a e&&Nat.beq b d&&decide (c=c')
  | .dsl r a b c,.dsl r' e d c'=>Gn r r'&&Nat.beq a e&&Nat.beq b d&&decide (c=c')
  | .ptr r i j,.ptr r' g m=>Gn r r'&&Nat.beq i g&&Nat.beq j m
  | .mp r,.mp r'=>Gn r r'
  | .ch r,.ch r'=>Gn r r'
  | .fn (.func f) a b,.fn (.func l) e d=>Nat.beq f l&&(Nat.beq a.length e.length&&(a.zip e).all λp=>A0 n p.1 p.2)&&(Nat.beq b.length d.length&&(b.zip d).all λp=>A0 n p.1 p.2)
  | .ifc t x,.ifc t' k=>Nat.beq t t'&&A0 n x k
  | _,_=>false
def Kl(k k':aY):Bool:=Nat.beq k.esz k'.esz&&k.arr == k'.arr&&k.gB == k'.gB&&Nat.beq k.es.length k'.es.length&&(k.es.zip k'.es).all λp=>A0 8 p.1 p.2
def GW(H H':aa):Bool:=H.all λp=>match H.get p.1 with
 | none=>true
 | some k=>match H'.get p.1 with
  | none=>false
  | some k'=>Kl k k'
def UD(a ys:List AV):Bool:=Nat.beq a.length ys.length&&(a.zip ys).all λp=>I3 8 p.1 p.2
def J1:List (FuncId × List AV × AV)->FuncId->List AV->Option AV
 | [],_,_=>none
 | (g,xs,y) :: T,f,args=>if Nat.beq g f&&UD xs args then some y else J1 T f args
def aj(r:Ref):Nat->AV->List aY->AV × List aY
 | 0,x,bs=>(x,bs)
 | n+1,x,bs=>
  match x with
  | .fsl esz es cap=>if esz=0 then (.mp { r with k:=bs.length},bs++[⟨0,es,false,false⟩]) else (.bA { r with k:=bs.length} 0 es.length cap,bs++[⟨esz,es,true,false⟩])
  | .nsl esz es cap=>let (ys,bs):=es.foldl (λ(p:List AV × List aY) c=>let (y,bs):=aj r n c p.2;(p.1++[y],bs)) ([],bs);(.dsl { r with k:=bs.length} 0 es.length cap,bs++[⟨esz,ys,false,false⟩])
  | .agg cs=>let (ys,bs):=cs.foldl (λ(p:List AV × List aY) c=>let (y,bs):=aj r n c p.2;(p.1++[y],bs)) ([],bs);(.agg ys,bs)
  | .tup cs=>let (ys,bs):=cs.foldl (λ(p:List AV × List aY) c=>let (y,bs):=aj r n c p.2;(p.1++[y],bs)) ([],bs);(.tup ys,bs)
  | .ifc t x=>let (y,bs):=aj r n x bs;(.ifc t y,bs)
  | x=>(x,bs)
inductive tE where
 | fn (f:FuncId)
 | yld (r:Ref)
def tg(m:Nat):Bool:=m == 1||m == 3
def Cm:Nat->AV->Bool
 | 0,_=>false
 | n+1,x=>
  match x with
  | .v _=>true
  | .agg cs | .tup cs=>cs.all (Cm n)
  | .fsl z es _=>z != 0&&es.all (flat depth)
  | .bq _ es _=>es.isEmpty
  | .ifc _ x=>Cm n x
  | _=>false
structure ML where
 f:aa->aa->Bool
 ok : ∀H H',f H H'=true ->∀q k,H.get q=some k->H'.get q=some k
def N9:ML:=⟨λ_ _=>false,λ_ _ h=>by cases h⟩
structure Env where
 P:Program
 strict:Oper->Bool
 apart:Array Oper->List (Tmp × Tmp)
 mode:FuncId->Nat
 allowed:FuncId->Bool
 spec:FuncId->List AV->Option AV
 ok:Array Oper->Bool:=λ_=>true
 gB:Oper->Bool:=λ_=>false
 wide:Oper->Bool:=λ_=>false
 qC:FuncId->Option TypeId:=λ_=>none
 thrSpec:FuncId->List AV->aa->Option (AV × aa):=λ_ _ _=>none
 sm:ML:=N9
 deep:Oper->Bool:=λ_=>false
def kT(E:Env)(pc:FuncId->List AV->Option AV)(g:cL)(r:Ref)(f:Option AV)(args:List AV):jl:=
 match f with
 | some (.fn (.func a) first captured)=>
  if E.mode a=2 then none else
  match (first++args++captured).mapM (view g depth) with
  | some xs=>match pc a xs with
   | some y=>if flat depth y||m0 g (bH g (first++args++captured))||(E.mode a == 3&&Cm depth y) then some (aj r depth y []) else none
   | none=>none
  | none=>none
 | _=>none
def HR(P:Program)(t:Option TypeId)(x:AV):jl:=
 match t with
 | none=>none
 | some t=>match mC P t with
  | some (n,_)=>some (.v (.int .i64 n),[])
  | none=>if isStr P t then (match x with | .v (.string s)=>some (.v (.int .i64 s.size),[]) | _=>none)
   else if (cu P t).isSome then (sT x).map λn=>(.v (.int .i64 n),[]) else none
def md(P:Program)(g:cL)(e:TypeId)(x:AV):Option (Nat × List AV):=
 match x with
 | .v (.slice none 0 0)=>(aH P e).map λz=>(z,[])
 | .v (.int _ n)=>match eP P e,aH P e with
  | some w,some z=>if 0<=n/\n<=aG/\w.cells.length=z/\w.cells.all AV.one then some (z,List.replicate n.toNat w) else none
  | _,_=>none
 | x=>cy g x
def isNum:AV->Bool
 | .v (.int _ _)=>true
 | _=>false
def isInt(P:Program)(t:TypeId):Bool:=match P.underlying t with | some (.int _)=>true | _=>false
def ei(P:Program)(g:cL)(r:Ref)(t t':Option TypeId)(s x:AV):jl:=
 match t.bind (cu P) with
 | none=>none
 | some e=>
  if (t'.bind P.underlying).isNone\/(t'.map (isInt P)).getD false≠isNum x then none else
  match aH P e,gX P e,eP P e,md P g e x with
  | some z,some by',some zz,some (a,new)=>
   if a≠z\/z=0\/by'=0\/zz.cells.length≠z then none else
   match s with
   | .v (.slice none 0 0)=>if new=[] then some (s,[]) else if new.length * by'<=aG then some (.bA r 0 new.length none,[⟨z,new,true,false⟩]) else none
   | .bq n es cap=>if n≠z then none else if new=[] then some (s,[]) else
    match cap with
    | some k=>if k<es.length+new.length/\(es.length+new.length) * by'<=aG then some (.bA r 0 (es.length+new.length) none,[⟨z,es++new,true,false⟩]) else none
    | none=>none
   | .bA r' off len cap=>(match g r' with
    | some b=>if b.esz≠z\/b.arr=false then none else if new=[] then some (s,[]) else
     (match cap with
     | some k=>if off+len<=b.es.length/\k<len+new.length/\(len+new.length) * by'<=aG then
      some (.bA r 0 (len+new.length) none,[⟨z,(b.es.drop off).take len++new,true,false⟩]) else none
     | none=>none)
    | none=>none)
   | _=>none
  | _,_,_,_=>none
def Xn(P:Program)(t:Option TypeId)(x:AV):jl:=
 match t.bind (cu P),x with
 | some _,.v (.slice none 0 0)=>some (.v (.int .i64 0),[])
 | some _,.bq _ _ (some k)=>some (.v (.int .i64 k),[])
 | some _,.bA _ _ _ (some k)=>some (.v (.int .i64 k),[])
 | _,_=>none
def cO(P:Program)(a:Bool)(g:cL)(r:Ref)(b:Builtin)(c:Array TypeId)(args:List AV):jl:=
 match b,args with
 | .len,[.mp r']=>if a then none else Ac P g c[0]? r'
 | .len,[x]=>HR P c[0]? x
 | .min,args=>jI (J0 Builtin.min2 P args)
 | .max,args=>jI (J0 Builtin.max2 P args)
 | .append,[s,x]=>ei P g r c[0]? c[1]? s x
 | .cap,[x]=>Xn P c[0]? x
 | _,_=>none
def OA(b:Bool)(bs:List aY):List aY:=if b then bs.map (λk => { k with gB:=true}) else bs
def cI(E:Env)(pc:FuncId->List AV->Option AV)(d:Bool)(g:cL)(tm:List AV)(r:Ref)(o:Oper):jl:=
 match o.op with
 | .move x | .assign x=>jI (aL tm x)
 | .pick c a b=>Gw (aL tm) c a b
 | .alloc e=>uD E.P r e
 | .box e x=>HU E.P r e (aL tm x)
 | .build t ps=>nS E.P t (gO tm ps.toList)
 | .buildSlice t n ps=>fT E.P (d && !E.strict o) g r t n (gO tm ps.toList)
 | .load t a=>nh E.P g t (aL tm a)
 | .nilCheck x=>Ln (aL tm x)
 | .binOp op t q m _=>bN E.P op t q m (aL tm q) (aL tm m)
 | .unOp op _ x=>Xj E.P op (aL tm x)
 | .convert src dst x=>bX E.P g r src dst (aL tm x)
 | .makeInterface t x=>yc E.P t (aL tm x)
 | .makeFunc f first captured=>yL f (first.toList.mapM (aL tm)) (captured.toList.mapM (aL tm))
 | .makeSlice t l c=>xk E.P r t (aL tm l) (aL tm c)
 | .makeMap _ none=>some (.mp r,[oV []])
 | .lookup t x k ok=>oo E.P g t (aL tm x) (aL tm k) ok
 | .slice t x lo hi j=>cond (E.wide o && !d) (lC E.P g t (aL tm x) (mc tm lo) (mc tm hi) (mc tm j)) (cm E.P g t (aL tm x) (mc tm lo) (mc tm hi) (mc tm j))
 | .fieldAddr t x f=>iB E.P t (aL tm x) f
 | .field t x f=>tf E.P t (aL tm x) f
 | .indexAddr t x ix=>bK E.P g t (aL tm x) (aL tm ix)
 | .index t x ix=>vT E.P t (aL tm x) (aL tm ix)
 | .typeAssert x _ h ok=>Ad E.P (aL tm x) h ok
 | .extract x i=>sP (aL tm x) i
 | .call c=>
  match c.args.toList.mapM (aL tm) with
  | none=>none
  | some args=>
   match c.callee with
   | .value f=>(match Eh E.qC d f with
    | some t=>Gx E.P g t args
    | none=>(kT E pc g r (aL tm f) args).map λp=>(p.1,OA (E.gB o) p.2))
   | .invoke _ _=>none
   | .builtin b=>cO E.P (d&&(E.strict o || !(match c.args.toList with | [.tmp _]=>true | _=>false))) g r b c.argTypes args
 | _=>none
def keyed(r:Ref):Nat->List aY->aa->aa
 | _,[],g=>g
 | k,b :: bs,g=>keyed r (k+1) bs (({ r with k:=k},some b) :: g)
abbrev cJ:=Option (AV × aa)
def iV(P:Program)(H:aa)(t:TypeId)(a x:Option AV):cJ:=
 match a,x,aH P t with
 | some (.ptr r' i j),some x,some n=>
  match H.get r' with
  | some b=>
   if x.cells.length=n/\x.cells.all AV.one/\b.gB=false then
    (if b.arr=true then
     match view H.get depth x with
     | some y=>if r'∈af H.get depth x then none else if y.cells.all AV.one=true then (gr b.es i j y.cells).map λes=>(AV.undef,(b9 H (af H.get depth x)).put r' (some { b with es})) else none
     | none=>none
    else (gr b.es i j x.cells).map λes=>(AV.undef,H.put r' (some { b with es})))
   else none
  | none=>none
 | _,_,_=>none
def jH(P:Program)(H:aa)(r:Ref)(t:TypeId)(n:Nat)(a:Option (List (Nat × AV))):cJ:=
 match a with
 | none=>none
 | some a=>(mkSlice P H.get t n a).map λb=>(.bA r 0 n (some n),(r,some b) :: b9 H (bH H.get (a.map (·.2))))
def nc(E:Env)(pc:FuncId->List AV->Option AV)(tc:tE->List AV->aa->cJ)(H:aa)(r:Ref)(f:Option AV)(args:List AV):cJ:=
 match f with
 | some (.fn (.func g) first captured)=>
  if E.mode g=2 then tc (.fn g) (first++args++captured) H else
  match (first++args++captured).mapM (view H.get depth) with
  | some xs=>(pc g xs).map λy=>((aj r depth y []).1,keyed r 0 (aj r depth y []).2 (b9 H (bH H.get (first++args++captured))))
  | none=>none
 | some (.yld q)=>tc (.yld q) args H
 | _=>none
def rD(b:Bool)(sm:ML)(H:aa)(x:cJ):cJ:=match b,x with
 | true,some (y,H')=>if flat depth y&&(GW H H'||sm.f H H') then some (y,H) else none
 | _,x=>x
def jU(P:Program)(H:aa)(t t':Option TypeId)(s x:AV):cJ:=
 match t.bind (cu P) with
 | none=>none
 | some e=>
  if (t'.bind P.underlying).isNone\/(t'.map (isInt P)).getD false≠isNum x then none else
  match aH P e,gX P e,eP P e,md P H.get e x with
  | some z,some by',some zz,some (a,new)=>
   if a≠z\/z=0\/by'=0\/new=[]\/zz.cells.length≠z then none else
   match s with
   | .bA r' off len none=>(match H.get r' with
    | some b=>if off=0/\b.arr=true/\b.esz=z/\len=b.es.length/\(len+new.length) * by'<=aG then
     some (.bA ⟨r'.d,r'.t,H.gen r'.d r'.t,0⟩ 0 (len+new.length) none,(⟨r'.d,r'.t,H.gen r'.d r'.t,0⟩,some ⟨z,b.es++new,true,b.gB⟩) :: H.put r' none) else none
    | none=>none)
   | _=>none
  | _,_,_,_=>none
def zi(P:Program)(H:aa)(t:Option TypeId)(dst x:AV):cJ:=
 match t.bind (cu P) with
 | none=>none
 | some e=>match aH P e with
  | none=>none
  | some z=>match (if jJ x then some (z,[]) else cy H.get x) with
   | none=>none
   | some (a,src)=>if a≠z\/z=0 then none else
    match dst with
    | .v (.slice none 0 0)=>some (.v (.int .i64 0),H)
    | .bA r' off len _=>(match H.get r' with
     | some b=>
      if b.arr=true/\b.esz=z/\b.gB=false/\off+len<=b.es.length then
       some (.v (.int .i64 (Nat.min src.length len:Nat)),H.put r' (some { b with es:=b.es.take off++src.take (Nat.min src.length len)++b.es.drop (off+Nat.min src.length len)})) else none
     | none=>none)
    | _=>none
def uh(P:Program)(H:aa)(t:Option TypeId)(dst x:AV):cJ:=
 match (t.bind (cu P)).bind (aH P),dst,x with
 | some z,.bA r off len _,.bA r2 a yn _=>(match H.get r,H.get r2 with
  | some b,some b2=>
   if b.arr=true/\b2.arr=true/\b.esz=z/\b2.esz=z/\0<z/\b.gB=false/\off<=b.es.length/\a+Nat.min yn len<=b2.es.length then
    some (.v (.int .i64 (Nat.min yn len:Nat)),H.put r (some { b with es:=b.es.take off++(b2.es.drop a).take (Nat.min yn len)++b.es.drop (off+Nat.min yn len)})) else none
  | _,_=>none)
 | _,_,_=>none
def jn(P:Program)(H:aa)(t:TypeId)(m k x:Option AV):cJ:=
 match Np P t,m,k,x with
 | some (d,_),some (.mp r),some k,some x=>(match kr k,ni H.get r with
  | some b,some a=>(match a.mapM Hf with
   | some c=>(match Cv P false d b c with
    | some (some i)=>if ((c[i]?).map λe=>Instr.sameBits 10000 e b)=some true then some (AV.undef,H.put r (some (oV (a.set i (.tup [k,x]))))) else none
    | some none=>some (AV.undef,H.put r (some (oV (a++[.tup [k,x]]))))
    | none=>none)
   | none=>none)
  | _,_=>none)
 | _,_,_,_=>none
def pG(P:Program)(H:aa)(t:TypeId)(m k:Option AV):cJ:=
 match Np P t,m,k with
 | some (e,d),some (.mp r),some k=>(match kr k,ni H.get r with
  | some b,some a=>(match a.mapM Hf with
   | some c=>(match Cv P false e b c with
    | some (some i)=>if ((c[i]?).map λf=>Instr.sameBits 10000 f b)=some true then (a[i]?.bind Ka).map λv=>(.tup [v,.v (.int .i64 i)],H.put r (some (oV (a.set i (.tup [k,v]))))) else none
    | some none=>(eP P d).map λz=>(.tup [z,.v (.int .i64 a.length)],H.put r (some (oV (a++[.tup [k,z]]))))
    | none=>none)
   | none=>none)
  | _,_=>none)
 | _,_,_=>none
def la(H:aa)(m s x:Option AV):cJ:=
 match m,s,x with
 | some (.mp r),some (.v (.int _ n)),some x=>(match ni H.get r with
  | some a=>if 0<=n then (match a[n.toNat]? with
   | some (.tup [k,_])=>some (AV.undef,H.put r (some (oV (a.set n.toNat (.tup [k,x])))))
   | _=>none) else none
  | none=>none)
 | _,_,_=>none
def zY(P:Program)(H:aa)(r:Ref)(t:TypeId)(n:Option AV):cJ:=
 match n,(KV P t).bind (gX P) with
 | some (.v (.int _ n)),some b=>if 0<=n/\n<=1000000/\b<=1000000 then some (.ch r,keyed r 0 [Hh n.toNat false []] H) else none
 | _,_=>none
def FF(H:aa)(c x:Option AV):cJ:=
 match c,x with
 | some (.ch r),some x=>(match Vl H.get r with
  | some (cap,false,buf)=>if buf.length<cap/\flat depth x=true then some (AV.undef,H.put r (some (Hh cap false (buf++[x])))) else none
  | _=>none)
 | _,_=>none
def abD(ok:Bool)(x:AV)(b:Bool):AV:=if ok then .tup [x,.v (.bool b)] else x
def Im(P:Program)(H:aa)(t:TypeId)(c:Option AV)(ok:Bool):cJ:=
 match c,(KV P t).bind (eP P) with
 | some (.ch r),some z=>(match Vl H.get r with
  | some (cap,a,x :: buf)=>some (abD ok x true,H.put r (some (Hh cap a buf)))
  | some (_,true,[])=>some (abD ok z false,H)
  | _=>none)
 | _,_=>none
def tF(P:Program)(H:aa)(r:Ref)(t:TypeId)(n:Nat)(a:Option (List (Nat × AV))):cJ:=
 match a,cu P t with
 | some [(0,.agg cs)],some e=>(match eP P e,aH P e with
  | some z,some s=>if n=1/\0<s/\s<=16777216/\z.cells.length=s/\z.cells.all AV.one=true/\cs.length=s/\cs.all AV.one=true then some (.dsl r 0 1 (some 1),(r,some ⟨s,[.agg cs],false,false⟩) :: H) else none
  | _,_=>none)
 | _,_=>none
def AF(P:Program)(H:aa)(r:Ref)(t t':Option TypeId)(s x:AV):cJ:=
 match t.bind (cu P),x with
 | some e,.dsl rx 0 m _=>
  if (t'.bind P.underlying).isNone\/(t'.map (isInt P)).getD false≠false then none else
  (match aH P e,gX P e,eP P e,H.get rx with
  | some z,some by',some zz,some a=>
   if a.arr=true\/a.esz≠z\/z=0\/by'=0\/a.es=[]\/zz.cells.length≠z\/m≠a.es.length then none else
   (match s with
   | .v (.slice none 0 0)=>if m * by'<=aG then some (.dsl r 0 m none,(r,some ⟨z,a.es,false,false⟩) :: H.put rx none) else none
   | .dsl r' 0 len none=>(match H.get r' with
    | some b=>if b.arr=false/\b.esz=z/\len=b.es.length/\r'≠rx/\(len+m) * by'<=aG then
     some (.dsl ⟨r'.d,r'.t,H.gen r'.d r'.t,0⟩ 0 (len+m) none,(⟨r'.d,r'.t,H.gen r'.d r'.t,0⟩,some ⟨z,b.es++a.es,false,b.gB⟩) :: (H.put rx none).put r' none) else none
    | none=>none)
   | _=>none)
  | _,_,_,_=>none)
 | _,_=>none
def Et(E:Env)(a:Bool)(H:aa)(tm:List AV)(r:Ref)(o:Oper):Option cJ:=
 if a || !E.deep o then none else
 match o.op with
 | .buildSlice t n ps=>some (tF E.P H r t n (gO tm ps.toList))
 | .call c=>(match c.callee with
  | .builtin .append=>some (match c.args.toList.mapM (aL tm) with
   | some [s,x]=>AF E.P H r c.argTypes[0]? c.argTypes[1]? s x
   | _=>none)
  | _=>none)
 | _=>none
def Qa:Op->Bool
 | .send .. | .recv .. => true
 | _=>false
def evalW(E:Env)(pc:FuncId->List AV->Option AV)(tc:tE->List AV->aa->cJ)(H:aa)(tm:List AV)(r:Ref)(o:Oper):cJ:=
 match o.op with
 | .store t a x=>iV E.P H t (aL tm a) (aL tm x)
 | .mapUpdate t m k x | .insert t m k x=>jn E.P H t (aL tm m) (aL tm k) (aL tm x)
 | .mapEntry t m k=>pG E.P H t (aL tm m) (aL tm k)
 | .entryStore _ m s x=>la H (aL tm m) (aL tm s) (aL tm x)
 | .buildSlice t n ps=>jH E.P H r t n (gO tm ps.toList)
 | .makeChan t n=>zY E.P H r t (aL tm n)
 | .send c x=>FF H (aL tm c) (aL tm x)
 | .recv t c ok=>Im E.P H t (aL tm c) ok
 | .call c=>
  match c.args.toList.mapM (aL tm) with
  | none=>none
  | some args=>
   match c.callee with
   | .value f=>rD (E.gB o) E.sm H (nc E pc tc H r (aL tm f) args)
   | .invoke _ _=>none
   | .builtin b=>
    match b,args with
    | .append,[s,x]=>jU E.P H c.argTypes[0]? c.argTypes[1]? s x
    | .copy,[dst,x]=>cond (E.wide o) (uh E.P H c.argTypes[0]? dst x) (zi E.P H c.argTypes[0]? dst x)
    | _,_=>none
 | _=>none
def wanted(ops:Array Oper)(tm:List AV)(o:Oper):Option Bool:=
 match o.guard with
 | none=>some true
 | some (j,a)=>
  match (ops[j]?).bind (·.dst) with
  | some t=>(match cX tm t with
   | .v (.bool b)=>some (b == a)
   | .v (.tuple c)=>if c.isEmpty then some false else none
   | _=>none)
  | none=>some false
def Z6(E:Env):Op->Bool
 | .store .. | .mapUpdate .. | .insert .. | .mapEntry .. | .entryStore .. => true
 | .call c=>match c.callee with
  | .builtin .append | .builtin .copy=>true
  | .value (.func g)=>E.mode g == 2
  | .value (.tmp _)=>true
  | _=>false
 | _=>false
def Aw:Op->Bool
 | .buildSlice .. => true
 | _=>false
def jj(E:Env)(o:Oper):Bool:=(!E.strict o&&Z6 E o.op)||(E.gB o&&Aw o.op)
def dg(nt:Nat)(tm:List AV)(dst:Option Tmp)(x:AV):Option (List AV):=
 match dst with
 | none=>some tm
 | some d=>if d<nt then some (Bx tm d x) else none
def evalOp(E:Env)(pc:FuncId->List AV->Option AV)(tc:tE->List AV->aa->cJ)(nt dep:Nat)(a:Bool)(ops:Array Oper)(o:Oper)(st:St):Option St:=
 match wanted ops st.tm o with
 | none=>none
 | some false=>(dg nt st.tm o.dst AV.undef).map λtm => { st with tm}
 | some true=>
  match cI E pc a st.hp.get st.tm ⟨dep,o.dst.getD 0,st.hp.gen dep (o.dst.getD 0),0⟩ o with
  | some (x,bs)=>(dg nt st.tm o.dst x).map λtm=>⟨tm,keyed ⟨dep,o.dst.getD 0,st.hp.gen dep (o.dst.getD 0),0⟩ 0 bs st.hp⟩
  | none=>
   if a && !jj E o then none else
   match evalW E pc tc st.hp st.tm ⟨dep,o.dst.getD 0,st.hp.gen dep (o.dst.getD 0),0⟩ o with
   | some (x,H)=>(dg nt st.tm o.dst x).map λtm=>⟨tm,H⟩
   | none=>none
def yQ(E:Env)(pc:FuncId->List AV->Option AV)(tc:tE->List AV->aa->cJ)(nt dep:Nat)(a:Bool)(ops:Array Oper)(o:Oper)(st:St):Option St:=
 match Et E a st.hp st.tm ⟨dep,o.dst.getD 0,st.hp.gen dep (o.dst.getD 0),0⟩ o with
 | none=>evalOp E pc tc nt dep a ops o st
 | some w=>(match wanted ops st.tm o with
  | none=>none
  | some false=>(dg nt st.tm o.dst AV.undef).map λtm => { st with tm}
  | some true=>(match w with
   | some (x,H)=>(dg nt st.tm o.dst x).map λtm=>⟨tm,H⟩
   | none=>none))
def OF{E:Env}{pc:FuncId->List AV->Option AV}{tc:tE->List AV->aa->cJ}{nt dep:Nat}{ops:Array Oper}{o:Oper}{st:St}:yQ E pc tc nt dep true ops o st=evalOp E pc tc nt dep true ops o st:=rfl
def nw(E:Env)(pc:FuncId->List AV->Option AV)(tc:tE->List AV->aa->cJ)(nt dep:Nat)(a:Bool)(ops:Array Oper):List Oper->St->Option St
 | [],st=>some st
 | o :: rest,st=>match yQ E pc tc nt dep a ops o st with
  | some st'=>nw E pc tc nt dep a ops rest st'
  | none=>none
def lN(P:Program)(st:St):ResultVar->Option AV
 | .tmp t=>some (cX st.tm t)
 | .cell a t=>match cX st.tm a,eI P t,aH P t with
  | .ptr r i j,some g,some n=>match st.hp.get r with
   | some b=>bP b.es i j n g
   | none=>none
  | _,_,_=>none
def xi(P:Program)(fn:Func)(st:St):Option AV:=
 match fn.results.toList.mapM (lN P st) with
 | some []=>some (.v (.tuple #[]))
 | some [x]=>some x
 | some xs=>some (.tup xs)
 | none=>none
def codeOk(ok:Array Oper->Bool):Code->Bool
 | .region _ ops draw => !draw||ok ops
 | .seq a b | .cond _ a b=>codeOk ok a&&codeOk ok b
 | .block _ c | .loop c | .scope c=>codeOk ok c
 | .rangeFunc _ _ a b=>codeOk ok a&&codeOk ok b
 | _=>true
def nZ(ok:Array Oper->Bool):Item->Bool
 | .code c | .inLoop c=>codeOk ok c
 | _=>true
def tl(E:Env)(run:Option Ref->Nat->Nat->List Item->St->Option St)(dep:Nat)(f:FuncId)(args:List AV)(H:aa):Option (AV × aa):=
 if E.allowed f then
  match E.P.funcs[f]? with
  | some fn=>match fn.body with
   | some c=>if args.length<=fn.ntmps then
    match run none fn.ntmps dep [.code c] ⟨args,H⟩ with
    | some st=>(xi E.P fn st).map (·,st.hp)
    | none=>none
    else none
   | none=>none
  | none=>none
 else none
def bJ(g:cL):Nat->AV->Option AV
 | 0,_=>none
 | n+1,x=>
  match x with
  | .agg cs=>(cs.mapM (bJ g n)).map .agg
  | .tup cs=>(cs.mapM (bJ g n)).map .tup
  | .ifc t x=>(bJ g n x).map (.ifc t)
  | .bA r 0 len cap=>
   match g r with
   | some b=>if b.arr=true/\len<=b.es.length then some (if b.gB then .bq b.esz (b.es.take len) cap else .fsl b.esz (b.es.take len) cap) else none
   | none=>none
  | .dsl r 0 len cap=>
   match g r with
   | some b=>if b.arr=false/\len=b.es.length then (if b.gB then (b.es.mapM (view g n)).map λes => .bq b.esz es cap else (b.es.mapM (bJ g n)).map λes => .nsl b.esz es cap) else none
   | none=>none
  | .mp r=>
   match ni g r with
   | some a=>if a.all (flat depth) then some (.fsl 0 (.v (.bool true) :: a) none) else none
   | none=>none
  | x=>view g (n+1) x
def cY(E:Env)(run:Option Ref->Nat->Nat->List Item->St->Option St)(f:FuncId)(args:List AV):Option AV:=
 match E.spec f args with
 | some y=>some y
 | none=>match tl E run 0 f args [] with
  | some (x,H)=>if tg (E.mode f)=true then (if (af H.get depth x).Nodup then bJ H.get depth x else none) else view H.get depth x
  | none=>none
def dW(st:Nat)(a:AV):aY:=⟨0,[.v (.int .i64 st),a],false,false⟩
def xq(H:aa)(r:Ref):Option (Nat × AV):=match H.get r with
 | some ⟨0,[.v (.int .i64 st),inf],_,_⟩=>some (st.toNat,inf)
 | _=>none
def uA(tm:List AV):List Tmp->List AV->List AV
 | t :: a,x :: xs=>uA (Bx tm t x) a xs
 | _,_=>tm
def Aa(E:Env)(run:Option Ref->Nat->Nat->List Item->St->Option St)(dep:Nat)(r:Ref)(args:List AV)(H:aa):Option (AV × aa):=
 match xq H r with
 | some (0,.lp f nt ps assign body tm)=>
  if args.length=ps.length/\ps.all (· < nt)=true/\codeOk E.ok assign=true/\codeOk E.ok body=true then
   (match run (some r) nt dep [.code assign,.beginRound,.code body] ⟨uA tm ps args,H⟩ with
   | some st=>(match xq st.hp r with
    | some (0,_)=>some (.v (.bool true),st.hp)
    | some (n+2,_)=>some (.v (.bool false),st.hp)
    | _=>none)
   | none=>none)
  else none
 | _=>none
def eG(E:Env)(run:Option Ref->Nat->Nat->List Item->St->Option St)(dep:Nat)(t:tE)(args:List AV)(H:aa):Option (AV × aa):=
 match t with
 | .fn f=>(match E.thrSpec f args H with
  | some z=>some z
  | none=>if E.mode f=2 then tl E run (dep+1) f args H else none)
 | .yld r=>Aa E run (dep+1) r args H
def vV(rd:Option Ref)(st:St)(n:Nat):Option St:=match rd with
 | none=>if n=2 then some st else none
 | some r=>match xq st.hp r with
  | some (1,inf)=>some { st with hp:=st.hp.put r (some (dW n inf))}
  | _=>none
def qV(E:Env)(ops:Array Oper):List (Tmp × Tmp):=E.apart ops
def kS:AV->Option Ref
 | .ptr r _ _=>some r
 | .bA r _ _ _=>some r
 | .dsl r _ _ _=>some r
 | .mp r=>some r
 | .ch r=>some r
 | _=>none
def Ee(tm:List AV)(p:Tmp × Tmp):Bool:=match kS (cX tm p.1),kS (cX tm p.2) with
 | some r,some r'=>decide (r≠r')
 | _,_=>true
def xa(st:St)(o:Oper):Bool:=match o.op with
 | .store _ (.tmp t) _=>(match cX st.tm t with
  | .ptr r _ _=>(match st.hp.get r with
   | some b => !b.arr
   | none=>false)
  | _=>true)
 | _=>true
def ZU:Op->Option Tmp
 | .buildSlice _ _ ps=>(match ps.toList with
  | [(_,.tmp t)]=>some t
  | _=>none)
 | _=>none
def Hk(E:Env)(st:St)(o:Oper):Bool := !(E.gB o&&Aw o.op)||(match ZU o.op with
 | some t=>(match cX st.tm t with
  | .bA .. => true
  | .v _=>true
  | _=>false)
 | none=>false)
def sA(E:Env)(ops:Array Oper)(st:St):Bool:=(qV E ops).isEmpty||((qV E ops).all (Ee st.tm)&&(ops.toList.all (xa st)&&ops.toList.all (Hk E st)))
def ck(E:Env):Nat->(rd:Option Ref)->(nt dep:Nat)->List Item->St->Option St
 | 0,_,_,_,_,_=>none
 | n+1,rd,nt,dep,items,st=>
  match items with
  | []=>(match rd with
   | none=>some st
   | some _=>vV rd st 0)
  | .beginRound :: k=>(match rd with
   | none=>none
   | some r=>match xq st.hp r with
    | some (0,inf)=>ck E n rd nt dep k { st with hp:=st.hp.put r (some (dW 1 inf))}
    | _=>none)
  | .code c :: k=>
   (match c with
   | .skip | .label _=>ck E n rd nt dep k st
   | .ret=>vV rd st 2
   | .seq a b=>ck E n rd nt dep (.code a :: .code b :: k) st
   | .cond c a b=>
    (match (aL st.tm c).bind DU with
    | some true=>ck E n rd nt dep (.code a :: k) st
    | some false=>ck E n rd nt dep (.code b :: k) st
    | none=>none)
   | .block id b=>ck E n rd nt dep (.code b :: .inBlock id :: k) st
   | .scope b=>ck E n rd nt dep (.code b :: .inScope b :: k) st
   | .loop b=>ck E n rd nt dep (.code b :: .inLoop b :: k) st
   | .exit id=>(match exitTo id k with
    | some k'=>ck E n rd nt dep k' st
    | none=>if rd.isSome then vV rd st (id+3) else none)
   | .region _ ops draw=>(match nw E (cY E (ck E n)) (eG E (ck E n) dep) nt dep draw ops ops.toList st with
    | some st'=>if draw && !sA E ops st' then none else ck E n rd nt dep k st'
    | none=>none)
   | .rangeFunc g ps assign body=>(match rd,aL st.tm g with
    | none,some (.fn (.func gi) first captured)=>
     (match eG E (ck E n) dep (.fn gi) (first++[.yld ⟨dep,nt,st.hp.gen dep nt,0⟩]++captured)
      ((⟨dep,nt,st.hp.gen dep nt,0⟩,some (dW 0 (.lp 0 nt ps.toList assign body st.tm))) :: st.hp) with
     | some (_,H')=>(match xq H' ⟨dep,nt,st.hp.gen dep nt,0⟩ with
      | some (0,_)=>ck E n rd nt dep k ⟨st.tm,H'.put ⟨dep,nt,st.hp.gen dep nt,0⟩ none⟩
      | some (2,_)=>some ⟨st.tm,H'.put ⟨dep,nt,st.hp.gen dep nt,0⟩ none⟩
      | some (id+3,_)=>(match exitTo id k with
       | some k'=>ck E n rd nt dep k' ⟨st.tm,H'.put ⟨dep,nt,st.hp.gen dep nt,0⟩ none⟩
       | none=>none)
      | _=>none)
     | none=>none)
    | _,_=>none)
   | _=>none)
  | .inLoop b :: k=>ck E n rd nt dep (.code b :: .inLoop b :: k) st
  | .inBlock _ :: k | .inScope _ :: k=>ck E n rd nt dep k st
  | _=>none
def fh(o:Oper):List Nat:=(o.after.toList.filter (Region.binds .any)).map (·.on)
def BD(a:List Nat):List Nat->Nat
 | []=>0
 | j :: b=>(2 ^ j ||| a.getD j 0) ||| BD a b
def dM:List Oper->List Nat->List Nat
 | [],acc=>acc
 | o :: os,acc=>dM os (acc++[BD acc (fh o)])
def Oc(c:Call):Bool:=match c.args.toList with
 | [.tmp _]=>true
 | _=>false
def ku:Op->Bool
 | .move _ | .assign _ | .pick .. | .binOp .. | .unOp .. | .makeInterface .. | .makeFunc .. | .fieldAddr .. | .field .. | .index .. | .typeAssert .. | .extract .. | .nilCheck _ | .build .. => false
 | .call c=>match c.callee with
  | .builtin .len=>Oc c
  | .builtin .min | .builtin .max=>false
  | _=>true
 | _=>true
def LL:Op->Bool
 | .call c=>(match c.callee with
  | .builtin .len=>true
  | _=>false)
 | _=>false
def wo(E:Env)(o:Oper):Bool:=ku o.op && !(E.strict o&&LL o.op)
def jv(ops:Array Oper)(i:Nat):Option Tmp:=(ops[i]?).bind (·.dst)
def lk(E:Env)(ops:Array Oper)(i:Nat):Bool:=(List.range (i+1)).any λj=>match ops[j]? with
 | some o=>jj E o
 | none=>false
def xy(ops:Array Oper)(A:List Nat)(oi a:Oper)(i j:Nat):Bool:=
 (a.dst.isNone||oi.dst != a.dst) &&
 (match a.dst with | some d => !(oi.looksAt ops).contains d||(A.getD i 0).testBit j | none=>true) &&
 (match oi.dst with | some d => !(a.looksAt ops).contains d||(A.getD i 0).testBit j | none=>true)
def N3(E:Env)(ops:Array Oper)(A:List Nat)(oi a:Oper)(i j:Nat):Bool:=
 xy ops A oi a i j &&
 (!(wo E oi&&wo E a&&lk E ops i)||(A.getD i 0).testBit j)
def Ch(E:Env)(ops:Array Oper):Bool:=
 (List.range ops.size).all λi=>match ops[i]? with
  | some oi=>(fh oi).all (· < i)&&(!wo E oi||jj E oi||oi.dst.isSome) &&
   (List.range i).all λj=>match ops[j]? with
    | some a=>N3 E ops (dM ops.toList []) oi a i j
    | none=>true
  | none=>true
def AW(P:Program):Op->Option Tmp
 | .load _ (.tmp t)=>some t
 | .indexAddr _ (.tmp t) _=>some t
 | .slice _ (.tmp t) _ _ _=>some t
 | .convert _ dst (.tmp t)=>if dq P dst then none else some t
 | .lookup _ (.tmp t) _ _=>some t
 | .call c=>match c.callee with
  | .builtin .len=>(match c.args.toList with
   | [.tmp t]=>some t
   | _=>none)
  | _=>none
 | _=>none
def storeT:Op->Option Tmp
 | .store _ (.tmp t) _=>some t
 | _=>none
def Ho:Op->Option Tmp
 | .call c=>match c.callee with
  | .builtin .append=>(match c.args.toList with
   | .tmp t :: _=>some t
   | _=>none)
  | _=>none
 | _=>none
def Rx:Op->Option Tmp
 | .mapUpdate _ (.tmp t) _ _=>some t
 | .insert _ (.tmp t) _ _=>some t
 | .mapEntry _ (.tmp t) _=>some t
 | .entryStore _ (.tmp t) _ _=>some t
 | _=>none
def F3(o:Op):Option Tmp:=match Rx o with
 | some t=>some t
 | none=>Ho o
def py(E:Env)(o:Oper):Bool:=E.gB o && !E.strict o&&(match o.op with
 | .call c=>(match c.callee with
  | .value (.func g)=>E.mode g == 2
  | _=>false)
 | _=>false)
def cls(E:Env)(o:Oper):Nat:=
 if wo E o then (if (storeT o.op).isSome then 2 else if (AW E.P o.op).isSome then 1 else if jj E o then 4 else 3) else 0
def mI(E:Env)(o:Oper):Option Tmp:=match storeT o.op with
 | some t=>some t
 | none=>match AW E.P o.op with
  | some t=>some t
  | none=>if Aw o.op then ZU o.op else F3 o.op
def settled(E:Env)(ops:Array Oper)(oi c:Oper):Bool:=match mI E oi,mI E c with
 | some a,some b=>(qV E ops).contains (a,b)||(qV E ops).contains (b,a)
 | _,_=>false
def blind(E:Env)(o:Oper):Bool:=cls E o == 3&&(match o.op with
 | .alloc _ | .makeMap _ none=>true
 | .call c=>c.args.toList.isEmpty&&(match c.callee with
  | .value (.func _)=>true
  | _=>false)
 | _=>false)
def Oo(E:Env)(o:Oper):Bool:=cls E o == 3&&(match o.op with
 | .alloc _ | .makeMap _ none=>true
 | _=>false)
def ox(E:Env)(oi a:Oper):Bool:=Oo E oi&&((Ho a.op).isSome&&a.dst.isSome)
def pM(E:Env)(oi a:Oper):Bool:=(cls E oi == 2&&Nat.ble 3 (cls E a) && !blind E a)||(cls E a == 2&&Nat.ble 3 (cls E oi) && !blind E oi)||(Nat.ble 3 (cls E oi)&&Nat.ble 3 (cls E a)&&(cls E oi == 4||cls E a == 4) && !ox E oi a && !ox E a oi)
def Ct(b a:Nat):Bool:=(b == 2&&(a == 1||a == 2))||(a == 2&&b == 1)||(b == 1&&a == 4)||(b == 4&&a == 1)
def Ob(E:Env)(ops:Array Oper)(A:List Nat)(oi a:Oper)(i j:Nat):Bool:=
 xy ops A oi a i j &&
 (!pM E oi a||(A.getD i 0).testBit j) &&
 (!Ct (cls E oi) (cls E a)||py E oi||py E a||(A.getD i 0).testBit j||settled E ops oi a)
def Nu(ops:Array Oper)(i:Nat)(t:Option Tmp):Bool:=match t with
 | some t=>(List.range ops.size).all λk=>jv ops k != some t||decide (k<i)
 | none=>false
def PR(E:Env)(ops:Array Oper)(i:Nat)(o:Oper):Bool:=match cls E o with
 | 0=>true
 | 3=>o.dst.isSome
 | _=>py E o||Nu ops i (mI E o)
def UE(E:Env)(ops:Array Oper):Bool := !(qV E ops).isEmpty &&
 (List.range ops.size).all λi=>match ops[i]? with
  | some oi=>(fh oi).all (· < i)&&PR E ops i oi &&
   (List.range i).all λj=>match ops[j]? with
    | some a=>Ob E ops (dM ops.toList []) oi a i j
    | none=>true
  | none=>true
def zJ(E:Env)(ops:Array Oper):Bool:=Ch E ops||UE E ops
def nU{d:Type}{P:Program}{s:Sem d} : ∀ {a:d},bD P s=some a ->∀w,s.run P w = .ok a w:=by
 induction s with| pure a=>intro b h w;simp[bD]at h;subst h;rfl| program k c=>intro a h w;exact c P h w| mark m k c=>intro a h w;exact c h w| _=>intro a h;simp[bD]at h
def gK{g i:Type}{f:g->Option i} : ∀ {l:List g} {c:List i},l.mapM f=some c->c.length=l.length:=by
 intro l;induction l with
 | nil=>intro c h;simp at h;subst h;rfl
 | cons a l j=>intro c h;simp only[na,rA,sJ,iz]at h;obtain⟨b,_,bs,d,e⟩:=h;simp at e;subst e;simp[j d]
def ot{k g:Type}{f:k->Option g} : ∀ {l:List k} {d:List g},l.mapM f=some d ->∀(i:Nat)(y:g),d[i]?=some y ->∃x,l[i]?=some x/\f x=some y:=by
 intro l;induction l with
 | nil=>intro d h i y c;simp at h;subst h;simp at c
 | cons a l m=>
  intro d h i y c;simp only[na,rA,sJ,iz]at h;obtain⟨b,n,bs,e,j⟩:=h;simp at j;subst j;cases i with
  | zero=>simp at c;subst c;exact⟨a,rfl,n⟩
  | succ i=>simp at c;simpa using m e i y c
def lE{c e:Type}{f:c->Option e}{l:List c}{b:List e}(h:l.mapM f=some b)(i:Nat)(x:c)(d:l[i]?=some x) : ∃y,b[i]?=some y/\f x=some y:=by
 have g:=gK h;have hi:i<b.length:=by rw[g];exact(dT.1 d).1
 obtain⟨k,a,j⟩:=ot h i b[i] (de hi);rw[d]at a;cases a;exact⟨_,de hi,j⟩
abbrev Mem:=Nat->Nat->Option Value
structure Loc where
 b:Nat
 esz:Nat
 n:Nat
abbrev Map:=Ref->Option Loc
def dC:Map:=λ_=>none
inductive VR (M:Mem):Map->AV->Value->Prop
 | v {ι x} (h:scalar x=true):VR M ι (.v x) x
 | agg {ι cs vs} (hl:cs.length=vs.size) (h : ∀(i:Nat) c u,cs[i]?=some c->vs[i]?=some u->VR M ι c u):VR M ι (.agg cs) (.agg vs)
 | tup {ι cs vs} (h0:cs≠[]) (hl:cs.length=vs.size) (h : ∀(i:Nat) c u,cs[i]?=some c->vs[i]?=some u->VR M ι c u):VR M ι (.tup cs) (.tuple vs)
 | bq {ι esz es cap a c} (cell:Nat->Nat->Value) (hs:a.spot=none\/es=[]) (hc:es.length<=c) (hk : ∀k,cap=some k->c=k)
  (hm : ∀i j,i<es.length->j<esz->M a.block (a.off+(i * esz+j))=some (cell i j)/\(cell i j).oneCell'=true)
  (he : ∀e∈es,e.cells.length=esz)
  (h : ∀(i j:Nat) e x,es[i]?=some e->e.cells[j]?=some x->VR M dC x (cell i j)):VR M ι (.bq esz es cap) (.slice (some a) es.length c)
 | bA {ι r off len cap l a c} (hr:ι r=some l) (hb:a.block=l.b) (hs:a.spot=none) (ha:c=0\/a.off=off * l.esz) (hc:len<=c) (hn:c=0\/off+c<=l.n)
  (hk : ∀k,cap=some k->c=k) (hz:0<l.esz):VR M ι (.bA r off len cap) (.slice (some a) len c)
 | dsl {ι r off len cap l a c} (hr:ι r=some l) (hb:a.block=l.b) (hs:a.spot=none) (ha:c=0\/a.off=off * l.esz) (hc:len<=c) (hn:c=0\/off+c<=l.n)
  (hk : ∀k,cap=some k->c=k) (hz:0<l.esz):VR M ι (.dsl r off len cap) (.slice (some a) len c)
 | ptr {ι r i j l} (hr:ι r=some l) (hz:0<l.esz):VR M ι (.ptr r i j) (.pointer (some ⟨l.b,i * l.esz+j,none⟩))
 | iptr {ι esz es i j b o} (cell:Nat->Nat->Value)
  (hm : ∀i j,i<es.length->j<esz->M b (o+(i * esz+j))=some (cell i j)/\(cell i j).oneCell'=true)
  (he : ∀e∈es,e.cells.length=esz)
  (h : ∀(i j:Nat) e x,es[i]?=some e->e.cells[j]?=some x->VR M dC x (cell i j)):VR M ι (.iptr esz es i j) (.pointer (some ⟨b,o+(i * esz+j),none⟩))
 | fn {ι f a b a' b'} (ha:a.length=a'.size) (hb:b.length=b'.size) (h : ∀(i:Nat) c u,a[i]?=some c->a'[i]?=some u->VR M ι c u)
  (h' : ∀(i:Nat) c u,b[i]?=some c->b'[i]?=some u->VR M ι c u):VR M ι (.fn f a b) (.func f a' b')
 | ifc {ι t x u} (h:VR M ι x u):VR M ι (.ifc t x) (.iface t u)
 | yld {ι r l} (hr:ι r=some l) (hz:l.esz=0):VR M ι (.yld r) (.func (.yield l.b) #[] #[])
 | mp {ι r l} (hr:ι r=some l) (hz:l.esz=0):VR M ι (.mp r) (.map (some l.b))
 | ch {ι r l} (hr:ι r=some l) (hz:l.esz=0):VR M ι (.ch r) (.chan (some l.b))
 | yM {ι u} (h:u.oneCell'=true):VR M ι (.yM u) u
def VR.mono{M M':Mem}(B : ∀b o x,M b o=some x->M' b o=some x){ι:Map}{x:AV}{u:Value}(h:VR M ι x u) :
 ∀a:Map,(∀r l,ι r=some l->a r=some l)->VR M' a x u:=by
 induction h with| v h=>intro a _;exact .v h| agg z _ f=>intro a hi;exact .agg z λi c u d p=>f i c u d p a hi| tup C z _ f=>intro a hi;exact .tup C z λi c u d p=>f i c u d p a hi| bq cell q d w hm he _ f=>intro a hi;exact .bq cell q d w (λi j m n=>⟨B _ _ _ (hm i j m n).1,(hm i j m n).2⟩) he λi j e x m n=>f i j e x m n dC (λ_ _ h=>h)| bA k s q t d A w g=>intro a hi;exact .bA (hi _ _ k) s q t d A w g| dsl k s q t d A w g=>intro a hi;exact .dsl (hi _ _ k) s q t d A w g| ptr k g=>intro a hi;exact .ptr (hi _ _ k) g| yld k g=>intro a hi;exact .yld (hi _ _ k) g| mp k g=>intro a hi;exact .mp (hi _ _ k) g| ch k g=>intro a hi;exact .ch (hi _ _ k) g| yM h=>intro a _;exact .yM h| iptr cell hm he _ f=>intro a hi;exact .iptr cell (λi j m n=>⟨B _ _ _ (hm i j m n).1,(hm i j m n).2⟩) he λi j e x m n=>f i j e x m n dC (λ_ _ h=>h)| fn t s _ _ f y=>intro a hi;exact .fn t s (λi c u d p=>f i c u d p a hi) λi c u d p=>y i c u d p a hi| ifc _ f=>intro a hi;exact .ifc (f a hi)
def VR.up{M:Mem}{x:AV}{u:Value}(h:VR M dC x u)(ι:Map):VR M ι x u:=h.mono (λ_ _ _ h=>h) ι (λ_ _ h=>by cases h)
def lI(M:Mem)(ι:Map)(a:List AV)(us:List Value):Prop:=a.length=us.length /\∀(i:Nat) x u,a[i]?=some x->us[i]?=some u->VR M ι x u
def lI.nil{M:Mem}{ι:Map}:lI M ι [] []:=⟨rfl,λi x u h=>by simp at h⟩
def lI.cons{M:Mem}{ι:Map}{x:AV}{u:Value}{d:List AV}{us:List Value}(h:VR M ι x u)(c:lI M ι d us):lI M ι (x :: d) (u :: us):=
 ⟨by simp[c.1],λi y v b a=>by
  cases i with| zero=>simp at b a;subst b;subst a;exact h| succ i=>simp at b a;exact c.2 i y v b a⟩
def lI.append{M:Mem}{ι:Map}{c ys:List AV}{us d:List Value}(h:lI M ι c us)(e:lI M ι ys d):lI M ι (c++ys) (us++d):=
 ⟨by simp[h.1,e.1],λi y v b a=>by
  rcases eU i c.length with hi | hi
  ·rw[jG hi]at b;rw[jG (h.1 ▸ hi)]at a;exact h.2 i y v b a
  rw[ic hi]at b;rw[ic (h.1 ▸ hi)]at a;rw[<-h.1]at a;exact e.2 _ y v b a⟩
def lI.mono{M M':Mem}{ι a:Map}{d:List AV}{us:List Value}(h:lI M ι d us)(e : ∀b o x,M b o=some x->M' b o=some x)(c : ∀r l,ι r=some l->a r=some l):lI M' a d us:=
 ⟨h.1,λi x u g f=>(h.2 i x u g f).mono e a c⟩
def lI.take{M:Mem}{ι:Map}{d:List AV}{us:List Value}(h:lI M ι d us)(n:Nat):lI M ι (d.take n) (us.take n):=
 ⟨by simp[h.1],λi x u a b=>by
  rw[za]at a b;split at a;·rename_i c;rw[if_pos c]at b;exact h.2 i x u a b
  cases a⟩
def lI.drop{M:Mem}{ι:Map}{c:List AV}{us:List Value}(h:lI M ι c us)(n:Nat):lI M ι (c.drop n) (us.drop n):=
 ⟨by simp[h.1],λi x u b a=>by
  rw[yE]at b a;exact h.2 _ x u b a⟩
def VR.pv{M:Mem}{ι:Map}{cs:List AV}{b:Array Value}:VR M ι (.agg cs) (.agg b)↔lI M ι cs b.toList:=
 ⟨λh=>by cases h with | agg e h=>exact⟨by simpa using e,λi x u d a=>h i x u d (by simpa using a)⟩,
  λh => .agg (by simpa using h.1) λi c u f a=>h.2 i c u f (by simpa using a)⟩
def VR.cells{M:Mem}{ι:Map}{x:AV}{u:Value}(h:VR M ι x u):lI M ι x.cells u.cells.toList:=by
 have one : ∀ {x:AV} {u:Value},VR M ι x u->x.cells=[x]->u.cells = #[u]->lI M ι x.cells u.cells.toList:=by
  intro x u h k j;rw[k,j];exact lI.cons h lI.nil
 cases h with
 | agg l h=>exact⟨by simpa [AV.cells,Value.cells] using l,λi x u k j=>h i x u (by simpa [AV.cells] using k) (by simpa [Value.cells] using j)⟩
 | v h=>refine one (.v h) rfl ?_;cases u<;>first | rfl | (simp[scalar]at h)
 | tup n l h=>exact one (.tup n l h) rfl rfl
 | bq cell c g f hm he h=>exact one (.bq cell c g f hm he h) rfl rfl
 | bA b d c e g m f a=>exact one (.bA b d c e g m f a) rfl rfl
 | dsl b d c e g m f a=>exact one (.dsl b d c e g m f a) rfl rfl
 | ptr b a=>exact one (.ptr b a) rfl rfl
 | yld b a=>exact one (.yld b a) rfl rfl
 | mp b a=>exact one (.mp b a) rfl rfl
 | ch b a=>exact one (.ch b a) rfl rfl
 | yM h=>exact one (.yM h) rfl (by cases u<;>first | rfl | (cases h))
 | iptr cell hm he h=>exact one (.iptr cell hm he h) rfl rfl
 | fn e d h o=>exact one (.fn e d h o) rfl rfl
 | ifc h=>exact one (.ifc h) rfl rfl
def VR.one{M:Mem}{ι:Map}{x:AV}{u:Value}(h:VR M ι x u)(a:x.one=true):u.oneCell'=true:=by
 cases h with
 | v h=>cases u<;>first | rfl | (simp[AV.one]at a)
 | agg b h=>simp[AV.one]at a
 | tup c b h=>simp[AV.one]at a
 | bq=>rfl
 | bA=>rfl
 | dsl=>rfl
 | ptr=>rfl
 | iptr=>rfl
 | fn=>rfl
 | ifc=>rfl
 | yld=>rfl
 | mp=>rfl
 | ch=>rfl
 | yM h=>exact h
def nV{M:Mem}{ι:Map}{u:Value}{x:AV}(h:iE u=some x):VR M ι x u:=by
 unfold iE at h;split at h;·cases h;exact .v (by assumption)
 cases h
def Cn{M:Mem}{ι:Map}{us:List Value}{b:List AV}(h:us.mapM iE=some b):lI M ι b us:=
 ⟨gK h,λi x u d c=>by
  obtain⟨f,a,e⟩:=ot h i x d;rw[c]at a;cases a;exact nV e⟩
def jo{M:Mem}{ι:Map}{u:Value}{x:AV}(h:ofValue u=some x):VR M ι x u:=by
 cases u with
 | agg cs=>simp only[ofValue,bG]at h;obtain⟨xs,d,rfl⟩:=h;exact VR.pv.2 (Cn d)
 | func f a b=>
  simp only[ofValue]at h;split at h;·rename_i g;cases h;simp at g;obtain⟨rfl,rfl⟩:=g;exact .fn rfl rfl (λi c u j=>by simp at j) (λi c u j=>by simp at j)
  cases h
 | tuple o=>
  simp only[ofValue]at h;split at h;·rename_i k;simp at k;subst k;cases h;exact .v rfl
  rename_i k;simp only[bG]at h;obtain⟨xs,d,rfl⟩:=h;have l:=Cn (M:=M) (ι:=ι) d;refine .tup ?_ (by simpa using l.1) λi c u j m=>l.2 i c u j (by simpa using m);intro e;subst e;have:=l.1;simp at this;exact k (by simpa using Ky this.symm)
 | iface t x=>simp only[ofValue,bG]at h;obtain⟨y,n,rfl⟩:=h;exact .ifc (nV n)
 | _=>exact nV (by simpa [ofValue] using h)
def No{M:Mem}{ι:Map}{x:AV}{u v:Value}(h:VR M ι x u)(a:Io x=some v):u=v:=by
 cases h<;>simp[Io]at a;exact a
def uw{M:Mem}{ι:Map}{x:AV}{u v:Value}(h:VR M ι x u)(e:kr x=some v):u=v:=by
 cases h<;>simp[kr]at e;·exact e
 rename_i cs f m j;obtain⟨l,a,rfl⟩:=e;congr 1;apply D0;intro i;rcases eU i f.size with hi | hi
 ·have d:=gK a;have b:i<l.length:=by omega
  obtain⟨c,g,k⟩:=ot a i l[i] (de b);have:=No (j i c f[i] g (kn hi)) k;simp[this,kn hi,de b]
 have d:=gK a;rw[Array.getElem?_eq_none hi];simp;omega
def aY.map(k:aY)(ι:Map):Map:=if k.arr then dC else ι
def BP(z a:Nat)(fz:Nat × Nat):Prop:=(∀o,o<a ->¬(fz.1<=o/\(o<fz.2\/fz.2<fz.1)))/\(1<z ->¬(fz.1<=a/\a<fz.2))
def BP.zero(z n:Nat):BP z n (0,0):=⟨λo _ h=>by simp at h,λ_ h=>by simp at h⟩
structure fp (M:Mem) (ι:Map) (w:World) (l:Loc) (k:aY):Prop where
 esz:l.esz=k.esz
 heap : ∃arr T fz,w.heap[l.b]?=some (.cells arr T fz)/\arr.size=l.n * k.esz/\BP k.esz arr.size fz /\
  ∀(i j:Nat) e x,k.es[i]?=some e->e.cells[j]?=some x ->∃u,arr[i * k.esz+j]?=some u/\u.oneCell'=true/\VR M (k.map ι) x u
 len:k.es.length<=l.n
 cells : ∀e∈k.es,e.cells.length=k.esz
 frozen : ∀o x,M l.b o=some x->k.gB=true/\o<k.es.length * k.esz
def Cb(n:Nat)(r:Loop):Prop:=match n with
 | 0=>r.state = .ready/\r.pending=none
 | 1=>r.state = .busy
 | 2=>r.state = .done/\r.pending=some .ret
 | id+3=>r.state = .done/\r.pending=some (.exit id)
def Ht(M:Mem)(ι:Map)(w:World)(l:Loc)(k:aY):Prop:=
 ∃(n nt:Nat) (ps:List Tmp) (assign body:Code) (tm:List AV) (r:Loop),k.esz=0/\k.arr=false/\k.es=[.v (.int .i64 n),.lp 0 nt ps assign body tm]/\w.heap[l.b]?=some (.loop r)/\r.params=ps.toArray/\r.assign=assign/\r.body=body /\
  r.tmps.size=nt/\(∀t,VR M ι (cX tm t) (r.tmps.getD t undef))/\Cb n r
def MN(M:Mem)(ι:Map)(w:World)(l:Loc)(k:aY):Prop:=
 ∃(c:List AV) (a:Array MapEntry),k.esz=0/\k.arr=false/\k.es = .v (.bool true) :: c/\w.heap[l.b]?=some (.map a a.size)/\a.size=c.length /\
  ∀(i:Nat) ent e,c[i]?=some ent->a[i]?=some e ->∃d f,ent = .tup [d,f]/\kr d=some e.key/\VR M ι f e.val/\e.born=i
def Hw(M:Mem)(ι:Map)(w:World)(l:Loc)(k:aY):Prop:=
 ∃(cap s r:Nat) (c:Bool) (a:List AV) (arr:Array Value),k.esz=0/\k.arr=false/\k.es = .v (.bool false) :: .v (.int .i64 cap) :: .v (.bool c) :: a/\w.heap[l.b]?=some (.chan cap arr c s r false) /\
  arr.size=a.length /\∀(i:Nat) x u,a[i]?=some x->arr[i]?=some u->VR M ι x u
def nJ(M:Mem)(ι:Map)(w:World)(l:Loc)(k:aY):Prop:=Ht M ι w l k\/MN M ι w l k\/Hw M ι w l k
structure oS (M:Mem) (ι:Map) (w:World) (l:Loc) (k:aY):Prop where
 esz:l.esz=k.esz
 cellsOk:0<k.esz->fp M ι w l k
 objOk:k.esz=0->nJ M ι w l k
 frozen : ∀o x,M l.b o=some x->k.gB=true/\o<k.es.length * k.esz
def fp.Sa{M:Mem}{ι:Map}{w:World}{l:Loc}{k:aY}(h:fp M ι w l k)(a:0<k.esz):oS M ι w l k:=⟨h.esz,λ_=>h,λe=>by omega,h.frozen⟩
def nJ.zero{M:Mem}{ι:Map}{w:World}{l:Loc}{k:aY}(h:nJ M ι w l k):k.esz=0/\k.arr=false:=by
 rcases h with ⟨n,nt,ps,as,d,tm,r,b,a,_⟩ | ⟨c,entries,b,a,_⟩ | ⟨_,_,_,_,_,_,b,a,_⟩
 ·exact⟨b,a⟩
 ·exact⟨b,a⟩
 exact⟨b,a⟩
def nJ.obj{M:Mem}{ι:Map}{w:World}{l:Loc}{k:aY}(h:nJ M ι w l k):(∃r,w.heap[l.b]?=some (.loop r))\/(∃es c,w.heap[l.b]?=some (.map es c)) \/∃a b c d e f,w.heap[l.b]?=some (.chan a b c d e f):=by
 rcases h with ⟨n,nt,ps,as,i,tm,r,_,_,_,h,_⟩ | ⟨g,entries,_,_,_,h,_⟩ | ⟨_,_,_,_,_,_,_,_,_,h,_⟩
 ·exact .inl ⟨_,h⟩
 ·exact .inr (.inl ⟨_,_,h⟩)
 exact .inr (.inr ⟨_,_,_,_,_,_,h⟩)
def nJ.same{M:Mem}{ι:Map}{w:World}{l:Loc}{k k':aY}(h:nJ M ι w l k)(i:k'.esz=k.esz)(j:k'.arr=k.arr)(g:k'.es=k.es):nJ M ι w l k':=by
 rcases h with ⟨n,nt,ps,as,o,tm,r,f,e,a,d⟩ | ⟨b,entries,f,e,a,d⟩ | ⟨c,s,r,m,buf,arr,f,e,a,d⟩
 ·exact .inl ⟨n,nt,ps,as,o,tm,r,i.trans f,j.trans e,g.trans a,d⟩
 ·exact .inr (.inl ⟨b,entries,i.trans f,j.trans e,g.trans a,d⟩)
 exact .inr (.inr ⟨c,s,r,m,buf,arr,i.trans f,j.trans e,g.trans a,d⟩)
def nJ.Sa{M:Mem}{ι:Map}{w:World}{l:Loc}{k:aY}(h:nJ M ι w l k)(c:l.esz=0)(d : ∀o x,M l.b o=some x->False):oS M ι w l k:=
 ⟨by rw[c,h.zero.1],λe=>by have:=h.zero.1;omega,λ_=>h,λo x a=>(d o x a).elim⟩
def oS.pos{M:Mem}{ι:Map}{w:World}{l:Loc}{k:aY}(h:oS M ι w l k)(a:k.arr=true):0<k.esz:=by
 rcases Dc k.esz with e | e
 ·have:=(h.objOk e).zero.2;rw[a]at this;cases this
 exact e
structure gA (M:Mem) (ι:Map) (g:cL) (w:World):Prop where
 mem : ∀b o x,M b o=some x->w.cell? ⟨b,o,none⟩=some x
 live : ∀r k,g r=some k ->∃l,ι r=some l/\oS M ι w l k
 inj : ∀r r' k k' l l',g r=some k->g r'=some k'->ι r=some l->ι r'=some l'->l.b=l'.b->r=r'
def gA.at{M:Mem}{ι:Map}{g:cL}{w:World}(f:gA M ι g w){r:Ref}{b:aY}{l:Loc}(e:ι r=some l)(i:0<l.esz)(d:g r=some b):fp M ι w l b:=by
 obtain⟨h,a,c⟩:=f.live r b d;rw[e]at a;cases a;exact c.cellsOk (by have:=c.esz;omega)
def nJ.mono{M M':Mem}{ι d:Map}{w w':World}{l:Loc}{k:aY}(h:nJ M ι w l k)(A : ∀b o x,M b o=some x->M' b o=some x)(f : ∀r l,ι r=some l->d r=some l)(z:w'.heap[l.b]?=w.heap[l.b]?):nJ M' d w' l k:=by
 rcases h with ⟨n,nt,ps,as,N,tm,r,p,B,v,y,g,q,j,I,G,F⟩ | ⟨m,entries,p,v,y,g,q,j⟩ | ⟨c,s,r,L,buf,arr,p,v,y,g,q,j⟩
 ·exact .inl ⟨n,nt,ps,as,N,tm,r,p,B,v,by rw[z];exact y,g,q,j,I,λt=>(G t).mono A d f,F⟩
 ·exact .inr (.inl ⟨m,entries,p,v,y,by rw[z];exact g,q,λi C e a b=>by obtain⟨J,K,H,E,D⟩:=j i C e a b;exact⟨J,K,H,E,D.1.mono A d f,D.2⟩⟩)
 exact .inr (.inr ⟨c,s,r,L,buf,arr,p,v,y,by rw[z];exact g,q,λi x u a b=>(j i x u a b).mono A d f⟩)
structure tz (M:Mem) (ι:Map) (g:cL) (w:World) (M':Mem) (ι':Map) (g':cL) (w':World):Prop where
 os:w'.os=w.os
 tape:w'.tape=w.tape
 output:w'.output=w.output
 size:w.heap.size<=w'.heap.size
 chg : ∀b,b<w.heap.size->(∀r k l,g r=some k->ι r=some l->l.b≠b)->w'.heap[b]?=w.heap[b]?
 mem : ∀b o x,M b o=some x->M' b o=some x
 map : ∀r l,ι r=some l->ι' r=some l
 live : ∀r k l,g' r=some k->ι' r=some l->w.heap.size<=l.b \/∃r0 k0 l0,g r0=some k0/\ι r0=some l0/\l0.b=l.b
 new : ∀b o x,M' b o=some x->M b o=some x\/w.heap.size<=b \/∃r0 k0 l0,g r0=some k0/\ι r0=some l0/\l0.b=b
def tz.refl{M:Mem}{ι:Map}{g:cL}{w:World}:tz M ι g w M ι g w:=
 ⟨rfl,rfl,rfl,bg _,λ_ _ _=>rfl,λ_ _ _ h=>h,λ_ _ h=>h,λr k l h a => .inr ⟨r,k,l,h,a,rfl⟩,λ_ _ _ h => .inl h⟩
def tz.trans{M ι g w M' ι' g' w' M'' ι'' g'' w''}(h:tz M ι g w M' ι' g' w')(d:tz M' ι' g' w' M'' ι'' g'' w''):tz M ι g w M'' ι'' g'' w'':=by
 have i : ∀b,b<w.heap.size->(∀r k l,g r=some k->ι r=some l->l.b≠b) ->∀r k l,g' r=some k->ι' r=some l->l.b≠b:=by
  intro b t c r k l y q e;rcases h.live r k l y q with a | ⟨p,s,n,a,m,f⟩
  ·omega
  exact c p s n a m (f.trans e)
 refine⟨d.os.trans h.os,d.tape.trans h.tape,d.output.trans h.output,vj h.size d.size,?_,λb o x u=>d.mem b o x (h.mem b o x u),
  λr l q=>d.map r l (h.map r l q),?_,?_⟩
 ·intro b t c;rw[d.chg b (yD t h.size) (i b t c),h.chg b t c]
 ·intro r k l y q;rcases d.live r k l y q with a | ⟨p,s,n,a,m,f⟩
  ·exact .inl (vj h.size a)
  rcases h.live p s n a m with j | ⟨r1,k1,v,j,z,A⟩
  ·exact .inl (f ▸ j)
  exact .inr ⟨r1,k1,v,j,z,A.trans f⟩
 intro b o x u;rcases d.new b o x u with a | a | ⟨p,s,n,a,m,f⟩
 ·exact h.new b o x a
 ·exact .inr (.inl (vj h.size a))
 rcases h.live p s n a m with j | ⟨r1,k1,v,j,z,A⟩
 ·exact .inr (.inl (f ▸ j))
 exact .inr (.inr ⟨r1,k1,v,j,z,A.trans f⟩)
def jB{w:World}{b o:Nat}{arr:Array Value}{T:TypeId}{fz:Nat × Nat}(h:w.heap[b]?=some (.cells arr T fz)):w.cell? ⟨b,o,none⟩=arr[o]?:=by
 simp[World.cell?,h]
def gP(b o n:Nat):(⟨b,o,none⟩:Addr).add n=⟨b,o+n,none⟩:=by
 unfold Addr.add;split<;>simp_all
def kf{a:Addr}(h:a.spot=none):a=⟨a.block,a.off,none⟩:=by cases a;simp_all
def uu{P:Program}{t:TypeId}{n:Nat}(h:aH P t=some n) : ∃i,P.info? t=some i/\i.size=n:=by
 simpa [aH] using h
def cF{P:Program}{t:TypeId}{n:Nat}(h:aH P t=some n)(w:World):(sizeOf t).run P w = .ok n w:=by
 obtain⟨i,hi,rfl⟩:=uu h;simp[sizeOf,typeInfo,hi]
def bB{P:Program}{t:TypeId}{d:TypeDesc}(h:P.underlying t=some d)(w:World):(underlying t).run P w = .ok d w:=by
 simp[underlying,h]
def z9{P:Program}{t:TypeId}{b:Bool}(h:eI P t=some b)(w:World):(isAgg t).run P w = .ok b w:=by
 simp only[eI,bG]at h;obtain⟨d,hd,rfl⟩:=h;simp only[isAgg,iQe,bB hd,iQd];cases d<;>rfl
def xf{P:Program}{t:TypeId}{z:AV}(h:eP P t=some z)(w:World) : ∃u,(zeroValue t).run P w = .ok u w/\ofValue u=some z:=by
 simp only[eP,iz]at h;obtain⟨u,⟨i,hi,b⟩,a⟩:=h;exact⟨u,by simp[zeroValue,typeInfo,hi,b],a⟩
def Bf(M:Mem)(ι:Map)(w:World)(b o:Nat)(a:List AV):Prop:=
 ∀(j:Nat) x,a[j]?=some x ->∃u,w.cell? ⟨b,o+j,none⟩=some u/\u.oneCell'=true/\VR M ι x u
def Bf.values{M ι w b o}{a:List AV}(h:Bf M ι w b o a) : ∃us:List Value,lI M ι a us/\(∀u∈us,u.oneCell'=true) /\∀(j:Nat) u,us[j]?=some u->w.cell? ⟨b,o+j,none⟩=some u:=by
 induction a generalizing o with| nil=>exact⟨[],lI.nil,by simp,by simp⟩| cons x a g=>
  obtain⟨u,d,l,k⟩:=h 0 x rfl;obtain⟨us,f,e,i⟩:=g (o:=o+1) λj y m=>by
   have:=h (j+1) y (by simpa using m);rwa [show o+(j+1)=o+1+j by omega]at this
  refine⟨u :: us,lI.cons k f,by simpa [l] using e,?_⟩;intro j v c;cases j with
  | zero=>simp at c;subst c;exact d
  | succ j=>simp at c;have:=i j v c;rwa [show o+(j+1)=o+1+j by omega]
def Bf.sub{M ι w b o}{c:List AV}(h:Bf M ι w b o c)(j n:Nat):Bf M ι w b (o+j) ((c.drop j).take n):=by
 intro i x a;rw[za]at a;split at a;·rw[yE]at a;obtain⟨u,e,d⟩:=h _ x a;exact⟨u,by rwa [show o+j+i=o+(j+i) by omega],d⟩
 cases a
def vp{P:Program}{t:TypeId}{f:Bool}{n:Nat}(h:eI P t=some f)(q:aH P t=some n){M ι w b o}{cs:List AV}{j:Nat}{y:AV}
 (i:Bf M ι w b o cs)
 (e:(if f then (if j+n<=cs.length/\0<n then some (AV.agg ((cs.drop j).take n)) else none) else cs[j]?)=some y) :
 ∃u,(loadVar t ⟨b,o+j,none⟩).run P w = .ok u w/\VR M ι y u:=by
 cases f with| false=>simp at e;obtain⟨u,l,_,m⟩:=i j y e;exact⟨u,by simp[loadVar,z9 h,l],m⟩| true=>
  simp at e;obtain⟨⟨s,x⟩,rfl⟩:=e;obtain⟨us,c,_,a⟩:=(i.sub j n).values;have d:us.length=n:=by rw[<-c.1];simp;omega
  refine⟨.agg us.toArray,?_,VR.pv.2 (by simpa using c)⟩;have g:=run_loadCells_list (P:=P) w ⟨b,o+j,none⟩ us (λk v p=>by rw[gP];exact a k v p);rw[d]at g;simp[loadVar,z9 h,cF q,g]
def fp.cell{M ι w l k}(h:fp M ι w l k)(i:Nat){e:AV}(f:k.es[i]?=some e):Bf M (k.map ι) w l.b (i * k.esz) e.cells:=by
 obtain⟨arr,T,fz,g,_,_,m⟩:=h.heap;intro j x c;obtain⟨u,a,n,d⟩:=m i j e x f c;exact⟨u,by rw[jB g];exact a,n,d⟩
def aY.map_le(k:aY)(ι:Map) : ∀r l,k.map ι r=some l->ι r=some l:=by
 intro r l h;unfold aY.map at h;split at h;·cases h
 exact h
def PS{P:Program}{t:TypeId}{f:Bool}{n:Nat}(v:eI P t=some f)(z:aH P t=some n){M ι g w}(m:gA M ι g w)
 {r:Ref} {i j:Nat} {k:aY} {y:AV} {a:Value} (o:VR M ι (.ptr r i j) a) (x:g r=some k) (b:bP k.es i j n f=some y) :
 ∃u,(Instr.loadAt t a).run P w = .ok u w/\VR M ι y u:=by
 cases o with | ptr l p=>
 have c:=m.at l p x;unfold bP at b;split at b;·cases b
 rename_i e s;obtain⟨u,d,q⟩:=vp v z (c.cell i s) b;refine⟨u,?_,q.mono (λ_ _ _ h=>h) ι (k.map_le ι)⟩;rw[<-c.esz]at d;simp[Instr.loadAt,Instr.sureAddr,d]
def Bf.aa9{M:Mem}{w:World}(g : ∀b o x,M b o=some x->w.cell? ⟨b,o,none⟩=some x){esz b o i:Nat}{es:List AV}{cell:Nat->Nat->Value}
 (f : ∀i j,i<es.length->j<esz->M b (o+(i * esz+j))=some (cell i j)/\(cell i j).oneCell'=true)
 (k : ∀e∈es,e.cells.length=esz) (h : ∀(i j:Nat) e x,es[i]?=some e->e.cells[j]?=some x->VR M dC x (cell i j)) {e:AV} (hi:es[i]?=some e):Bf M dC w b (o+i * esz) e.cells:=by
 intro j x c;have d:j<esz:=by
  rw[<-k e (fZ hi)];exact(dT.1 c).1
 have a:i<es.length:=(dT.1 hi).1;refine⟨cell i j,?_,(f i j a d).2,h i j e x hi c⟩;rw[show o+i * esz+j=o+(i * esz+j) by omega];exact g _ _ _ (f i j a d).1
def U0{P:Program}{t:TypeId}{f:Bool}{n:Nat}(p:eI P t=some f)(q:aH P t=some n){M ι w}(g : ∀b o x,M b o=some x->w.cell? ⟨b,o,none⟩=some x)
 {esz i j:Nat} {es:List AV} {y:AV} {a:Value} (l:VR M ι (.iptr esz es i j) a) (c:bP es i j n f=some y) :
 ∃u,(Instr.loadAt t a).run P w = .ok u w/\VR M ι y u:=by
 cases l with | iptr cell m he h=>
 rename_i b o;unfold bP at c;split at c;·cases c
 rename_i e hi;obtain⟨u,d,k⟩:=vp p q (Bf.aa9 g m he h hi) c;refine⟨u,?_,k.up ι⟩;rw[show o+i * esz+j=o+(i * esz+j) by omega]at d;simp[Instr.loadAt,Instr.sureAddr,d]
structure C5 (w w':World) (o:Obj):Prop where
 os:w'.os=w.os
 tape:w'.tape=w.tape
 output:w'.output=w.output
 heap:w'.heap=w.heap.push o
def C5.cell{w w':World}{o:Obj}(h:C5 w w' o){a:Addr}{x:Value}(b:w.cell? a=some x):w'.cell? a=some x:=by
 have c:=iQm w a b;unfold World.cell? at b ⊢;rw[h.heap,D4 c,<-kn c];exact b
def C5.old{w w':World}{o:Obj}(h:C5 w w' o)(b:Nat)(a:b<w.heap.size):w'.heap[b]?=w.heap[b]?:=by
 rw[h.heap,D4 a,<-kn a]
def iq(ι:Map)(q:Ref)(l:Loc):Map:=λr=>if r=q then some l else ι r
def lL(g:cL)(q:Ref)(k:aY):cL:=λr=>if r=q then some k else g r
def EW{ι:Map}{q:Ref}{l:Loc}(b:ι q=none) : ∀r a,ι r=some a->iq ι q l r=some a:=by
 intro r a h;unfold iq;split;·subst_vars;rw[b]at h;cases h
 exact h
def gA.XB{M ι g w}(h:gA M ι g w){q:Ref}(b:ι q=none):g q=none:=by
 cases c:g q with| none=>rfl| some k=>obtain⟨l,a,_⟩:=h.live q k c;rw[b]at a;cases a
def fp.lt{M ι w l k}(h:fp M ι w l k):l.b<w.heap.size:=by
 obtain⟨arr,T,fz,a,_⟩:=h.heap;exact(iT.1 a).1
def nJ.lt{M ι w l k}(h:nJ M ι w l k):l.b<w.heap.size:=by
 rcases h.obj with ⟨_,a⟩ | ⟨_,_,a⟩ | ⟨_,_,_,_,_,_,a⟩
 ·exact(iT.1 a).1
 ·exact(iT.1 a).1
 exact(iT.1 a).1
def oS.lt{M ι w l k}(h:oS M ι w l k):l.b<w.heap.size:=by
 rcases Dc k.esz with e | e
 ·exact(h.objOk e).lt
 exact(h.cellsOk e).lt
def oS.Vm{M ι w l k}(h:oS M ι w l k){arr:Array Value}{T:TypeId}{fz:Nat × Nat}(c:w.heap[l.b]?=some (.cells arr T fz)):fp M ι w l k/\0<k.esz:=by
 rcases Dc k.esz with e | e
 ·rcases(h.objOk e).obj with ⟨_,a⟩ | ⟨_,_,a⟩ | ⟨_,_,_,_,_,_,a⟩
  ·rw[c]at a;cases a
  ·rw[c]at a;cases a
  rw[c]at a;cases a
 exact⟨h.cellsOk e,e⟩
def fp.bk{M ι w l k M' ι' w'}(h:fp M ι w l k)(f : ∀b o x,M b o=some x->M' b o=some x)(c : ∀r l,ι r=some l->ι' r=some l)
 (t:w'.heap[l.b]?=w.heap[l.b]?) (s : ∀o x,M' l.b o=some x->k.gB=true/\o<k.es.length * k.esz):fp M' ι' w' l k:=by
 obtain⟨arr,T,fz,v,A,p,g⟩:=h.heap;refine⟨h.esz,⟨arr,T,fz,t ▸ v,A,p,?_⟩,h.len,h.cells,s⟩;intro i j e x q n;obtain⟨u,m,B,y⟩:=g i j e x q n;refine⟨u,m,B,y.mono f _ ?_⟩;intro r z a;unfold aY.map at a ⊢;split;·rename_i d;rw[if_pos d]at a;exact a
 rename_i d;rw[if_neg d]at a;exact c r z a
def oS.bk{M ι w l k M' ι' w'}(h:oS M ι w l k)(c : ∀b o x,M b o=some x->M' b o=some x)(a : ∀r l,ι r=some l->ι' r=some l)
 (f:w'.heap[l.b]?=w.heap[l.b]?) (d : ∀o x,M' l.b o=some x->k.gB=true/\o<k.es.length * k.esz):oS M' ι' w' l k:=
 ⟨h.esz,λe=>(h.cellsOk e).bk c a f d,λe=>(h.objOk e).mono c a f,d⟩
def gA.alloc{M ι g w}(v:gA M ι g w){q:Ref}(S:ι q=none){w':World}{arr:Array Value}{T:TypeId}{fz:Nat × Nat}(p:C5 w w' (.cells arr T fz))
 (k:aY) (P:0<k.esz) (n:Nat) (I:arr.size=n * k.esz) (G:BP k.esz arr.size fz) (C:k.es.length<=n) (f : ∀e∈k.es,e.cells.length=k.esz)
 (V : ∀(i j:Nat) e x,k.es[i]?=some e->e.cells[j]?=some x ->∃u,arr[i * k.esz+j]?=some u/\u.oneCell'=true/\VR M (k.map ι) x u) :
 gA M (iq ι q ⟨w.heap.size,k.esz,n⟩) (lL g q k) w'/\tz M ι g w M (iq ι q ⟨w.heap.size,k.esz,n⟩) (lL g q k) w':=by
 have c:=EW (l:=⟨w.heap.size,k.esz,n⟩) S;have z : ∀b o x,M b o=some x->b<w.heap.size:=λb o x h=>iQm w ⟨b,o,none⟩ (v.mem b o x h);have B:w'.heap[w.heap.size]?=some (.cells arr T fz):=by rw[p.heap];simp
 refine⟨⟨λb o x h=>p.cell (v.mem b o x h),?_,?_⟩,⟨p.os,p.tape,p.output,by rw[p.heap];simp,λb d _=>p.old b d,λ_ _ _ h=>h,c,?_,λ_ _ _ h => .inl h⟩⟩
 ·intro r k' t;unfold lL at t;split at t
  ·rename_i e;subst e;cases t;refine⟨⟨w.heap.size,k.esz,n⟩,by simp[iq],fp.Sa ⟨rfl,⟨arr,T,fz,B,I,G,?_⟩,C,f,?_⟩ P⟩
   ·intro i j e x U L;obtain⟨u,K,R,N⟩:=V i j e x U L;refine⟨u,K,R,N.mono (λ_ _ _ h=>h) _ ?_⟩;intro r' W a;unfold aY.map at a ⊢;split;·rename_i H;rw[if_pos H]at a;exact a
    rename_i H;rw[if_neg H]at a;exact c r' W a
   intro o x h;exact absurd (z _ _ _ h) (vH _)
  obtain⟨l,a,d⟩:=v.live r k' t;exact⟨l,c r l a,d.bk (λ_ _ _ h=>h) c (p.old _ d.lt) d.frozen⟩
 ·intro r r' k1 J Q O y A m s F;unfold lL at y A;unfold iq at m s;by_cases E:r=q<;>by_cases D:r'=q;·rw[E,D]
  ·rw[if_pos E]at m;rw[if_neg D]at A s;obtain⟨l,a,d⟩:=v.live r' J A;rw[a]at s;cases s;cases m;exact absurd d.lt (by rw[<-F];exact vH _)
  ·rw[if_neg E]at y m;rw[if_pos D]at s;obtain⟨l,a,d⟩:=v.live r k1 y;rw[a]at m;cases m;cases s;exact absurd d.lt (by rw[F];exact vH _)
  rw[if_neg E]at y m;rw[if_neg D]at A s;exact v.inj r r' k1 J Q O y A m s F
 intro r k' l t a;unfold lL at t;unfold iq at a;split at t;·rename_i e;rw[if_pos e]at a;cases a;exact .inl (bg _)
 rename_i e;rw[if_neg e]at a;exact .inr ⟨r,k',l,t,a,rfl⟩
def ca(w:World)(b:Nat)(o:Obj):World := { w with heap:=w.heap.setIfInBounds b o}
def gI{w:World}{b:Nat}{o:Obj}(a:b<w.heap.size):(ca w b o).heap[b]?=some o:=by simp[ca,a]
def eY{w:World}{b a:Nat}{o:Obj}(h:b≠a):(ca w b o).heap[a]?=w.heap[a]?:=by simp[ca,AD h]
def cH(arr:Array Value)(o:Nat)(us:List Value):Array Value:=(arr.toList.take o++us++arr.toList.drop (o+us.length)).toArray
def iU{arr:Array Value}{o:Nat}{us:List Value}(h:o+us.length<=arr.size)(i:Nat) :
 (cH arr o us)[i]?=if o<=i/\i<o+us.length then us[i - o]? else arr[i]?:=by
 unfold cH;simp only[M7];have c:(arr.toList.take o).length=o:=by simp;omega
 rcases eU i o with a | a
 ·rw[qq,jG (by omega),za,if_pos a,if_neg (by omega)];simp
 rcases eU i (o+us.length)with b | b
 ·rw[qq,ic (by omega),jG (by omega),if_pos ⟨a,b⟩,c]
 rw[ic (by simp;omega),yE,if_neg (by omega)];simp only[ju,c,Fe];congr 1;omega
def jy{arr:Array Value}{o:Nat}{us:List Value}(h:o+us.length<=arr.size):(cH arr o us).size=arr.size:=by
 simp[cH];omega
def mQ{P:Program}{b:Nat}{T:TypeId}{fz:Nat × Nat}(o:Nat) : ∀(us:List Value)(i:Nat)(arr:Array Value)(w:World),w.heap[b]?=some (.cells arr T fz) ->
 o+i+us.length<=arr.size->(∀j,j<arr.size ->¬(fz.1<=j/\(j<fz.2\/fz.2<fz.1)))->(∀u∈us,u.oneCell'=true) ->
 (storeCells ⟨b,o,none⟩ us i).run P w = .ok () (ca w b (.cells (cH arr (o+i) us) T fz)):=by
 intro us;induction us with
 | nil=>
  intro i arr w a q p n;have g:=(iT.1 a).1;have e:cH arr (o+i) []=arr:=by simp[cH]
  have x:ca w b (.cells arr T fz)=w:=by
   have:w.heap.setIfInBounds b (.cells arr T fz)=w.heap:=by
    apply D0;intro k;by_cases c:b=k;·subst c;rw[a,Fg g]
    rw[AD c]
   unfold ca;rw[this]
  simp[storeCells,e,x]
 | cons u us t=>
  intro i arr w a q p n;have g:=(iT.1 a).1;simp only[iA]at q;have B:w.cell? ⟨b,o+i,none⟩=some arr[o+i]:=by rw[jB a];exact kn (by omega)
  have l:w.frozen? ⟨b,o+i,none⟩=false:=by
   have:=p (o+i) (by omega);simp only[World.frozen?,a];simp only[Fc,iQc];by_cases h:fz.1<=o+i;·exact .inr λz=>this ⟨h,.inl z⟩
   exact .inl h
  have f:w.setCell ⟨b,o+i,none⟩ u=ca w b (.cells (arr.setIfInBounds (o+i) u) T fz):=by
   unfold World.setCell ca;congr 1;apply D0;intro k;rw[Fz];by_cases c:b=k;·subst c;rw[a,Fg g];simp
   simp[c,AD c]
  have d:=n u (by simp);have m:=t (i+1) (arr.setIfInBounds (o+i) u) (ca w b (.cells (arr.setIfInBounds (o+i) u) T fz)) (gI g) (by simp;omega) (by simpa using p) (λv y=>n v (by simp[y]));simp only[storeCells,iQe,gP,run_store P w _ u _ d,B,l,f];simp only[gj, ↓reduceIte,iQd];rw[m];congr 1;unfold ca;simp only[Array.setIfInBounds_setIfInBounds];congr 3;apply D0;intro k;rw[iU (by simp;omega),iU (by simp;omega)];by_cases A:k=o+i;·subst A;rw[if_neg (by omega),if_pos ⟨bg _,by simp⟩];simp[show o+i<arr.size by omega]
  by_cases s:o+(i+1)<=k/\k<o+(i+1)+us.length;·rw[if_pos s,if_pos (by simp;omega)];rw[show k - (o+i)=(k - (o+(i+1)))+1 by omega];simp
  rw[if_neg s,if_neg (by simp;omega)];rw[AD (by omega)]
def gA.mark{M ι g w}(n:gA M ι g w){r:Ref}{k:aY}{l:Loc}(s:g r=some k)(B:ι r=some l){arr:Array Value}{T:TypeId}{v fz:Nat × Nat}{w':World}
 (y:w.heap[l.b]?=some (.cells arr T v)) (m:w'=ca w l.b (.cells arr T fz)) (A:BP k.esz arr.size fz):gA M ι g w'/\tz M ι g w M ι g w':=by
 obtain⟨U,q,I⟩:=n.live r k s;rw[B]at q;cases q;have C:=I.lt;have f:w'.heap[l.b]?=some (.cells arr T fz):=by rw[m];exact gI C
 have c : ∀b,l.b≠b->w'.heap[b]?=w.heap[b]?:=λb a=>by rw[m];exact eY a
 have i : ∀b o,w'.cell? ⟨b,o,none⟩=w.cell? ⟨b,o,none⟩:=by
  intro b o;by_cases a:l.b=b;·subst a;rw[jB f,jB y]
  exact iQk (c b a)
 refine⟨⟨λb o x h=>by rw[i];exact n.mem b o x h,?_,n.inj⟩,?_⟩
 ·intro r' k1 t;obtain⟨E,p,d⟩:=n.live r' k1 t;refine⟨E,p,?_⟩;by_cases a:l.b=E.b
  ·obtain⟨j,F⟩:=d.Vm (a ▸ y);obtain⟨G,R,H,u,P,Q,O⟩:=j.heap;rw[<-a,y]at u;injection u with u;injection u with N J S
   subst N;subst J;have D:k1=k:=by
    have e:=n.inj r r' k k1 l E s t B p a;subst e;rw[s]at t;exact(Fq t).symm
   exact fp.Sa ⟨d.esz,⟨arr,T,fz,by rw[<-a];exact f,P,by rw[D];exact A,O⟩,j.len,j.cells,d.frozen⟩ F
  exact d.bk (λ_ _ _ h=>h) (λ_ _ h=>h) (c _ a) d.frozen
 refine⟨by rw[m];rfl,by rw[m];rfl,by rw[m];rfl,by rw[m];simp[ca],λb L z=>c b (z r k l s B),λ_ _ _ h=>h,λ_ _ h=>h,λr k l h K => .inr ⟨r,k,l,h,K,rfl⟩,λ_ _ _ h => .inl h⟩
def gA.write{M ι g w}(z:gA M ι g w){r:Ref}{k k':aY}{l:Loc}(v:g r=some k)(D:ι r=some l)(U:0<l.esz){arr:Array Value}{T:TypeId}{fz:Nat × Nat}{w':World}
 (d:w'=ca w l.b (.cells arr T fz)) (a:k'.esz=k.esz) (O:k'.arr=k.arr) (N:arr.size=l.n * k.esz) (H:BP k.esz arr.size fz)
 (C:k'.es.length<=l.n) (c : ∀e∈k'.es,e.cells.length=k.esz) (f : ∀o x,M l.b o=some x->False)
 (V : ∀(i j:Nat) e x,k'.es[i]?=some e->e.cells[j]?=some x ->∃u,arr[i * k.esz+j]?=some u/\u.oneCell'=true/\VR M (k'.map ι) x u) :
 gA M ι (lL g r k') w'/\tz M ι g w M ι (lL g r k') w':=by
 obtain⟨X,t,G⟩:=z.live r k v;rw[D]at t;cases t;have I:=G.lt;refine⟨⟨?_,?_,?_⟩,?_⟩;·intro b o x h;have q:l.b≠b:=λe=>f o x (e ▸ h);rw[iQk (w:=w) (by rw[d];exact eY q)];exact z.mem b o x h
 ·intro r' k1 y;unfold lL at y;split at y;·rename_i e;subst e;cases y;refine⟨l,D,fp.Sa ⟨by rw[G.esz,a],⟨arr,T,fz,by rw[d];exact gI I,by rw[a];exact N,by rw[a];exact H,by rw[a];exact V⟩,C,by rw[a];exact c,λo x h=>(f o x h).elim⟩ (by rw[a,<-G.esz];exact U)⟩
  rename_i q;obtain⟨p,A,B⟩:=z.live r' k1 y;have J:l.b≠p.b:=λe=>q (z.inj r' r k1 k p l y v A D e.symm);exact⟨p,A,B.bk (λ_ _ _ h=>h) (λ_ _ h=>h) (by rw[d];exact eY J) B.frozen⟩
 ·intro r1 r2 k1 W p R s E P S Q;have m : ∀ {r1:Ref} {k1:aY},lL g r k' r1=some k1 ->∃k,g r1=some k:=by
   intro r1 k1 h;unfold lL at h;split at h;·rename_i e;exact⟨k,e ▸ v⟩
   exact⟨k1,h⟩
  obtain⟨_,K⟩:=m s;obtain⟨_,F⟩:=m E;exact z.inj r1 r2 _ _ p R K F P S Q
 refine⟨by rw[d];rfl,by rw[d];rfl,by rw[d];rfl,by rw[d];simp[ca],?_,λ_ _ _ h=>h,λ_ _ h=>h,?_,λ_ _ _ h => .inl h⟩;·intro b _ L;rw[d];exact eY (L r k l v D)
 intro r1 k1 p s E;unfold lL at s;split at s;·rename_i e;subst e;exact .inr ⟨r1,k,p,v,E,rfl⟩
 exact .inr ⟨r1,k1,p,s,E,rfl⟩
end Go.Ab
namespace Go.Ab
open Classical
def SV(ι:Map)(g:cL)(R:List Ref)(b o:Nat):Prop :=∃r∈R,∃k l,g r=some k/\ι r=some l/\l.b=b/\o<k.es.length * k.esz
noncomputable def kA(M:Mem)(ι:Map)(g:cL)(w:World)(R:List Ref):Mem:=λb o=>
 match M b o with
 | some x=>some x
 | none=>if SV ι g R b o then w.cell? ⟨b,o,none⟩ else none
def sC{M ι g w R} : ∀b o x,M b o=some x->kA M ι g w R b o=some x:=by
 intro b o x h;simp[kA,h]
def uP{M ι g w R}(a : ∀b o x,M b o=some x->w.cell? ⟨b,o,none⟩=some x) : ∀b o x,kA M ι g w R b o=some x->w.cell? ⟨b,o,none⟩=some x:=by
 intro b o x h;unfold kA at h;split at h;·rename_i y c;cases h;exact a b o _ c
 split at h;·exact h
 cases h
def uQ{M ι g w R b o x}(h:kA M ι g w R b o=some x):M b o=some x\/SV ι g R b o:=by
 unfold kA at h;split at h;·rename_i y c;cases h;exact .inl c
 split at h;·rename_i a;exact .inr a
 cases h
def DK{n esz i j:Nat}(hi:i<n)(a:j<esz):i * esz+j<n * esz:=by
 have:(i+1) * esz<=n * esz:=lX _ hi;rw[lT]at this;omega
def CX{M ι g w R}(o:gA M ι g w){r:Ref}{k:aY}{l:Loc}(D:r∈R)(q:g r=some k)(n:ι r=some l){i j:Nat}(hi:i<k.es.length)(C:j<k.esz) :
 ∃u,kA M ι g w R l.b (i * k.esz+j)=some u/\u.oneCell'=true/\w.cell? ⟨l.b,i * k.esz+j,none⟩=some u /\
  ∀e x,k.es[i]?=some e->e.cells[j]?=some x->VR M (k.map ι) x u:=by
 obtain⟨H,a,f⟩:=o.live r k q;rw[n]at a;cases a;replace f:=f.cellsOk (by omega);obtain⟨arr,T,fz,v,F,G,s⟩:=f.heap;have c:k.es[i]?=some k.es[i]:=de hi;have B:=f.cells k.es[i] (eO hi);have d:k.es[i].cells[j]?=some (k.es[i].cells[j]'(by omega)):=de _;obtain⟨u,t,E,z⟩:=s i j _ _ c d;have h:w.cell? ⟨l.b,i * k.esz+j,none⟩=some u:=by rw[jB v];exact t
 refine⟨u,?_,E,h,?_⟩
 ·unfold kA;split;·rename_i y A;have:=o.mem _ _ _ A;rw[h]at this;cases this;rfl
  rw[if_pos ⟨r,D,k,l,q,n,rfl,DK hi C⟩];exact h
 intro e x p m;rw[c]at p;cases p;rw[d]at m;cases m;exact z
def KJ{g:cL}{n:Nat}{x y:AV}(h:view g (n+1) x=some y)(c : ∀cs,x ≠ .agg cs):x.cells=[x]/\y.cells=[y]:=by
 refine⟨by cases x<;>first | rfl | exact absurd rfl (c _),?_⟩;cases x with
 | agg cs=>exact absurd rfl (c cs)
 | v x=>simp[view]at h;subst h;rfl
 | tup cs=>simp only[view,bG]at h;obtain⟨_,_,rfl⟩:=h;rfl
 | bq=>simp[view]at h;subst h;rfl
 | iptr=>simp[view]at h;subst h;rfl
 | fsl=>simp[view]at h
 | bA r off len cap=>
  simp only[view]at h;split at h
  ·split at h;·cases h;rfl
   cases h
  cases h
 | dsl r off len cap=>
  simp only[view]at h;split at h
  ·split at h;·simp only[bG]at h;obtain⟨_,_,rfl⟩:=h;rfl
   cases h
  cases h
 | nsl=>simp[view]at h
 | ptr r i j=>
  simp only[view]at h;split at h
  ·split at h;·cases h;rfl
   simp only[bG]at h;obtain⟨_,_,rfl⟩:=h;rfl
  cases h
 | fn f a b=>
  simp only[view]at h;split at h;·cases h;rfl
  cases h
 | ifc t x=>simp only[view,bG]at h;obtain⟨_,_,rfl⟩:=h;rfl
 | yld=>simp[view]at h
 | mp=>simp[view]at h
 | ch=>simp[view]at h
 | yM=>simp[view]at h
 | lp=>simp[view]at h
def xH{g:cL}{n:Nat}{e f:AV}(h:view g (n+1) e=some f) :
 f.cells.length=e.cells.length /\∀(j:Nat) c,f.cells[j]?=some c ->∃m x,m<=n+1/\e.cells[j]?=some x/\view g m x=some c /\∀r∈af g m x,r∈af g (n+1) e:=by
 by_cases b : ∃cs,e = .agg cs;·obtain⟨cs,rfl⟩:=b;simp only[view,bG]at h;obtain⟨ys,d,rfl⟩:=h;refine⟨by simp[AV.cells,gK d],?_⟩;intro j c a;obtain⟨x,b,p⟩:=ot d j c (by simpa [AV.cells] using a);refine⟨n,x,by omega,by simpa [AV.cells] using b,p,?_⟩;intro r i;simp only[af,gC];exact⟨x,fZ b,i⟩
 obtain⟨k,l⟩:=KJ h (λcs o=>b ⟨cs,o⟩);refine⟨by rw[k,l];rfl,?_⟩;intro j c a;rw[l]at a;cases j with
 | zero=>simp at a;subst a;exact⟨n+1,e,bg _,by rw[k];rfl,h,λr i=>i⟩
 | succ j=>simp at a
def BZ{M ι g w R}(hS:gA M ι g w) : ∀(n:Nat)(x y:AV)(u:Value),view g n x=some y->(∀r∈af g n x,r∈R)->VR M ι x u->VR (kA M ι g w R) dC y u:=by
 intro n;induction n using Nat.strongRecOn with | ind n ih=>
 intro x y u h L O;cases n with
 | zero=>simp[view]at h
 | succ n=>
  have D : ∀ {cs ys:List AV} {us:List Value},cs.mapM (view g n)=some ys->(∀r∈cs.flatMap (af g n),r∈R)->lI M ι cs us->lI (kA M ι g w R) dC ys us:=(by intro cs ys us H L hvs;refine⟨by rw[gK H];exact hvs.1,λi y' u hy K=>?_⟩;obtain⟨x,C,hf⟩:=ot H i y' hy;exact ih n (by omega) x y' u hf (λr J=>L r (gC.2 ⟨x,fZ C,J⟩)) (hvs.2 i x u C K));cases x with
  | v x=>simp[view]at h;subst h;cases O with | v hs=>exact .v hs
  | agg cs=>
   simp only[view,bG]at h;obtain⟨ys,H,rfl⟩:=h;cases O with | agg hl W=>
   exact VR.pv.2 (D H (by simpa [af] using L) (VR.pv.1 (.agg hl W)))
  | tup cs=>
   simp only[view,bG]at h;obtain⟨ys,H,rfl⟩:=h;cases O with | tup h0 hl W=>
   rename_i vs;have:=D (us:=vs.toList) H (by simpa [af] using L) ⟨by simpa using hl,λi x u C K=>W i x u C (by simpa using K)⟩;refine .tup ?_ (by simpa using this.1) λi c u hc K=>this.2 i c u hc (by simpa using K);intro e;subst e;have E:=gK H;exact h0 (yG (by simpa using E.symm))
  | bq esz es cap=>
   simp[view]at h;subst h;cases O with | bq cell hs hc N hm F W=>
   exact(VR.bq (M:=M) (ι:=dC) cell hs hc N hm F W).mono sC _ (λ_ _ h=>h)
  | iptr esz es i j=>
   simp[view]at h;subst h;cases O with | iptr cell hm F W=>
   exact(VR.iptr (M:=M) (ι:=dC) cell hm F W).mono sC _ (λ_ _ h=>h)
  | fsl=>simp[view]at h
  | bA r off len cap=>
   simp only[view]at h;split at h
   ·rename_i k N;split at h
    ·rename_i W;cases h;obtain⟨z,B⟩:=W;cases O with | bA J hb hs ha hc hn Z V=>
     rename_i l a c;have P:r∈R:=L r (by simp[af]);have p:=hS.at J V N;have S:((k.es.drop off).take len).length=len:=by simp;omega
     have hat : ∀i,i<len->((k.es.drop off).take len)[i]?=k.es[off+i]?:=(by intro i hi;rw[za,if_pos hi,yE]);have G:0<len->a.off=off * k.esz:=by
      intro h0;rcases ha with h | h
      ·omega
      rw[h,p.esz]
     have key : ∀i j,i<len->j<k.esz ->∃u,kA M ι g w R a.block (a.off+(i * k.esz+j))=some u/\u.oneCell'=true /\∀e x,k.es[off+i]?=some e->e.cells[j]?=some x->VR M (k.map ι) x u:=(by intro i j hi A;obtain⟨u,E,I,_,Y⟩:=CX hS P N J (i:=off+i) (j:=j) (by omega) A;refine⟨u,?_,I,Y⟩;rw[G (by omega),hb,show off * k.esz+(i * k.esz+j)=(off+i) * k.esz+j by rw[lT];omega];exact E);let cell:Nat->Nat->Value:=λi j=>(kA M ι g w R a.block (a.off+(i * k.esz+j))).getD undef
     have:=VR.bq (M:=kA M ι g w R) (ι:=dC) (esz:=k.esz) (es:=(k.es.drop off).take len) (cap:=cap) (a:=a) (c:=c) cell (.inl hs) (by omega) Z
      (by
       intro i j hi A;rw[S]at hi;obtain⟨u,E,I,_⟩:=key i j hi A;simp[cell,E,I])
      (by
       intro e F;exact p.cells e (BX (yF F)))
      (by
       intro i j e x hi C;have q:i<len:=by have:=(dT.1 hi).1;omega
       rw[hat i q]at hi;have A:j<k.esz:=(by rw[<-p.cells e (fZ hi)];exact(dT.1 C).1);obtain⟨u,E,I,Y⟩:=key i j q A;have:=Y e x hi C;rw[aY.map,if_pos z]at this;simp only[cell,E,cb];exact this.mono sC _ (λ_ _ h=>h))
     rw[S]at this;exact this
    cases h
   cases h
  | nsl=>simp[view]at h
  | dsl r off len cap=>
   simp only[view]at h;split at h
   ·rename_i k N;split at h
    ·rename_i W;obtain⟨z,B⟩:=W;simp only[bG]at h;obtain⟨es',d,rfl⟩:=h;cases O with | dsl J hb hs ha hc hn Z V=>
     rename_i l a c;have P:r∈R:=L r (by simp[af]);have p:=hS.at J V N;have hel:=gK d;have S:((es'.drop off).take len).length=len:=by simp;omega
     have hat : ∀i,i<len->((es'.drop off).take len)[i]?=es'[off+i]?:=(by intro i hi;rw[za,if_pos hi,yE]);have G:0<len->a.off=off * k.esz:=by
      intro h0;rcases ha with h | h
      ·omega
      rw[h,p.esz]
     have key : ∀i j,i<len->j<k.esz ->∃u,kA M ι g w R a.block (a.off+(i * k.esz+j))=some u/\u.oneCell'=true /\∀e x,k.es[off+i]?=some e->e.cells[j]?=some x->VR M (k.map ι) x u:=(by intro i j hi A;obtain⟨u,E,I,_,Y⟩:=CX hS P N J (i:=off+i) (j:=j) (by omega) A;refine⟨u,?_,I,Y⟩;rw[G (by omega),hb,show off * k.esz+(i * k.esz+j)=(off+i) * k.esz+j by rw[lT];omega];exact E);let cell:Nat->Nat->Value:=λi j=>(kA M ι g w R a.block (a.off+(i * k.esz+j))).getD undef
     cases n with
     | zero=>
      cases T:k.es with| nil=>rw[T]at d B;simp at d B;subst d;obtain⟨rfl,rfl⟩:=B;have:=VR.bq (M:=kA M ι g w R) (ι:=dC) (esz:=k.esz) (es:=[]) (cap:=cap) (a:=a) (c:=c) cell (.inr rfl) (by simp) Z (by intro i j hi;simp at hi) (by simp) (by intro i j e x hi;simp at hi);simpa using this| cons e es=>rw[T]at d;simp[view]at d
     | succ n=>
      have:=VR.bq (M:=kA M ι g w R) (ι:=dC) (esz:=k.esz) (es:=(es'.drop off).take len) (cap:=cap) (a:=a) (c:=c) cell (.inl hs) (by omega) Z
       (by
        intro i j hi A;rw[S]at hi;obtain⟨u,E,I,_⟩:=key i j hi A;simp[cell,E,I])
       (by
        intro e' he';have he'':=BX (yF he');obtain⟨Q,q,rfl⟩:=o5 he'';obtain⟨e,F,hf⟩:=ot d Q _ (de q);rw[(xH hf).1];exact p.cells e (fZ F))
       (by
        intro Q j' e' x' q hx';have hil:Q<len:=by have:=(dT.1 q).1;omega
        rw[hat Q hil]at q;obtain⟨e,F,hf⟩:=ot d (off+Q) e' q;obtain⟨m,x,hm,C,hfx,X⟩:=(xH hf).2 j' x' hx';have A:j'<k.esz:=(by rw[<-p.cells e (fZ F)];exact(dT.1 C).1);obtain⟨u,E,I,Y⟩:=key Q j' hil A;have U:=Y e x F C;rw[aY.map,if_neg (by simp[z])]at U;simp only[cell,E,cb];refine ih m (by omega) x x' _ hfx ?_ U;intro r' hr';refine L r' ?_;simp only[af,N,ef,gC];exact .inr ⟨e,fZ F,X r' hr'⟩)
      rw[S]at this;exact this
    cases h
   cases h
  | ptr r i j=>
   cases O with | ptr J V=>
   rename_i l;simp only[view]at h;split at h
   ·rename_i k N;have P:r∈R:=L r (by simp[af]);have p:=hS.at J V N;let cell:Nat->Nat->Value:=λi j=>(kA M ι g w R l.b (0+(i * k.esz+j))).getD undef
    have s : ∀i j,i<k.es.length->j<k.esz->kA M ι g w R l.b (0+(i * k.esz+j))=some (cell i j)/\(cell i j).oneCell'=true /\∀e x,k.es[i]?=some e->e.cells[j]?=some x->VR M (k.map ι) x (cell i j):=(by intro i j hi A;obtain⟨u,E,I,_,Y⟩:=CX hS P N J hi A;rw[ue]at *;simp only[cell,ue,E,cb];exact⟨trivial,I,Y⟩);split at h
    ·rename_i z;cases h;have:=VR.iptr (M:=kA M ι g w R) (ι:=dC) (esz:=k.esz) (es:=k.es) (i:=i) (j:=j) (b:=l.b) (o:=0) cell (λi j hi A=>⟨(s i j hi A).1,(s i j hi A).2.1⟩) p.cells
      (by
       intro i j e x hi C;have q:=(dT.1 hi).1;have A:j<k.esz:=by
        rw[<-p.cells e (fZ hi)];exact(dT.1 C).1
       have:=(s i j q A).2.2 e x hi C;rw[aY.map,if_pos z]at this;exact this.mono sC _ (λ_ _ h=>h))
     rw[ue]at this;rw[p.esz];exact this
    rename_i z;simp only[bG]at h;obtain⟨es',d,rfl⟩:=h;cases n with
    | zero=>
     cases T:k.es with| nil=>rw[T]at d;simp at d;subst d;have:=VR.iptr (M:=kA M ι g w R) (ι:=dC) (esz:=k.esz) (es:=[]) (i:=i) (j:=j) (b:=l.b) (o:=0) cell (by intro i j hi;simp at hi) (by simp) (by intro i j e x hi;simp at hi);rw[ue]at this;rw[p.esz];exact this| cons e es=>rw[T]at d;simp[view]at d
    | succ n=>
     have B:=gK d;have:=VR.iptr (M:=kA M ι g w R) (ι:=dC) (esz:=k.esz) (es:=es') (i:=i) (j:=j) (b:=l.b) (o:=0) cell
      (λi j hi A=>⟨(s i j (B ▸ hi) A).1,(s i j (B ▸ hi) A).2.1⟩)
      (by
       intro e' he';obtain⟨Q,q,rfl⟩:=o5 he';obtain⟨e,F,hf⟩:=ot d Q _ (de q);rw[(xH hf).1];exact p.cells e (fZ F))
      (by
       intro Q j' e' x' q hx';obtain⟨e,F,hf⟩:=ot d Q e' q;obtain⟨m,x,hm,C,hfx,X⟩:=(xH hf).2 j' x' hx';have hlt:=(dT.1 F).1;have A:j'<k.esz:=by
        rw[<-p.cells e (fZ F)];exact(dT.1 C).1
       have U:=(s Q j' hlt A).2.2 e x F C;rw[aY.map,if_neg z]at U;refine ih m (by omega) x x' _ hfx ?_ U;intro r' hr';refine L r' ?_;simp only[af,N,if_neg z,ef,gC];exact .inr ⟨e,fZ F,X r' hr'⟩)
     rw[ue]at this;rw[p.esz];exact this
   cases h
  | fn f a b=>
   simp only[view]at h;split at h
   ·rename_i a' b' ha' hb';cases h;cases O with | fn hla hlb hha hhb=>
    rename_i va vb;simp only[af,kQ]at L;have E:=D (us:=va.toList) ha' (λr J=>L r (.inl J)) ⟨by simpa using hla,λi x u C K=>hha i x u C (by simpa using K)⟩;have I:=D (us:=vb.toList) hb' (λr J=>L r (.inr J)) ⟨by simpa using hlb,λi x u C K=>hhb i x u C (by simpa using K)⟩;exact .fn (by simpa using E.1) (by simpa using I.1) (λi c u hc K=>E.2 i c u hc (by simpa using K)) (λi c u hc K=>I.2 i c u hc (by simpa using K))
   cases h
  | ifc t x=>
   simp only[view,bG]at h;obtain⟨y,hy,rfl⟩:=h;cases O with | ifc O=>
   exact .ifc (ih n (by omega) x y _ hy (by simpa [af] using L) O)
  | yld=>simp[view]at h
  | mp=>simp[view]at h
  | ch=>simp[view]at h
  | yM=>simp[view]at h
  | lp=>simp[view]at h
def ti(g:cL)(R:List Ref):cL:=λr=>if r∈R then (g r).map λk => { k with gB:=true} else g r
def zH{M ι g w R}(B:gA M ι g w):gA (kA M ι g w R) ι (ti g R) w/\tz M ι g w (kA M ι g w R) ι (ti g R) w:=by
 have c : ∀ {r k},ti g R r=some k ->∃a,g r=some a/\k = { a with gB:=k.gB}/\(r∈R->k.gB=true)/\(a.gB=true->k.gB=true):=by
  intro r k h;unfold ti at h;split at h;·simp only[bG]at h;obtain⟨a,G,rfl⟩:=h;exact⟨a,G,rfl,λ_=>rfl,λ_=>rfl⟩
  rename_i H;exact⟨k,h,rfl,λD=>absurd D H,λh=>h⟩
 refine⟨⟨uP B.mem,?_,?_⟩,⟨rfl,rfl,rfl,bg _,λ_ _ _=>rfl,sC,λ_ _ h=>h,?_,?_⟩⟩
 ·intro r k h;obtain⟨a,q,F,H,hm⟩:=c h;obtain⟨l,v,d⟩:=B.live r a q;refine⟨l,v,?_⟩;have s:k.es=a.es:=by rw[F]
  have n:k.esz=a.esz:=(by rw[F]);have I:k.arr=a.arr:=(by rw[F]);have p : ∀o x,kA M ι g w R l.b o=some x->k.gB=true/\o<k.es.length * k.esz:=by
   intro o x y;rw[s,n];rcases uQ y with h | ⟨r',z,k',A,m,f,t,C⟩
   ·exact⟨hm (d.frozen o x h).1,(d.frozen o x h).2⟩
   have e:=B.inj r' r k' a A l m q f v t;subst e;rw[q]at m;cases m;exact⟨H z,C⟩
  refine⟨by rw[n];exact d.esz,λE=>?_,λE=>?_,p⟩
  ·replace d:=d.cellsOk (by rw[<-n];exact E);obtain⟨arr,T,fz,N,P,L,Q⟩:=d.heap;refine⟨by rw[n];exact d.esz,⟨arr,T,fz,N,by rw[n];exact P,by rw[n];exact L,?_⟩,by rw[s];exact d.len,by rw[s,n];exact d.cells,p⟩;intro i j e x J y;rw[s]at J;rw[n];obtain⟨u,K,C,O⟩:=Q i j e x J y;refine⟨u,K,C,?_⟩;have:k.map ι=a.map ι:=by unfold aY.map;rw[I]
   rw[this];exact O.mono sC _ (λ_ _ h=>h)
  exact((d.objOk (by rw[<-n];exact E)).mono (M':=kA M ι g w R) sC (λ_ _ h=>h) rfl).same n I s
 ·intro r r' k k' l A h D v f d;obtain⟨a,q,_⟩:=c h;obtain⟨k1,s,_⟩:=c D;exact B.inj r r' _ _ l A q s v f d
 ·intro r k l h v;obtain⟨a,q,_⟩:=c h;exact .inr ⟨r,a,l,q,v,rfl⟩
 intro b o x y;rcases uQ y with h | ⟨r',z,k',A,m,f,t,C⟩
 ·exact .inl h
 exact .inr (.inr ⟨r',k',A,m,f,t⟩)
def LY{g:cL}{R:List Ref}(h:m0 g R=true):ti g R=g:=by
 funext r;unfold ti;split
 ·rename_i a;simp only[m0,dY]at h;have:=h r a;cases b:g r with
  | none=>rfl
  | some k=>rw[b]at this;simp at this;simp[<-this]
 rfl
end Go.Ab
