/-
  The abstract machine: a deterministic evaluator of the model's code over data, in which a slice that nobody writes is a list. No statement of a seat is proved here.
-/
import Derived.WalkKit
import Derived.RangeFuncIn
import Derived.RangeFuncRecord
import Derived.RangeFuncLeaves
import Derived.OrdersIn
set_option linter.unusedVariables false
set_option linter.unusedSimpArgs false
set_option linter.unusedSectionVars false
set_option linter.unnecessarySimpa false
set_option linter.defProp false
namespace Go.Ab
set_option linter.defProp false
def iQa:=@Go.IntWalk.i64_in
def iQb:=@decide_eq_true_eq
def iQc:=@decide_eq_false_iff_not
def iQd:=@Go.Result.andThen_ok
def iQe:=@if_false
def iQf:=@Go.Sem.run_bind
def iQg:=@congrArg
def iQh:=@decide_eq_true
def iQi:=@decide_eq_false
def iQj:=@Go.Sem.run_pure
def iQk:=@Go.World.cell?_of_block
def iQl:=@beq_iff_eq
def iQm:=@Go.World.block_lt_of_cell?
def iQn:=@Go.Steps.trans
def iQo:=@Go.step_lone_go
def iQp:=@cond_true
def iQq:=@Go.Frame.finish_atR
def iQr:=@and_true
def iQs:=@true_and
def iQt:=@cond_false
def iQu:=@or_false
def iQv:=@Go.IntKind.wrap_i32
def iQw:=@Go.mem_ready
def iQx:=@Go.StepsIn.steps
def iQy:=@List.getD_eq_getElem?_getD
def iQz:=@List.exists_cons_of_ne_nil
def iQA:=@of_decide_eq_true
def iQB:=@Go.run_convert_bytes_string
def iQC:=@Go.World.putObj_heap_other
def iQD:=@Go.Value.int.injEq
def iQE:=@List.getElem_cons_succ
def iQF:=@decide_true
def iQG:=@UInt32.toNat_ofBitVec
def iQH:=@UInt8.lt_iff_toNat_lt
def iQI:=@UInt8.le_iff_toNat_le
def iQJ:=@List.countP_le_length
def iQK:=@Nat.div_lt_iff_lt_mul
def iQL:=@Go.run_sliceBound
def iQM:=@Go.size_zeroCells
def iQN:=@List.take_take
def iQO:=@UInt8.toNat_ofBitVec
def iQP:=@BitVec.ofInt_natCast
def iQQ:=@List.map_take
def iQR:=@List.drop_one
def iQS:=@Array.toList_zipIdx
def iQT:=@List.Sublist.append
def iQU:=@Nat.min_self
def iQV:=@Int.le_refl
def bI := @Option.map_eq_some_iff
def bo := @Bool.and_eq_true
def eY := @Option.ite_none_right_eq_some
def dI := @List.getElem?_eq_getElem
def dq := @List.take_of_length_le
def ee := @List.getElem?_eq_some_iff
def iF := @Option.bind_eq_some_iff
def eD := @Option.bind_some
def cG := @Nat.le_refl
def kD := @Array.getElem?_eq_getElem
def dJ := @List.mem_of_getElem?
def cB := @Option.getD_some
def gU := @List.getElem?_append_right
def jb := @Array.getElem?_eq_some_iff
def gT := @Option.isSome_iff_exists
def ef := @Option.some.injEq
def eW := @Bool.false_eq_true
def jU := @List.getElem?_append_left
def eE := @List.getElem_mem
def gf := @List.all_eq_true
def gD := @List.length_cons
def ja := @List.length_append
def iB := @Bool.not_eq_true'
def j7 := @List.mem_cons_of_mem
def kT := @Nat.eq_of_beq_eq_true
def fh := @List.mem_cons
def iK := @List.mem_flatMap
def j6 := @List.mem_cons_self
def fl := @Nat.lt_or_ge
def jH := @Bool.or_eq_true
def mB := @Nat.mul_le_mul_right
def ku := @List.length_take
def iZ := @Bool.true_and
def mA := @List.mem_singleton
def kS := @List.length_nil
def mr := @List.getElem?_map
def mz := @List.flatMap_cons
def iY := @Nat.le_of_lt
def mq := @List.mem_append
def pW := @List.getElem_of_mem
def oD := @List.length_drop
def wV := @Int.tmod_eq_emod_of_nonneg
def qQ := @Bool.not_eq_false'
def nP := @List.mapM_cons
def Ad := @List.eq_nil_of_length_eq_zero
def qP := @List.append_assoc
def tV := @Option.bind_eq_bind
def wU := @List.length_eq_zero_iff
def BZ := @Array.getElem?_setIfInBounds_ne
def mo := @Nat.add_mul
def po := @List.drop_drop
def rJ := @Nat.lt_succ_self
def nO := @List.mem_map
def ya := @List.drop_of_length_le
def rI := @List.append_nil
def qO := @Bool.false_and
def Gy := @Array.getElem?_setIfInBounds_self_of_lt
def xZ := @List.getElem?_eq_none
def sP := @Option.pure_def
def sO := @List.nil_append
def xY := @List.mem_of_mem_take
def xX := @Bool.and_eq_true_iff
def pV := @Nat.sub_self
def Dd := @Array.getD_eq_getD_getElem?
def vH := @Option.getD_none
def wT := @Classical.not_not
def AA := @List.length_replicate
def tU := @List.all_cons
def tT := @Prod.mk.injEq
def Ac := @List.getElem?_drop
def Aa := @Nat.pos_of_ne_zero
def wS := @List.foldl_cons
def BY := @List.take_append_drop
def wR := @List.cons.injEq
def Az := @List.getElem?_take
def Ay := @Nat.lt_of_lt_of_le
def xW := @List.take_left'
def BX := @Array.length_toList
def xV := @List.mem_range
def z9 := @UInt8.toNat_inj
def vG := @Nat.zero_add
def Dc := @List.mem_of_mem_drop
def Fo := @Array.getElem?_push_lt
def Db := @Int.toNat_of_nonneg
def Da := @List.length_pos_iff
def wQ := @Nat.le_trans
def Fm := @List.set_append_right
def Ax := @List.nodup_cons
def Aw := @Nat.min_eq_left
def Gx := @Int.eq_ofNat_of_zero_le
def BW := @List.take_length
def Fl := @List.flatMap_append
def Fk := @List.getElem?_range
def Mm := @Array.eq_empty_of_size_eq_zero
def BU := @List.drop_left'
def Gw := @Array.getElem?_toList
def Gv := @Bool.and_eq_false_iff
def Ml := @List.take_append_of_le_length
def Fj := @Array.ext_getElem?
def Fi := @List.set_cons_zero
def uE := @Nat.add_zero
def zi := @List.not_mem_nil
def zh := @List.map_append
def uD := @Nat.zero_le
def vI := @Int.pow_succ
def xq := @Nat.lt_irrefl
def xp := @List.map_cons
def GY := @Int.tdiv_eq_ediv_of_nonneg
def Eu := @List.length_singleton
def zg := @Bool.not_false
def AG := @Option.map_none
def AF := @List.length_map
def CG := @Nat.lt_trichotomy
def CF := @Nat.lt_succ_of_lt
def zf := @Sum.inr.injEq
def ze := @Bool.false_or
def GX := @List.getElem?_cons_succ
def GW := @List.getElem?_set_self
def Et := @Nat.eq_zero_or_pos
def GV := @Nat.le_of_ble_eq_true
def GU := @Array.getElem?_modify
def AE := @Sum.inl.injEq
def AD := @Bool.not_true
def KZ := @List.takeWhile_cons_of_pos
def KY := @List.takeWhile_cons_of_neg
def Es := @List.take_add_one
def KX := @List.drop_eq_getElem_cons
def GS := @List.getElem?_set_ne
def AB := @Bool.or_self
def Er := @List.flatMap_nil
def GR := @Bool.or_eq_true_iff
def GQ := @List.mem_map_of_mem
def KW := @List.getElem?_cons_zero
def KV := @Nat.add_sub_cancel_left
def ta := @Ne.symm
def GP := @BitVec.toNat_ofInt
def Ep := @List.mem_filter
def KU := @UInt32.toNat_shiftLeft
def Eo := @Bool.and_false
def OZ := @Option.ite_none_left_eq_some
def KT := @List.contains_iff_mem
def En := @List.drop_zero
def KS := @List.mem_append_left
def GO := @Option.bind_none
def GN := @Int.natCast_zero
def OY := @Array.getElem?_append_left
def Em := @Bool.and_self
def CE := @Nat.le_succ
def KR := @List.replicate_zero
def GM := @Option.some.inj
def OX := @List.extract_eq_take_drop
def OW := @List.mem_or_eq_of_mem_set
def OV := @List.getElem?_take_of_lt
def OU := @Array.getElem?_replicate
def El := @List.map_nil
def OT := @List.filter_cons_of_neg
def KQ := @List.ext_getElem?
def KP := @Int.toNat_natCast
def KO := @List.nodup_append
def GL := @Nat.add_assoc
def GK := @Bool.and_true
def KN := @Nat.shiftLeft_eq
def KM := @List.any_eq_true
def KL := @Array.toList_inj
def KK := @Nat.mod_eq_of_lt
def KJ := @Nat.min_eq_right
def UC := @List.take_succ_eq_append_getElem
def KI := @List.cons_append
def KH := @List.drop_length
def OS := @List.getElem?_toArray
def UB := @List.replicate_append_replicate
def GJ := @List.map_set
def UA := @List.eq_nil_iff_forall_not_mem
def OR := @Array.toList_extract
def GI := @List.all_nil
def GH := @Nat.succ_mul
def GG := @List.map_map
def OQ := @List.range_eq_range'
def KG := @Int.natCast_pow
def GF := @Int.add_zero
def GD := @Int.lt_or_le
def OP := @Bool.or_eq_false_iff
def OO := @List.replicate_succ
def Uz := @List.dropLast_concat_getLast
def GC := @Nat.le_zero
def GB := @Nat.sub_mul
def ON := @Nat.lt_or_gt_of_ne
def OM := @Array.foldl_toList
def Uy := @Nat.two_pow_add_eq_or_of_lt
def OL := @List.zip_cons_cons
def KF := @List.mapM_nil
def OK := @Int.emod_eq_of_lt
def GA := @Array.ext'
def Gz := @Nat.not_lt
def OJ := @UInt32.toNat_inj
def KE := @Nat.mul_comm
def OI := @List.length_set
structure Ref where
 d:Nat
 t:Nat
 g:Nat
 k:Nat:=0
deriving DecidableEq,Inhabited
inductive AV where
 | v (x:Value)
 | agg (cs:List AV)
 | tup (vs:List AV)
 | bg (esz:Nat) (es:List AV) (cap:Option Nat)
 | bk (r:Ref) (off len:Nat) (cap:Option Nat)
 | dsl (r:Ref) (off len:Nat) (cap:Option Nat)
 | nsl (esz:Nat) (es:List AV) (cap:Option Nat)
 | fsl (esz:Nat) (es:List AV) (cap:Option Nat)
 | ptr (r:Ref) (i j:Nat)
 | iptr (esz:Nat) (es:List AV) (i j:Nat)
 | fn (f:Fn) (first captured:List AV)
 | ifc (t:TypeId) (x:AV)
 | yld (r:Ref)
 | mp (r:Ref)
 | ch (r:Ref)
 | Aj (u:Value)
 | lp (f:FuncId) (nt:Nat) (ps:List Tmp) (assign body:Code) (tm:List AV)
def AV.undef:AV := .v Go.undef
instance:Inhabited AV:=⟨AV.undef⟩
def AV.cells:AV->List AV
 | .agg cs=>cs
 | x=>[x]
def AV.one:AV->Bool
 | .v (.tuple _) | .v (.agg _) | .agg _ | .tup _ | .fsl .. | .nsl .. | .lp .. => false
 | _=>true
structure bj where
 esz:Nat
 es:List AV
 arr:Bool
 gR:Bool
deriving Inhabited
def scalar:Value->Bool
 | .bool _ | .int _ _ | .float _ _ | .complex _ _ _ | .string _=>true
 | .pointer none | .slice none 0 0 | .map none | .chan none | .nilFunc | .nilIface=>true
 | .tuple a=>a.isEmpty
 | _=>false
def iO(x:Value):Option AV:=if scalar x then some (.v x) else none
def ofValue:Value->Option AV
 | .agg cs=>(cs.toList.mapM iO).map .agg
 | .func f first captured=>if first.isEmpty&&captured.isEmpty then some (.fn f [] []) else none
 | .tuple a=>if a.isEmpty then some (.v (.tuple #[])) else (a.toList.mapM iO).map .tup
 | .iface t x=>(iO x).map (.ifc t)
 | x=>iO x
def JY:AV->Option Value
 | .v x=>some x
 | _=>none
def kH:AV->Option Value
 | .v x=>some x
 | .agg cs=>(cs.mapM JY).map λl => .agg l.toArray
 | _=>none
def bE{b:Type}(P:Program):Sem b->Option b
 | .pure a=>some a
 | .program k=>bE P (k P)
 | .mark _ k=>bE P k
 | _=>none
abbrev aa:=List (Ref × Option bj)
abbrev cV:=Ref->Option bj
def aa.get:aa->Ref->Option bj
 | [],_=>none
 | (r',b) :: h,r=>if r'=r then b else aa.get h r
def aa.gen:aa->Nat->Nat->Nat
 | [],_,_=>0
 | (r',_) :: h,d,t=>if r'.d=d/\r'.t=t then r'.g+1 else aa.gen h d t
def aa.put:aa->Ref->Option bj->aa
 | [],r,b=>[(r,b)]
 | (r',a) :: h,r,b=>if r'=r then (r,b) :: h else (r',a) :: aa.put h r b
def df:List AV->Nat->AV
 | [],_=>AV.undef
 | x :: _,0=>x
 | _ :: l,n+1=>df l n
def CP:List AV->Nat->AV->List AV
 | [],0,v=>[v]
 | [],n+1,v=>AV.undef :: CP [] n v
 | _ :: l,0,v=>v :: l
 | x :: l,n+1,v=>x :: CP l n v
structure St where
 tm:List AV
 hp:aa
def aE(P:Program)(t:TypeId):Option Nat:=(P.info? t).map (·.size)
def gP(P:Program)(t:TypeId):Option Nat:=(P.info? t).map (·.bytes)
def eu(P:Program)(t:TypeId):Option AV:=((P.info? t).bind (·.zero)).bind ofValue
def eK(P:Program)(t:TypeId):Option Bool:=(P.underlying t).map fun | .struct _ | .array _ _=>true | _=>false
def rN(P:Program)(t:TypeId)(f:Nat):Option (Nat × TypeId):=
 match P.underlying t with
 | some (.struct a)=>(a[f]?).map λx=>(x.offset,x.type)
 | _=>none
def ca(P:Program)(t:TypeId):Option TypeId:=
 match P.underlying t with
 | some (.slice e)=>some e
 | _=>none
def ly(P:Program)(t:TypeId):Option (Nat × TypeId):=
 match P.underlying t with
 | some (.array n e)=>some (n,e)
 | _=>none
def bF(es:List AV)(i j n:Nat)(a:Bool):Option AV:=
 match es[i]? with
 | none=>none
 | some e=>
  if a then (if j+n<=e.cells.length/\0<n then some (.agg ((e.cells.drop j).take n)) else none) else e.cells[j]?
def patch(cs:List AV)(j:Nat)(new:List AV):List AV:=cs.take j++new++cs.drop (j+new.length)
def nZ(e:AV)(j:Nat)(new:List AV):Option AV:=
 match e with
 | .agg cs=>if j+new.length<=cs.length then some (.agg (patch cs j new)) else none
 | _=>match j,new with
  | 0,[x]=>some x
  | _,_=>none
def fm(es:List AV)(i j:Nat)(new:List AV):Option (List AV):=
 match es[i]? with
 | none=>none
 | some e=>(nZ e j new).map λa=>es.set i a
def view(g:cV):Nat->AV->Option AV
 | 0,_=>none
 | n+1,x=>
  match x with
  | .v x=>some (.v x)
  | .agg cs=>(cs.mapM (view g n)).map .agg
  | .tup cs=>(cs.mapM (view g n)).map .tup
  | .bg esz es cap=>some (.bg esz es cap)
  | .fsl .. => none
  | .iptr esz es i j=>some (.iptr esz es i j)
  | .bk r off len cap=>
   match g r with
   | some b=>if b.arr=true/\off+len<=b.es.length then some (.bg b.esz ((b.es.drop off).take len) cap) else none
   | none=>none
  | .nsl .. => none
  | .dsl r off len cap=>
   match g r with
   | some b=>if b.arr=false/\off+len<=b.es.length then (b.es.mapM (view g n)).map λes => .bg b.esz ((es.drop off).take len) cap else none
   | none=>none
  | .ptr r i j=>
   match g r with
   | some b=>if b.arr then some (.iptr b.esz b.es i j) else (b.es.mapM (view g n)).map λes => .iptr b.esz es i j
   | none=>none
  | .fn f a b=>match a.mapM (view g n),b.mapM (view g n) with
   | some a,some b=>some (.fn f a b)
   | _,_=>none
  | .ifc t x=>(view g n x).map (.ifc t)
  | .yld _ | .mp _ | .ch _ | .Aj _ | .lp .. => none
def ah(g:cV):Nat->AV->List Ref
 | 0,_=>[]
 | n+1,x=>
  match x with
  | .agg cs | .tup cs=>cs.flatMap (ah g n)
  | .bk r _ _ _=>[r]
  | .dsl r _ _ _=>r :: (match g r with | some b=>b.es.flatMap (ah g n) | none=>[])
  | .ptr r _ _=>r :: (match g r with | some b=>if b.arr then [] else b.es.flatMap (ah g n) | none=>[])
  | .fn _ a b=>a.flatMap (ah g n)++b.flatMap (ah g n)
  | .ifc _ x=>ah g n x
  | .mp r=>[r]
  | .ch r=>[r]
  | _=>[]
def flat:Nat->AV->Bool
 | 0,_=>false
 | n+1,x=>
  match x with
  | .v _=>true
  | .agg cs | .tup cs=>cs.all (flat n)
  | .ifc _ x=>flat n x
  | .fn _ a b=>a.all (flat n)&&b.all (flat n)
  | _=>false
def cg(H:aa):List Ref->aa
 | []=>H
 | r :: rs=>match H.get r with
  | some b=>cg (H.put r (some { b with gR:=true})) rs
  | none=>cg H rs
def mV(g:cV)(rs:List Ref):Bool:=rs.all λr=>match g r with | some b=>b.gR | none=>false
def depth:Nat:=8
def aP(tm:List AV):Operand->Option AV
 | .tmp t=>some (df tm t)
 | .const v=>ofValue v
 | .func f=>some (.fn (.func f) [] [])
 | .global _=>none
def uo:AV->Option Int
 | .v (.int _ n)=>some n
 | _=>none
def E9:AV->Option Bool
 | .v (.bool b)=>some b
 | _=>none
def aJ:Nat:=140737488355328
def cy(g:cV):AV->Option (Nat × List AV)
 | .v (.string s)=>some (1,s.data.toList.map λb => .v (.int .u8 b.toNat))
 | .bg esz es _=>some (esz,es)
 | .bk r off len _=>match g r with
  | some b=>if b.arr=true/\off+len<=b.es.length then some (b.esz,(b.es.drop off).take len) else none
  | none=>none
 | _=>none
def bounds(len:Nat)(cap:Option Nat)(lo hi a:Option Int):Option (Nat × Nat × Option Nat):=
 match a with
 | some m=>
  match hi with
  | some h=>if 0<=lo.getD 0/\lo.getD 0<=h/\h<=m/\m<=cap.getD len/\h<=len then some ((lo.getD 0).toNat,h.toNat,some (m.toNat - (lo.getD 0).toNat)) else none
  | none=>none
 | none=>if 0<=lo.getD 0/\lo.getD 0<=hi.getD len/\hi.getD len<=len then some ((lo.getD 0).toNat,(hi.getD len).toNat,cap.map (· - (lo.getD 0).toNat)) else none
def mJ(tm:List AV):Option Operand->Option (Option Int)
 | none=>some none
 | some o=>match (aP tm o).bind uo with
  | some n=>some (some n)
  | none=>none
def AQ(P:Program)(t:TypeId)(cs:List AV)(a:Nat):Option AV:=
 match eK P t,aE P t with
 | some true,some n=>if a+n<=cs.length then some (.agg ((cs.drop a).take n)) else none
 | some false,_=>cs[a]?
 | _,_=>none
def wh(a:Nat->Option (Nat × Nat))(cells:List AV):List (Nat × AV)->Option (List AV)
 | []=>some cells
 | (i,v) :: rest=>
  match a i with
  | none=>none
  | some (off,size)=>
   if v.cells.length=size/\off+size<=cells.length then wh a (patch cells off v.cells) rest else none
def aD(P:Program)(t:TypeId)(i:Nat):Option (Nat × Nat):=
 match rN P t i with
 | some (off,a)=>(aE P a).map λn=>(off,n)
 | none=>none
def gZ(P:Program)(t:TypeId):Option (List (Nat × Nat)):=
 match P.underlying t with
 | some (.struct a)=>a.toList.mapM λf=>(P.info? f.type).map λi=>(f.offset,i.size)
 | _=>none
def hY(es:List AV):List (Nat × AV)->Option (List AV)
 | []=>some es
 | (i,v) :: rest=>if i<es.length then hY (es.set i v) rest else none
def ia(tm:List AV)(ps:List (Nat × Operand)):Option (List (Nat × AV)):=
 ps.mapM λ(i,o)=>(aP tm o).map λx=>(i,x)
def xc(P:Program)(a:BinOp)(t:TypeId)(xo yo:Operand)(x y:Value):Option Value:=
 bE P (do eqGuard a t xo yo x y;binOp a t x y)
def uW:AV->Option Nat
 | .v (.slice none 0 0)=>some 0
 | .bg _ es _=>some es.length
 | .bk _ _ n _=>some n
 | .dsl _ _ n _=>some n
 | _=>none
def LF(f:Value->Value->Sem Value)(P:Program)(args:List AV):Option AV:=
 match args.mapM JY with
 | some (x :: rest)=>(bE P (rest.foldlM f x)).bind iO
 | _=>none
def byteOf:AV->Option UInt8
 | .v (.int .u8 n)=>some (UInt8.ofNat n.toNat)
 | _=>none
abbrev jx:=Option (AV × List bj)
def iL(x:Option AV):jx:=x.map (·,[])
def Ie(d:Operand->Option AV)(c a b:Operand):jx:=
 match (d c).bind E9 with
 | some true=>iL (d a)
 | some false=>iL (d b)
 | none=>none
def vX(P:Program)(r:Ref)(e:TypeId):jx:=
 match eu P e,aE P e with
 | some z,some n=>if z.cells.length=n/\z.cells.all AV.one/\0<n then some (.ptr r 0 0,[⟨n,[z],false,false⟩]) else none
 | _,_=>none
def Lx(P:Program)(r:Ref)(e:TypeId)(x:Option AV):jx:=
 match x,aE P e with
 | some x,some n=>if x.cells.length=n/\x.cells.all AV.one/\0<n then some (.ptr r 0 0,[⟨n,[x],false,false⟩]) else none
 | _,_=>none
def mI(P:Program)(t:TypeId)(a:Option (List (Nat × AV))):jx:=
 match eu P t,a with
 | some (.agg z),some a=>
  match ly P t with
  | some (_,e)=>match aE P e with
   | some n=>(wh (λi=>some (i * n,n)) z a).map λcs=>(.agg cs,[])
   | none=>none
  | none=>match gZ P t with
   | some ps=>(wh (ps[·]?) z a).map λcs=>(.agg cs,[])
   | none=>none
 | _,_=>none
def dp(g:cV)(a:List (Nat × AV)):Option (List (Nat × AV)):=a.mapM λ(i,x)=>(view g depth x).map (i,·)
def ct(g:cV)(a:List AV):List Ref:=a.flatMap (ah g depth)
def mkSlice(P:Program)(g:cV)(t:TypeId)(n:Nat)(a:List (Nat × AV)):Option bj:=
 match ca P t with
 | none=>none
 | some e=>match dp g a,eu P e,aE P e with
  | some ws,some z,some s=>
   if 0<s/\n * s<=16777216/\z.cells.length=s/\z.cells.all AV.one/\ws.all (λp=>p.2.cells.length=s&&p.2.cells.all AV.one) then
    (hY (List.replicate n z) ws).map λes=>⟨s,es,true,false⟩
   else none
  | _,_,_=>none
def gx(P:Program)(a:Bool)(g:cV)(r:Ref)(t:TypeId)(n:Nat)(c:Option (List (Nat × AV))):jx:=
 match c with
 | none=>none
 | some c=>if mV g (ct g (c.map (·.2))) then (mkSlice P g t n c).map λb=>(if a then (.bg b.esz b.es (some n),[]) else (.bk r 0 n (some n),[b])) else none
def ow(P:Program)(g:cV)(t:TypeId)(a:Option AV):jx:=
 match a,eK P t,aE P t with
 | some (.ptr r' i j),some c,some n=>match g r' with
  | some b=>iL (bF b.es i j n c)
  | none=>none
 | some (.iptr _ es i j),some c,some n=>iL (bF es i j n c)
 | _,_,_=>none
def Nd(x:Option AV):jx:=
 match x with
 | some (.ptr r' i j)=>some (.ptr r' i j,[])
 | some (.iptr n es i j)=>some (.iptr n es i j,[])
 | some (.fn (.func f) a b)=>some (.fn (.func f) a b,[])
 | _=>none
def F8:AV->Bool
 | .bg .. | .bk .. | .dsl .. => true
 | _=>false
def jW:AV->Bool
 | .v (.slice none 0 0)=>true
 | _=>false
def bC(P:Program)(a:BinOp)(t:TypeId)(xo yo:Operand)(x y:Option AV):jx:=
 match x,y with
 | some x,some y=>
  if F8 x&&jW y||F8 y&&jW x then
   match P.underlying t,a with
   | some (.slice _),.eql=>some (.v (.bool false),[])
   | some (.slice _),.neq=>some (.v (.bool true),[])
   | _,_=>none
  else
   match kH x,kH y with
   | some x,some y=>iL ((xc P a t xo yo x y).bind iO)
   | _,_=>none
 | _,_=>none
def Zl(P:Program)(a:UnOp)(x:Option AV):jx:=
 iL (((x.bind JY).bind λx=>bE P (Op.unary a x)).bind iO)
def dD(P:Program)(t:TypeId):Bool:=
 match P.underlying t with
 | some (.slice e)=>(match P.underlying e with | some (.int .u8)=>true | _=>false)
 | _=>false
def isStr(P:Program)(t:TypeId):Bool:=match P.underlying t with | some .string=>true | _=>false
def bY(P:Program)(g:cV)(r:Ref)(src dst:TypeId)(x:Option AV):jx:=
 match x with
 | some (.v (.slice none 0 0))=>if dD P src&&isStr P dst then some (.v (.string .empty),[]) else none
 | some (.v (.string s))=>
  if isStr P src&&isStr P dst then some (.v (.string s),[])
  else if isStr P src&&dD P dst then
   (if s.size<=aJ then some (.bk r 0 s.size none,[⟨1,s.data.toList.map λb => .v (.int .u8 b.toNat),true,false⟩]) else none)
  else none
 | some (.v x)=>iL ((bE P (Go.convert src dst x)).bind iO)
 | some x=>if dD P src&&isStr P dst then
  match cy g x with
  | some (_,es)=>(es.mapM byteOf).map λl=>(.v (.string ⟨l.toArray⟩),[])
  | none=>none
  else if src == dst&&dD P src then
   match x with
   | .bk r' _ _ _=>(match g r' with
    | some b=>if b.esz=1 then some (x,[]) else none
    | none=>none)
   | _=>none
  else none
 | none=>none
def zI(P:Program)(t:TypeId)(x:Option AV):jx:=
 match P.underlying t with
 | some (.interface _)=>none
 | some _=>x.map λx=>(.ifc t x,[])
 | none=>none
def Ai(f:Fn)(first captured:Option (List AV)):jx:=
 match first,captured with
 | some a,some b=>some (.fn f a b,[])
 | _,_=>none
def yL(P:Program)(r:Ref)(t:TypeId)(l c:Option AV):jx:=
 match ca P t,l.bind uo,c.bind uo with
 | some e,some l,some c=>match eu P e,aE P e,gP P e with
  | some z,some s,some b=>
   if 0<=l/\l<=c/\c * b<=aJ/\c<=9223372036854775807/\0<s/\z.cells.length=s/\z.cells.all AV.one then some (.bk r 0 l.toNat none,[⟨s,List.replicate l.toNat z,true,false⟩]) else none
  | _,_,_=>none
 | _,_,_=>none
def cr(P:Program)(g:cV)(t:TypeId)(x:Option AV)(lo hi a:Option (Option Int)):jx:=
 match lo,hi,a with
 | some lo,some hi,some a=>
  match x with
  | some (.v (.slice none 0 0))=>if ((ca P t).bind (aE P)).isSome then (bounds 0 (some 0) lo hi a).map λ_=>(.v (.slice none 0 0),[]) else none
  | some (.v (.string s))=>if isStr P t&&a.isNone then (bounds s.size none lo hi none).map λ(l,h,_)=>(.v (.string (s.extract l h)),[]) else none
  | some (.bg esz es cap)=>if (ca P t).bind (aE P)=some esz then (bounds es.length cap lo hi a).map λ(l,h,c)=>(.bg esz ((es.drop l).take (h - l)) c,[]) else none
  | some (.bk r' off len cap)=>(match g r' with
   | some b=>if (ca P t).bind (aE P)=some b.esz then (bounds len cap lo hi a).map λ(l,h,c)=>(.bk r' (off+l) (h - l) c,[]) else none
   | none=>none)
  | some (.dsl r' off len cap)=>(match g r' with
   | some b=>if (ca P t).bind (aE P)=some b.esz then (bounds len cap lo hi a).map λ(l,h,c)=>(.dsl r' (off+l) (h - l) c,[]) else none
   | none=>none)
  | _=>none
 | _,_,_=>none
def lW(P:Program)(g:cV)(t:TypeId)(x:Option AV)(lo hi a:Option (Option Int)):jx:=
 match lo,hi,a,x with
 | some lo,some hi,some none,some (.bk r' off len cap)=>(match g r' with
  | some b=>if (ca P t).bind (aE P)=some b.esz/\0<=lo.getD 0/\lo.getD 0<=hi.getD len/\hi.getD len<=cap.getD len then
   some (.bk r' (off+(lo.getD 0).toNat) ((hi.getD len).toNat - (lo.getD 0).toNat) (cap.map (· - (lo.getD 0).toNat)),[]) else none
  | none=>none)
 | _,_,_,_=>none
def Ig(P:Program)(g:cV)(t:TypeId)(args:List AV):jx:=
 match args,ca P t with
 | [.bk r _ _ _,.bk r' _ _ _],some e=>(match g r,g r',aE P e with
  | some b,some a,some z=>if r≠r'/\1<b.esz/\b.esz=z/\a.esz=z then some (.v (.bool false),[]) else none
  | _,_,_=>none)
 | _,_=>none
def Fz(rR:FuncId->Option TypeId)(a:Bool)(f:Operand):Option TypeId:=match a,f with
 | false,.func b=>rR b
 | _,_=>none
@[simp] def zL(rR:FuncId->Option TypeId)(f:Operand):Fz rR true f=none:=by cases f<;>rfl
def iM(P:Program)(t:TypeId)(x:Option AV)(f:Nat):jx:=
 match aD P t f with
 | some (off,s)=>if 0<s then
  match x with
  | some (.ptr r' i j)=>some (.ptr r' i (j+off),[])
  | some (.iptr n es i j)=>some (.iptr n es i (j+off),[])
  | _=>none
  else none
 | none=>none
def tn(P:Program)(t:TypeId)(x:Option AV)(f:Nat):jx:=
 match rN P t f,x with
 | some (off,a),some (.agg cs)=>iL (AQ P a cs off)
 | _,_=>none
def bH(P:Program)(g:cV)(t:TypeId)(x a:Option AV):jx:=
 match a.bind uo with
 | some k=>
  match ca P t with
  | some e=>match x,aE P e with
   | some (.bg esz es _),some s=>if 0<=k/\k<es.length/\s=esz then some (.iptr esz es k.toNat 0,[]) else none
   | some (.bk r' off len _),some s=>(match g r' with
    | some b=>if 0<=k/\k<len/\s=b.esz then some (.ptr r' (off+k.toNat) 0,[]) else none
    | none=>none)
   | some (.dsl r' off len _),some s=>(match g r' with
    | some b=>if 0<=k/\k<len/\s=b.esz then some (.ptr r' (off+k.toNat) 0,[]) else none
    | none=>none)
   | _,_=>none
  | none=>match ly P t with
   | some (n,e)=>match x,aE P e with
    | some (.ptr r' i j),some s=>if 0<=k/\k<n then some (.ptr r' i (j+k.toNat * s),[]) else none
    | some (.iptr esz es i j),some s=>if 0<=k/\k<n then some (.iptr esz es i (j+k.toNat * s),[]) else none
    | _,_=>none
   | none=>none
 | none=>none
def xD(P:Program)(t:TypeId)(x a:Option AV):jx:=
 match a.bind uo,x with
 | some k,some (.agg cs)=>(match ly P t with
  | some (n,e)=>(match aE P e with
   | some s=>if 0<=k/\k<n then iL (AQ P e cs (k.toNat * s)) else none
   | none=>none)
  | none=>none)
 | some k,some (.v (.string s))=>if isStr P t/\0<=k then iL ((s[k.toNat]?).map λb => .v (.int .u8 b.toNat)) else none
 | _,_=>none
def BD(P:Program)(x:Option AV)(a:TypeId)(ok:Bool):jx:=
 match P.underlying a,x with
 | some (.interface _),_=>none
 | some _,some (.ifc t y)=>
  if t=a then some ((if ok then .tup [y,.v (.bool true)] else y),[])
  else if ok then (eu P a).map λz=>(.tup [z,.v (.bool false)],[]) else none
 | some _,some (.v .nilIface)=>if ok then (eu P a).map λz=>(.tup [z,.v (.bool false)],[]) else none
 | _,_=>none
def ud(x:Option AV)(i:Nat):jx:=
 match x with
 | some (.tup a)=>iL (a[i]?)
 | _=>none
def pP(a:List AV):bj:=⟨0,.v (.bool true) :: a,false,false⟩
def nT(g:cV)(r:Ref):Option (List AV):=match g r with
 | some ⟨0,.v (.bool true) :: a,false,_⟩=>some a
 | _=>none
def IV(cap:Nat)(b:Bool)(a:List AV):bj:=⟨0,.v (.bool false) :: .v (.int .i64 cap) :: .v (.bool b) :: a,false,false⟩
def Xk(g:cV)(r:Ref):Option (Nat × Bool × List AV):=match g r with
 | some ⟨0,.v (.bool false) :: .v (.int .i64 cap) :: .v (.bool a) :: buf,false,_⟩=>some (cap.toNat,a,buf)
 | _=>none
def MK(P:Program)(t:TypeId):Option TypeId:=match P.underlying t with
 | some (.chan _ e)=>some e
 | _=>none
def Pc(P:Program)(t:TypeId):Option (TypeId × TypeId):=match P.underlying t with
 | some (.map k e)=>some (k,e)
 | _=>none
def IS:AV->Option Value
 | .tup [k,_]=>kH k
 | _=>none
def LS:AV->Option AV
 | .tup [_,v]=>some v
 | _=>none
def DI(P:Program)(a:Bool)(b:TypeId)(k:Value)(c:List Value):Option (Option Nat):=
 match bE P (Instr.checkKey a 10000 b k) with
 | some _=>(bE P (Instr.findKey b k (c.map λx=>⟨x,Go.undef,0⟩))).map λo=>o.map (·.1)
 | none=>none
def o4(P:Program)(g:cV)(t:TypeId)(x k:Option AV)(ok:Bool):jx:=
 match Pc P t,x,k.bind kH with
 | some (e,c),some (.mp r),some d=>(match nT g r with
  | some a=>(match a.mapM IS with
   | some b=>(match DI P b.isEmpty e d b with
    | some (some i)=>(a[i]?.bind LS).map λv=>((if ok then .tup [v,.v (.bool true)] else v),[])
    | some none=>(eu P c).map λz=>((if ok then .tup [z,.v (.bool false)] else z),[])
    | none=>none)
   | none=>none)
  | none=>none)
 | _,_,_=>none
def BC(P:Program)(g:cV)(t:Option TypeId)(r:Ref):jx:=
 match t.bind (Pc P),nT g r with
 | some _,some a=>some (.v (.int .i64 a.length),[])
 | _,_=>none
def Q7:Value->Value->Bool
 | .bool a,.bool b=>a == b
 | .int k n,.int k' d=>decide (k=k')&&decide (n=d)
 | .string s,.string t=>decide (s=t)
 | .slice none a b,.slice none e c=>Nat.beq a e&&Nat.beq b c
 | .nilFunc,.nilFunc=>true
 | .nilIface,.nilIface=>true
 | _,_=>false
def KA:Nat->AV->AV->Bool
 | 0,_,_=>false
 | n+1,x,y=>
  match x,y with
  | .v u,.v v=>Q7 u v
  | .agg cs,.agg ds=>Nat.beq cs.length ds.length&&(cs.zip ds).all λp=>KA n p.1 p.2
  | .bg z es c,.bg a es' c'=>Nat.beq z a&&decide (c=c')&&Nat.beq es.length es'.length&&(es.zip es').all λp=>KA n p.1 p.2
  | _,_=>false
def HW(r r':Ref):Bool:=Nat.beq r.t r'.t&&Nat.beq r.g r'.g&&Nat.beq r.d r'.d&&Nat.beq r.k r'.k
def Cs:Nat->AV->AV->Bool
 | 0,_,_=>false
 | n+1,x,y=>
  match x,y with
  | .v u,.v v=>Q7 u v
  | .agg cs,.agg ds=>Nat.beq cs.length ds.length&&(cs.zip ds).all λp=>Cs n p.1 p.2
  | .tup cs,.tup ds=>Nat.beq cs.length ds.length&&(cs.zip ds).all λp=>Cs n p.1 p.2
  | .bg z es c,.bg k es' c'=>Nat.beq z k&&decide (c=c')&&Nat.beq es.length es'.length&&(es.zip es').all λp=>Cs n p.1 p.2
  | .bk r a b c,.bk r' e d c'=>HW r r'&&Nat.beq a e&&Nat.beq b d&&decide (c=c')
  | .dsl r a b c,.dsl r' e d c'=>HW r r'&&Nat.beq a e&&Nat.beq b d&&decide (c=c')
  | .ptr r i j,.ptr r' l g=>HW r r'&&Nat.beq i l&&Nat.beq j g
  | .mp r,.mp r'=>HW r r'
  | .ch r,.ch r'=>HW r r'
  | .fn (.func f) a b,.fn (.func h) e d=>Nat.beq f h&&(Nat.beq a.length e.length&&(a.zip e).all λp=>Cs n p.1 p.2)&&(Nat.beq b.length d.length&&(b.zip d).all λp=>Cs n p.1 p.2)
  | .ifc t x,.ifc t' m=>Nat.beq t t'&&Cs n x m
  | _,_=>false
def L3(k k':bj):Bool:=Nat.beq k.esz k'.esz&&k.arr == k'.arr&&k.gR == k'.gR&&Nat.beq k.es.length k'.es.length&&(k.es.zip k'.es).all λp=>Cs 8 p.1 p.2
def IH(H H':aa):Bool:=H.all λp=>match H.get p.1 with
 | none=>true
 | some k=>match H'.get p.1 with
  | none=>false
  | some k'=>L3 k k'
def WA(a b:List AV):Bool:=Nat.beq a.length b.length&&(a.zip b).all λp=>KA 8 p.1 p.2
def LG:List (FuncId × List AV × AV)->FuncId->List AV->Option AV
 | [],_,_=>none
 | (g,xs,y) :: T,f,args=>if Nat.beq g f&&WA xs args then some y else LG T f args
def ao(r:Ref):Nat->AV->List bj->AV × List bj
 | 0,x,bs=>(x,bs)
 | n+1,x,bs=>
  match x with
  | .fsl esz es cap=>if esz=0 then (.mp { r with k:=bs.length},bs++[⟨0,es,false,false⟩]) else (.bk { r with k:=bs.length} 0 es.length cap,bs++[⟨esz,es,true,false⟩])
  | .nsl esz es cap=>let (ys,bs):=es.foldl (λ(p:List AV × List bj) c=>let (y,bs):=ao r n c p.2;(p.1++[y],bs)) ([],bs);(.dsl { r with k:=bs.length} 0 es.length cap,bs++[⟨esz,ys,false,false⟩])
  | .agg cs=>let (ys,bs):=cs.foldl (λ(p:List AV × List bj) c=>let (y,bs):=ao r n c p.2;(p.1++[y],bs)) ([],bs);(.agg ys,bs)
  | .tup cs=>let (ys,bs):=cs.foldl (λ(p:List AV × List bj) c=>let (y,bs):=ao r n c p.2;(p.1++[y],bs)) ([],bs);(.tup ys,bs)
  | .ifc t x=>let (y,bs):=ao r n x bs;(.ifc t y,bs)
  | x=>(x,bs)
inductive uY where
 | fn (f:FuncId)
 | yld (r:Ref)
def uJ(m:Nat):Bool:=m == 1||m == 3
def Dw:Nat->AV->Bool
 | 0,_=>false
 | n+1,x=>
  match x with
  | .v _=>true
  | .agg cs | .tup cs=>cs.all (Dw n)
  | .fsl z es _=>z != 0&&es.all (flat depth)
  | .bg _ es _=>es.isEmpty
  | .ifc _ x=>Dw n x
  | _=>false
structure Oz where
 f:aa->aa->Bool
 ok : ∀H H',f H H'=true ->∀q k,H.get q=some k->H'.get q=some k
def PW:Oz:=⟨λ_ _=>false,λ_ _ h=>by cases h⟩
structure Env where
 P:Program
 strict:Oper->Bool
 apart:Array Oper->List (Tmp × Tmp)
 mode:FuncId->Nat
 allowed:FuncId->Bool
 spec:FuncId->List AV->Option AV
 ok:Array Oper->Bool:=λ_=>true
 gR:Oper->Bool:=λ_=>false
 wide:Oper->Bool:=λ_=>false
 rR:FuncId->Option TypeId:=λ_=>none
 thrSpec:FuncId->List AV->aa->Option (AV × aa):=λ_ _ _=>none
 sm:Oz:=PW
 deep:Oper->Bool:=λ_=>false
def k9(E:Env)(pc:FuncId->List AV->Option AV)(g:cV)(r:Ref)(f:Option AV)(args:List AV):jx:=
 match f with
 | some (.fn (.func a) first captured)=>
  if E.mode a=2 then none else
  match (first++args++captured).mapM (view g depth) with
  | some xs=>match pc a xs with
   | some y=>if flat depth y||mV g (ct g (first++args++captured))||(E.mode a == 3&&Dw depth y) then some (ao r depth y []) else none
   | none=>none
  | none=>none
 | _=>none
def JB(P:Program)(t:Option TypeId)(x:AV):jx:=
 match t with
 | none=>none
 | some t=>match ly P t with
  | some (n,_)=>some (.v (.int .i64 n),[])
  | none=>if isStr P t then (match x with | .v (.string s)=>some (.v (.int .i64 s.size),[]) | _=>none)
   else if (ca P t).isSome then (uW x).map λn=>(.v (.int .i64 n),[]) else none
def mK(P:Program)(g:cV)(e:TypeId)(x:AV):Option (Nat × List AV):=
 match x with
 | .v (.slice none 0 0)=>(aE P e).map λz=>(z,[])
 | .v (.int _ n)=>match eu P e,aE P e with
  | some w,some z=>if 0<=n/\n<=aJ/\w.cells.length=z/\w.cells.all AV.one then some (z,List.replicate n.toNat w) else none
  | _,_=>none
 | x=>cy g x
def isNum:AV->Bool
 | .v (.int _ _)=>true
 | _=>false
def isInt(P:Program)(t:TypeId):Bool:=match P.underlying t with | some (.int _)=>true | _=>false
def eG(P:Program)(g:cV)(r:Ref)(t t':Option TypeId)(s x:AV):jx:=
 match t.bind (ca P) with
 | none=>none
 | some e=>
  if (t'.bind P.underlying).isNone\/(t'.map (isInt P)).getD false≠isNum x then none else
  match aE P e,gP P e,eu P e,mK P g e x with
  | some z,some by',some zz,some (a,new)=>
   if a≠z\/z=0\/by'=0\/zz.cells.length≠z then none else
   match s with
   | .v (.slice none 0 0)=>if new=[] then some (s,[]) else if new.length * by'<=aJ then some (.bk r 0 new.length none,[⟨z,new,true,false⟩]) else none
   | .bg n es cap=>if n≠z then none else if new=[] then some (s,[]) else
    match cap with
    | some k=>if k<es.length+new.length/\(es.length+new.length) * by'<=aJ then some (.bk r 0 (es.length+new.length) none,[⟨z,es++new,true,false⟩]) else none
    | none=>none
   | .bk r' off len cap=>(match g r' with
    | some b=>if b.esz≠z\/b.arr=false then none else if new=[] then some (s,[]) else
     (match cap with
     | some k=>if off+len<=b.es.length/\k<len+new.length/\(len+new.length) * by'<=aJ then
      some (.bk r 0 (len+new.length) none,[⟨z,(b.es.drop off).take len++new,true,false⟩]) else none
     | none=>none)
    | none=>none)
   | _=>none
  | _,_,_,_=>none
def Zp(P:Program)(t:Option TypeId)(x:AV):jx:=
 match t.bind (ca P),x with
 | some _,.v (.slice none 0 0)=>some (.v (.int .i64 0),[])
 | some _,.bg _ _ (some k)=>some (.v (.int .i64 k),[])
 | some _,.bk _ _ _ (some k)=>some (.v (.int .i64 k),[])
 | _,_=>none
def cb(P:Program)(c:Bool)(g:cV)(r:Ref)(b:Builtin)(a:Array TypeId)(args:List AV):jx:=
 match b,args with
 | .len,[.mp r']=>if c then none else BC P g a[0]? r'
 | .len,[x]=>JB P a[0]? x
 | .min,args=>iL (LF Builtin.min2 P args)
 | .max,args=>iL (LF Builtin.max2 P args)
 | .append,[s,x]=>eG P g r a[0]? a[1]? s x
 | .cap,[x]=>Zp P a[0]? x
 | _,_=>none
def Qi(b:Bool)(bs:List bj):List bj:=if b then bs.map (λk => { k with gR:=true}) else bs
def cQ(E:Env)(pc:FuncId->List AV->Option AV)(d:Bool)(g:cV)(tm:List AV)(r:Ref)(o:Oper):jx:=
 match o.op with
 | .move x | .assign x=>iL (aP tm x)
 | .pick c a b=>Ie (aP tm) c a b
 | .alloc e=>vX E.P r e
 | .box e x=>Lx E.P r e (aP tm x)
 | .build t ps=>mI E.P t (ia tm ps.toList)
 | .buildSlice t n ps=>gx E.P (d && !E.strict o) g r t n (ia tm ps.toList)
 | .load t a=>ow E.P g t (aP tm a)
 | .nilCheck x=>Nd (aP tm x)
 | .binOp op t xo yo _=>bC E.P op t xo yo (aP tm xo) (aP tm yo)
 | .unOp op _ x=>Zl E.P op (aP tm x)
 | .convert src dst x=>bY E.P g r src dst (aP tm x)
 | .makeInterface t x=>zI E.P t (aP tm x)
 | .makeFunc f first captured=>Ai f (first.toList.mapM (aP tm)) (captured.toList.mapM (aP tm))
 | .makeSlice t l c=>yL E.P r t (aP tm l) (aP tm c)
 | .makeMap _ none=>some (.mp r,[pP []])
 | .lookup t x k ok=>o4 E.P g t (aP tm x) (aP tm k) ok
 | .slice t x lo hi j=>cond (E.wide o && !d) (lW E.P g t (aP tm x) (mJ tm lo) (mJ tm hi) (mJ tm j)) (cr E.P g t (aP tm x) (mJ tm lo) (mJ tm hi) (mJ tm j))
 | .fieldAddr t x f=>iM E.P t (aP tm x) f
 | .field t x f=>tn E.P t (aP tm x) f
 | .indexAddr t x ix=>bH E.P g t (aP tm x) (aP tm ix)
 | .index t x ix=>xD E.P t (aP tm x) (aP tm ix)
 | .typeAssert x _ h ok=>BD E.P (aP tm x) h ok
 | .extract x i=>ud (aP tm x) i
 | .call c=>
  match c.args.toList.mapM (aP tm) with
  | none=>none
  | some args=>
   match c.callee with
   | .value f=>(match Fz E.rR d f with
    | some t=>Ig E.P g t args
    | none=>(k9 E pc g r (aP tm f) args).map λp=>(p.1,Qi (E.gR o) p.2))
   | .invoke _ _=>none
   | .builtin b=>cb E.P (d&&(E.strict o || !(match c.args.toList with | [.tmp _]=>true | _=>false))) g r b c.argTypes args
 | _=>none
def keyed(r:Ref):Nat->List bj->aa->aa
 | _,[],g=>g
 | k,b :: bs,g=>keyed r (k+1) bs (({ r with k:=k},some b) :: g)
abbrev cR:=Option (AV × aa)
def jy(P:Program)(H:aa)(t:TypeId)(a x:Option AV):cR:=
 match a,x,aE P t with
 | some (.ptr r' i j),some x,some n=>
  match H.get r' with
  | some b=>
   if x.cells.length=n/\x.cells.all AV.one/\b.gR=false then
    (if b.arr=true then
     match view H.get depth x with
     | some y=>if r'∈ah H.get depth x then none else if y.cells.all AV.one=true then (fm b.es i j y.cells).map λes=>(AV.undef,(cg H (ah H.get depth x)).put r' (some { b with es})) else none
     | none=>none
    else (fm b.es i j x.cells).map λes=>(AV.undef,H.put r' (some { b with es})))
   else none
  | none=>none
 | _,_,_=>none
def jV(P:Program)(H:aa)(r:Ref)(t:TypeId)(n:Nat)(a:Option (List (Nat × AV))):cR:=
 match a with
 | none=>none
 | some a=>(mkSlice P H.get t n a).map λb=>(.bk r 0 n (some n),(r,some b) :: cg H (ct H.get (a.map (·.2))))
def nn(E:Env)(pc:FuncId->List AV->Option AV)(tc:uY->List AV->aa->cR)(H:aa)(r:Ref)(f:Option AV)(args:List AV):cR:=
 match f with
 | some (.fn (.func g) first captured)=>
  if E.mode g=2 then tc (.fn g) (first++args++captured) H else
  match (first++args++captured).mapM (view H.get depth) with
  | some xs=>(pc g xs).map λy=>((ao r depth y []).1,keyed r 0 (ao r depth y []).2 (cg H (ct H.get (first++args++captured))))
  | none=>none
 | some (.yld q)=>tc (.yld q) args H
 | _=>none
def sS(b:Bool)(sm:Oz)(H:aa)(x:cR):cR:=match b,x with
 | true,some (y,H')=>if flat depth y&&(IH H H'||sm.f H H') then some (y,H) else none
 | _,x=>x
def j9(P:Program)(H:aa)(t t':Option TypeId)(s x:AV):cR:=
 match t.bind (ca P) with
 | none=>none
 | some e=>
  if (t'.bind P.underlying).isNone\/(t'.map (isInt P)).getD false≠isNum x then none else
  match aE P e,gP P e,eu P e,mK P H.get e x with
  | some z,some by',some zz,some (a,new)=>
   if a≠z\/z=0\/by'=0\/new=[]\/zz.cells.length≠z then none else
   match s with
   | .bk r' off len none=>(match H.get r' with
    | some b=>if off=0/\b.arr=true/\b.esz=z/\len=b.es.length/\(len+new.length) * by'<=aJ then
     some (.bk ⟨r'.d,r'.t,H.gen r'.d r'.t,0⟩ 0 (len+new.length) none,(⟨r'.d,r'.t,H.gen r'.d r'.t,0⟩,some ⟨z,b.es++new,true,b.gR⟩) :: H.put r' none) else none
    | none=>none)
   | _=>none
  | _,_,_,_=>none
def AH(P:Program)(H:aa)(t:Option TypeId)(dst x:AV):cR:=
 match t.bind (ca P) with
 | none=>none
 | some e=>match aE P e with
  | none=>none
  | some z=>match (if jW x then some (z,[]) else cy H.get x) with
   | none=>none
   | some (a,src)=>if a≠z\/z=0 then none else
    match dst with
    | .v (.slice none 0 0)=>some (.v (.int .i64 0),H)
    | .bk r' off len _=>(match H.get r' with
     | some b=>
      if b.arr=true/\b.esz=z/\b.gR=false/\off+len<=b.es.length then
       some (.v (.int .i64 (Nat.min src.length len:Nat)),H.put r' (some { b with es:=b.es.take off++src.take (Nat.min src.length len)++b.es.drop (off+Nat.min src.length len)})) else none
     | none=>none)
    | _=>none
def vJ(P:Program)(H:aa)(t:Option TypeId)(dst x:AV):cR:=
 match (t.bind (ca P)).bind (aE P),dst,x with
 | some z,.bk r off len _,.bk r2 a zP _=>(match H.get r,H.get r2 with
  | some b,some b2=>
   if b.arr=true/\b2.arr=true/\b.esz=z/\b2.esz=z/\0<z/\b.gR=false/\off<=b.es.length/\a+Nat.min zP len<=b2.es.length then
    some (.v (.int .i64 (Nat.min zP len:Nat)),H.put r (some { b with es:=b.es.take off++(b2.es.drop a).take (Nat.min zP len)++b.es.drop (off+Nat.min zP len)})) else none
  | _,_=>none)
 | _,_,_=>none
def jz(P:Program)(H:aa)(t:TypeId)(m k x:Option AV):cR:=
 match Pc P t,m,k,x with
 | some (d,_),some (.mp r),some k,some x=>(match kH k,nT H.get r with
  | some c,some a=>(match a.mapM IS with
   | some b=>(match DI P false d c b with
    | some (some i)=>if ((b[i]?).map λe=>Instr.sameBits 10000 e c)=some true then some (AV.undef,H.put r (some (pP (a.set i (.tup [k,x]))))) else none
    | some none=>some (AV.undef,H.put r (some (pP (a++[.tup [k,x]]))))
    | none=>none)
   | none=>none)
  | _,_=>none)
 | _,_,_,_=>none
def qR(P:Program)(H:aa)(t:TypeId)(m k:Option AV):cR:=
 match Pc P t,m,k with
 | some (e,d),some (.mp r),some k=>(match kH k,nT H.get r with
  | some c,some a=>(match a.mapM IS with
   | some b=>(match DI P false e c b with
    | some (some i)=>if ((b[i]?).map λf=>Instr.sameBits 10000 f c)=some true then (a[i]?.bind LS).map λv=>(.tup [v,.v (.int .i64 i)],H.put r (some (pP (a.set i (.tup [k,v]))))) else none
    | some none=>(eu P d).map λz=>(.tup [z,.v (.int .i64 a.length)],H.put r (some (pP (a++[.tup [k,z]]))))
    | none=>none)
   | none=>none)
  | _,_=>none)
 | _,_,_=>none
def lR(H:aa)(m s x:Option AV):cR:=
 match m,s,x with
 | some (.mp r),some (.v (.int _ n)),some x=>(match nT H.get r with
  | some a=>if 0<=n then (match a[n.toNat]? with
   | some (.tup [k,_])=>some (AV.undef,H.put r (some (pP (a.set n.toNat (.tup [k,x])))))
   | _=>none) else none
  | none=>none)
 | _,_,_=>none
def Bq(P:Program)(H:aa)(r:Ref)(t:TypeId)(n:Option AV):cR:=
 match n,(MK P t).bind (gP P) with
 | some (.v (.int _ n)),some b=>if 0<=n/\n<=1000000/\b<=1000000 then some (.ch r,keyed r 0 [IV n.toNat false []] H) else none
 | _,_=>none
def G9(H:aa)(c x:Option AV):cR:=
 match c,x with
 | some (.ch r),some x=>(match Xk H.get r with
  | some (cap,false,buf)=>if buf.length<cap/\flat depth x=true then some (AV.undef,H.put r (some (IV cap false (buf++[x])))) else none
  | _=>none)
 | _,_=>none
def adE(ok:Bool)(x:AV)(b:Bool):AV:=if ok then .tup [x,.v (.bool b)] else x
def JW(P:Program)(H:aa)(t:TypeId)(c:Option AV)(ok:Bool):cR:=
 match c,(MK P t).bind (eu P) with
 | some (.ch r),some z=>(match Xk H.get r with
  | some (cap,a,x :: buf)=>some (adE ok x true,H.put r (some (IV cap a buf)))
  | some (_,true,[])=>some (adE ok z false,H)
  | _=>none)
 | _,_=>none
def De(P:Program)(H:aa)(r:Ref)(t:TypeId)(n:Nat)(a:Option (List (Nat × AV))):cR:=
 match a,ca P t with
 | some [(0,.agg cs)],some e=>(match eu P e,aE P e with
  | some z,some s=>if n=1/\0<s/\s<=16777216/\z.cells.length=s/\z.cells.all AV.one=true/\cs.length=s/\cs.all AV.one=true then some (.dsl r 0 1 (some 1),(r,some ⟨s,[.agg cs],false,false⟩) :: H) else none
  | _,_=>none)
 | _,_=>none
def Q6(P:Program)(H:aa)(r:Ref)(t t':Option TypeId)(s x:AV):cR:=
 match t.bind (ca P),x with
 | some e,.dsl rx 0 m _=>
  if (t'.bind P.underlying).isNone\/(t'.map (isInt P)).getD false≠false then none else
  (match aE P e,gP P e,eu P e,H.get rx with
  | some z,some by',some zz,some a=>
   if a.arr=true\/a.esz≠z\/z=0\/by'=0\/a.es=[]\/zz.cells.length≠z\/m≠a.es.length then none else
   (match s with
   | .v (.slice none 0 0)=>if m * by'<=aJ then some (.dsl r 0 m none,(r,some ⟨z,a.es,false,false⟩) :: H.put rx none) else none
   | .dsl r' 0 len none=>(match H.get r' with
    | some b=>if b.arr=false/\b.esz=z/\len=b.es.length/\r'≠rx/\(len+m) * by'<=aJ then
     some (.dsl ⟨r'.d,r'.t,H.gen r'.d r'.t,0⟩ 0 (len+m) none,(⟨r'.d,r'.t,H.gen r'.d r'.t,0⟩,some ⟨z,b.es++a.es,false,b.gR⟩) :: (H.put rx none).put r' none) else none
    | none=>none)
   | _=>none)
  | _,_,_,_=>none)
 | _,_=>none
def FK(E:Env)(a:Bool)(H:aa)(tm:List AV)(r:Ref)(o:Oper):Option cR:=
 if a || !E.deep o then none else
 match o.op with
 | .buildSlice t n ps=>some (De E.P H r t n (ia tm ps.toList))
 | .call c=>(match c.callee with
  | .builtin .append=>some (match c.args.toList.mapM (aP tm) with
   | some [s,x]=>Q6 E.P H r c.argTypes[0]? c.argTypes[1]? s x
   | _=>none)
  | _=>none)
 | _=>none
def RY:Op->Bool
 | .send .. | .recv .. => true
 | _=>false
def evalW(E:Env)(pc:FuncId->List AV->Option AV)(tc:uY->List AV->aa->cR)(H:aa)(tm:List AV)(r:Ref)(o:Oper):cR:=
 match o.op with
 | .store t a x=>jy E.P H t (aP tm a) (aP tm x)
 | .mapUpdate t m k x | .insert t m k x=>jz E.P H t (aP tm m) (aP tm k) (aP tm x)
 | .mapEntry t m k=>qR E.P H t (aP tm m) (aP tm k)
 | .entryStore _ m s x=>lR H (aP tm m) (aP tm s) (aP tm x)
 | .buildSlice t n ps=>jV E.P H r t n (ia tm ps.toList)
 | .makeChan t n=>Bq E.P H r t (aP tm n)
 | .send c x=>G9 H (aP tm c) (aP tm x)
 | .recv t c ok=>JW E.P H t (aP tm c) ok
 | .call c=>
  match c.args.toList.mapM (aP tm) with
  | none=>none
  | some args=>
   match c.callee with
   | .value f=>sS (E.gR o) E.sm H (nn E pc tc H r (aP tm f) args)
   | .invoke _ _=>none
   | .builtin b=>
    match b,args with
    | .append,[s,x]=>j9 E.P H c.argTypes[0]? c.argTypes[1]? s x
    | .copy,[dst,x]=>cond (E.wide o) (vJ E.P H c.argTypes[0]? dst x) (AH E.P H c.argTypes[0]? dst x)
    | _,_=>none
 | _=>none
def wanted(ops:Array Oper)(tm:List AV)(o:Oper):Option Bool:=
 match o.guard with
 | none=>some true
 | some (j,a)=>
  match (ops[j]?).bind (·.dst) with
  | some t=>(match df tm t with
   | .v (.bool b)=>some (b == a)
   | .v (.tuple c)=>if c.isEmpty then some false else none
   | _=>none)
  | none=>some false
def wOp(E:Env):Op->Bool
 | .store .. | .mapUpdate .. | .insert .. | .mapEntry .. | .entryStore .. => true
 | .call c=>match c.callee with
  | .builtin .append | .builtin .copy=>true
  | .value (.func g)=>E.mode g == 2
  | .value (.tmp _)=>true
  | _=>false
 | _=>false
def BQ:Op->Bool
 | .buildSlice .. => true
 | _=>false
def jv(E:Env)(o:Oper):Bool:=(!E.strict o&&wOp E o.op)||(E.gR o&&BQ o.op)
def dx(nt:Nat)(tm:List AV)(dst:Option Tmp)(x:AV):Option (List AV):=
 match dst with
 | none=>some tm
 | some d=>if d<nt then some (CP tm d x) else none
def evalOp(E:Env)(pc:FuncId->List AV->Option AV)(tc:uY->List AV->aa->cR)(nt dep:Nat)(a:Bool)(ops:Array Oper)(o:Oper)(st:St):Option St:=
 match wanted ops st.tm o with
 | none=>none
 | some false=>(dx nt st.tm o.dst AV.undef).map λtm => { st with tm}
 | some true=>
  match cQ E pc a st.hp.get st.tm ⟨dep,o.dst.getD 0,st.hp.gen dep (o.dst.getD 0),0⟩ o with
  | some (x,bs)=>(dx nt st.tm o.dst x).map λtm=>⟨tm,keyed ⟨dep,o.dst.getD 0,st.hp.gen dep (o.dst.getD 0),0⟩ 0 bs st.hp⟩
  | none=>
   if a && !jv E o then none else
   match evalW E pc tc st.hp st.tm ⟨dep,o.dst.getD 0,st.hp.gen dep (o.dst.getD 0),0⟩ o with
   | some (x,H)=>(dx nt st.tm o.dst x).map λtm=>⟨tm,H⟩
   | none=>none
def Am(E:Env)(pc:FuncId->List AV->Option AV)(tc:uY->List AV->aa->cR)(nt dep:Nat)(a:Bool)(ops:Array Oper)(o:Oper)(st:St):Option St:=
 match FK E a st.hp st.tm ⟨dep,o.dst.getD 0,st.hp.gen dep (o.dst.getD 0),0⟩ o with
 | none=>evalOp E pc tc nt dep a ops o st
 | some w=>(match wanted ops st.tm o with
  | none=>none
  | some false=>(dx nt st.tm o.dst AV.undef).map λtm => { st with tm}
  | some true=>(match w with
   | some (x,H)=>(dx nt st.tm o.dst x).map λtm=>⟨tm,H⟩
   | none=>none))
def Qn{E:Env}{pc:FuncId->List AV->Option AV}{tc:uY->List AV->aa->cR}{nt dep:Nat}{ops:Array Oper}{o:Oper}{st:St}:Am E pc tc nt dep true ops o st=evalOp E pc tc nt dep true ops o st:=rfl
def oa(E:Env)(pc:FuncId->List AV->Option AV)(tc:uY->List AV->aa->cR)(nt dep:Nat)(a:Bool)(ops:Array Oper):List Oper->St->Option St
 | [],st=>some st
 | o :: rest,st=>match Am E pc tc nt dep a ops o st with
  | some st'=>oa E pc tc nt dep a ops rest st'
  | none=>none
def mg(P:Program)(st:St):ResultVar->Option AV
 | .tmp t=>some (df st.tm t)
 | .cell a t=>match df st.tm a,eK P t,aE P t with
  | .ptr r i j,some g,some n=>match st.hp.get r with
   | some b=>bF b.es i j n g
   | none=>none
  | _,_,_=>none
def yH(P:Program)(fn:Func)(st:St):Option AV:=
 match fn.results.toList.mapM (mg P st) with
 | some []=>some (.v (.tuple #[]))
 | some [x]=>some x
 | some xs=>some (.tup xs)
 | none=>none
def codeOk(ok:Array Oper->Bool):Code->Bool
 | .region _ ops draw => !draw||ok ops
 | .seq a b | .cond _ a b=>codeOk ok a&&codeOk ok b
 | .block _ c | .loop c | .scope c=>codeOk ok c
 | .rangeFunc _ _ a b=>codeOk ok a&&codeOk ok b
 | _=>true
def oO(ok:Array Oper->Bool):Item->Bool
 | .code c | .inLoop c=>codeOk ok c
 | _=>true
def wu(E:Env)(run:Option Ref->Nat->Nat->List Item->St->Option St)(dep:Nat)(f:FuncId)(args:List AV)(H:aa):Option (AV × aa):=
 if E.allowed f then
  match E.P.funcs[f]? with
  | some fn=>match fn.body with
   | some c=>if args.length<=fn.ntmps then
    match run none fn.ntmps dep [.code c] ⟨args,H⟩ with
    | some st=>(yH E.P fn st).map (·,st.hp)
    | none=>none
    else none
   | none=>none
  | none=>none
 else none
def bO(g:cV):Nat->AV->Option AV
 | 0,_=>none
 | n+1,x=>
  match x with
  | .agg cs=>(cs.mapM (bO g n)).map .agg
  | .tup cs=>(cs.mapM (bO g n)).map .tup
  | .ifc t x=>(bO g n x).map (.ifc t)
  | .bk r 0 len cap=>
   match g r with
   | some b=>if b.arr=true/\len<=b.es.length then some (if b.gR then .bg b.esz (b.es.take len) cap else .fsl b.esz (b.es.take len) cap) else none
   | none=>none
  | .dsl r 0 len cap=>
   match g r with
   | some b=>if b.arr=false/\len=b.es.length then (if b.gR then (b.es.mapM (view g n)).map λes => .bg b.esz es cap else (b.es.mapM (bO g n)).map λes => .nsl b.esz es cap) else none
   | none=>none
  | .mp r=>
   match nT g r with
   | some a=>if a.all (flat depth) then some (.fsl 0 (.v (.bool true) :: a) none) else none
   | none=>none
  | x=>view g (n+1) x
def dv(E:Env)(run:Option Ref->Nat->Nat->List Item->St->Option St)(f:FuncId)(args:List AV):Option AV:=
 match E.spec f args with
 | some y=>some y
 | none=>match wu E run 0 f args [] with
  | some (x,H)=>if uJ (E.mode f)=true then (if (ah H.get depth x).Nodup then bO H.get depth x else none) else view H.get depth x
  | none=>none
def ei(st:Nat)(a:AV):bj:=⟨0,[.v (.int .i64 st),a],false,false⟩
def yQ(H:aa)(r:Ref):Option (Nat × AV):=match H.get r with
 | some ⟨0,[.v (.int .i64 st),inf],_,_⟩=>some (st.toNat,inf)
 | _=>none
def vT(tm:List AV):List Tmp->List AV->List AV
 | t :: a,x :: xs=>vT (CP tm t x) a xs
 | _,_=>tm
def BA(E:Env)(run:Option Ref->Nat->Nat->List Item->St->Option St)(dep:Nat)(r:Ref)(args:List AV)(H:aa):Option (AV × aa):=
 match yQ H r with
 | some (0,.lp f nt ps assign body tm)=>
  if args.length=ps.length/\ps.all (· < nt)=true/\codeOk E.ok assign=true/\codeOk E.ok body=true then
   (match run (some r) nt dep [.code assign,.beginRound,.code body] ⟨vT tm ps args,H⟩ with
   | some st=>(match yQ st.hp r with
    | some (0,_)=>some (.v (.bool true),st.hp)
    | some (n+2,_)=>some (.v (.bool false),st.hp)
    | _=>none)
   | none=>none)
  else none
 | _=>none
def eF(E:Env)(run:Option Ref->Nat->Nat->List Item->St->Option St)(dep:Nat)(t:uY)(args:List AV)(H:aa):Option (AV × aa):=
 match t with
 | .fn f=>(match E.thrSpec f args H with
  | some z=>some z
  | none=>if E.mode f=2 then wu E run (dep+1) f args H else none)
 | .yld r=>BA E run (dep+1) r args H
def xG(rd:Option Ref)(st:St)(n:Nat):Option St:=match rd with
 | none=>if n=2 then some st else none
 | some r=>match yQ st.hp r with
  | some (1,inf)=>some { st with hp:=st.hp.put r (some (ei n inf))}
  | _=>none
def sj(E:Env)(ops:Array Oper):List (Tmp × Tmp):=E.apart ops
def lC:AV->Option Ref
 | .ptr r _ _=>some r
 | .bk r _ _ _=>some r
 | .dsl r _ _ _=>some r
 | .mp r=>some r
 | .ch r=>some r
 | _=>none
def Fw(tm:List AV)(p:Tmp × Tmp):Bool:=match lC (df tm p.1),lC (df tm p.2) with
 | some r,some r'=>decide (r≠r')
 | _,_=>true
def yC(st:St)(o:Oper):Bool:=match o.op with
 | .store _ (.tmp t) _=>(match df st.tm t with
  | .ptr r _ _=>(match st.hp.get r with
   | some b => !b.arr
   | none=>false)
  | _=>true)
 | _=>true
def bsT:Op->Option Tmp
 | .buildSlice _ _ ps=>(match ps.toList with
  | [(_,.tmp t)]=>some t
  | _=>none)
 | _=>none
def IZ(E:Env)(st:St)(o:Oper):Bool := !(E.gR o&&BQ o.op)||(match bsT o.op with
 | some t=>(match df st.tm t with
  | .bk .. => true
  | .v _=>true
  | _=>false)
 | none=>false)
def tM(E:Env)(ops:Array Oper)(st:St):Bool:=(sj E ops).isEmpty||((sj E ops).all (Fw st.tm)&&(ops.toList.all (yC st)&&ops.toList.all (IZ E st)))
def cD(E:Env):Nat->(rd:Option Ref)->(nt dep:Nat)->List Item->St->Option St
 | 0,_,_,_,_,_=>none
 | n+1,rd,nt,dep,items,st=>
  match items with
  | []=>(match rd with
   | none=>some st
   | some _=>xG rd st 0)
  | .beginRound :: k=>(match rd with
   | none=>none
   | some r=>match yQ st.hp r with
    | some (0,inf)=>cD E n rd nt dep k { st with hp:=st.hp.put r (some (ei 1 inf))}
    | _=>none)
  | .code c :: k=>
   (match c with
   | .skip | .label _=>cD E n rd nt dep k st
   | .ret=>xG rd st 2
   | .seq a b=>cD E n rd nt dep (.code a :: .code b :: k) st
   | .cond c a b=>
    (match (aP st.tm c).bind E9 with
    | some true=>cD E n rd nt dep (.code a :: k) st
    | some false=>cD E n rd nt dep (.code b :: k) st
    | none=>none)
   | .block id b=>cD E n rd nt dep (.code b :: .inBlock id :: k) st
   | .scope b=>cD E n rd nt dep (.code b :: .inScope b :: k) st
   | .loop b=>cD E n rd nt dep (.code b :: .inLoop b :: k) st
   | .exit id=>(match exitTo id k with
    | some k'=>cD E n rd nt dep k' st
    | none=>if rd.isSome then xG rd st (id+3) else none)
   | .region _ ops draw=>(match oa E (dv E (cD E n)) (eF E (cD E n) dep) nt dep draw ops ops.toList st with
    | some st'=>if draw && !tM E ops st' then none else cD E n rd nt dep k st'
    | none=>none)
   | .rangeFunc g ps assign body=>(match rd,aP st.tm g with
    | none,some (.fn (.func gi) first captured)=>
     (match eF E (cD E n) dep (.fn gi) (first++[.yld ⟨dep,nt,st.hp.gen dep nt,0⟩]++captured)
      ((⟨dep,nt,st.hp.gen dep nt,0⟩,some (ei 0 (.lp 0 nt ps.toList assign body st.tm))) :: st.hp) with
     | some (_,H')=>(match yQ H' ⟨dep,nt,st.hp.gen dep nt,0⟩ with
      | some (0,_)=>cD E n rd nt dep k ⟨st.tm,H'.put ⟨dep,nt,st.hp.gen dep nt,0⟩ none⟩
      | some (2,_)=>some ⟨st.tm,H'.put ⟨dep,nt,st.hp.gen dep nt,0⟩ none⟩
      | some (id+3,_)=>(match exitTo id k with
       | some k'=>cD E n rd nt dep k' ⟨st.tm,H'.put ⟨dep,nt,st.hp.gen dep nt,0⟩ none⟩
       | none=>none)
      | _=>none)
     | none=>none)
    | _,_=>none)
   | _=>none)
  | .inLoop b :: k=>cD E n rd nt dep (.code b :: .inLoop b :: k) st
  | .inBlock _ :: k | .inScope _ :: k=>cD E n rd nt dep k st
  | _=>none
def fA(o:Oper):List Nat:=(o.after.toList.filter (Region.binds .any)).map (·.on)
def CV(a:List Nat):List Nat->Nat
 | []=>0
 | j :: b=>(2 ^ j ||| a.getD j 0) ||| CV a b
def dT:List Oper->List Nat->List Nat
 | [],acc=>acc
 | o :: os,acc=>dT os (acc++[CV acc (fA o)])
def PZ(c:Call):Bool:=match c.args.toList with
 | [.tmp _]=>true
 | _=>false
def kI:Op->Bool
 | .move _ | .assign _ | .pick .. | .binOp .. | .unOp .. | .makeInterface .. | .makeFunc .. | .fieldAddr .. | .field .. | .index .. | .typeAssert .. | .extract .. | .nilCheck _ | .build .. => false
 | .call c=>match c.callee with
  | .builtin .len=>PZ c
  | .builtin .min | .builtin .max=>false
  | _=>true
 | _=>true
def Nz:Op->Bool
 | .call c=>(match c.callee with
  | .builtin .len=>true
  | _=>false)
 | _=>false
def xR(E:Env)(o:Oper):Bool:=kI o.op && !(E.strict o&&Nz o.op)
def jI(ops:Array Oper)(i:Nat):Option Tmp:=(ops[i]?).bind (·.dst)
def lk(E:Env)(ops:Array Oper)(i:Nat):Bool:=(List.range (i+1)).any λj=>match ops[j]? with
 | some o=>jv E o
 | none=>false
def y8(ops:Array Oper)(A:List Nat)(oi a:Oper)(i j:Nat):Bool:=
 (a.dst.isNone||oi.dst != a.dst) &&
 (match a.dst with | some d => !(oi.looksAt ops).contains d||(A.getD i 0).testBit j | none=>true) &&
 (match oi.dst with | some d => !(a.looksAt ops).contains d||(A.getD i 0).testBit j | none=>true)
def PS(E:Env)(ops:Array Oper)(A:List Nat)(oi a:Oper)(i j:Nat):Bool:=
 y8 ops A oi a i j &&
 (!(xR E oi&&xR E a&&lk E ops i)||(A.getD i 0).testBit j)
def Ds(E:Env)(ops:Array Oper):Bool:=
 (List.range ops.size).all λi=>match ops[i]? with
  | some oi=>(fA oi).all (· < i)&&(!xR E oi||jv E oi||oi.dst.isSome) &&
   (List.range i).all λj=>match ops[j]? with
    | some a=>PS E ops (dT ops.toList []) oi a i j
    | none=>true
  | none=>true
def Cn(P:Program):Op->Option Tmp
 | .load _ (.tmp t)=>some t
 | .indexAddr _ (.tmp t) _=>some t
 | .slice _ (.tmp t) _ _ _=>some t
 | .convert _ dst (.tmp t)=>if dD P dst then none else some t
 | .lookup _ (.tmp t) _ _=>some t
 | .call c=>match c.callee with
  | .builtin .len=>(match c.args.toList with
   | [.tmp t]=>some t
   | _=>none)
  | _=>none
 | _=>none
def storeT:Op->Option Tmp
 | .store _ (.tmp t) _=>some t
 | _=>none
def I5:Op->Option Tmp
 | .call c=>match c.callee with
  | .builtin .append=>(match c.args.toList with
   | .tmp t :: _=>some t
   | _=>none)
  | _=>none
 | _=>none
def Tt:Op->Option Tmp
 | .mapUpdate _ (.tmp t) _ _=>some t
 | .insert _ (.tmp t) _ _=>some t
 | .mapEntry _ (.tmp t) _=>some t
 | .entryStore _ (.tmp t) _ _=>some t
 | _=>none
def Hu(o:Op):Option Tmp:=match Tt o with
 | some t=>some t
 | none=>I5 o
def qF(E:Env)(o:Oper):Bool:=E.gR o && !E.strict o&&(match o.op with
 | .call c=>(match c.callee with
  | .value (.func g)=>E.mode g == 2
  | _=>false)
 | _=>false)
def cls(E:Env)(o:Oper):Nat:=
 if xR E o then (if (storeT o.op).isSome then 2 else if (Cn E.P o.op).isSome then 1 else if jv E o then 4 else 3) else 0
def nr(E:Env)(o:Oper):Option Tmp:=match storeT o.op with
 | some t=>some t
 | none=>match Cn E.P o.op with
  | some t=>some t
  | none=>if BQ o.op then bsT o.op else Hu o.op
def settled(E:Env)(ops:Array Oper)(oi c:Oper):Bool:=match nr E oi,nr E c with
 | some a,some b=>(sj E ops).contains (a,b)||(sj E ops).contains (b,a)
 | _,_=>false
def blind(E:Env)(o:Oper):Bool:=cls E o == 3&&(match o.op with
 | .alloc _ | .makeMap _ none=>true
 | .call c=>c.args.toList.isEmpty&&(match c.callee with
  | .value (.func _)=>true
  | _=>false)
 | _=>false)
def P8(E:Env)(o:Oper):Bool:=cls E o == 3&&(match o.op with
 | .alloc _ | .makeMap _ none=>true
 | _=>false)
def pd(E:Env)(oi a:Oper):Bool:=P8 E oi&&((I5 a.op).isSome&&a.dst.isSome)
def qY(E:Env)(oi a:Oper):Bool:=(cls E oi == 2&&Nat.ble 3 (cls E a) && !blind E a)||(cls E a == 2&&Nat.ble 3 (cls E oi) && !blind E oi)||(Nat.ble 3 (cls E oi)&&Nat.ble 3 (cls E a)&&(cls E oi == 4||cls E a == 4) && !pd E oi a && !pd E a oi)
def DG(b a:Nat):Bool:=(b == 2&&(a == 1||a == 2))||(a == 2&&b == 1)||(b == 1&&a == 4)||(b == 4&&a == 1)
def PY(E:Env)(ops:Array Oper)(A:List Nat)(oi a:Oper)(i j:Nat):Bool:=
 y8 ops A oi a i j &&
 (!qY E oi a||(A.getD i 0).testBit j) &&
 (!DG (cls E oi) (cls E a)||qF E oi||qF E a||(A.getD i 0).testBit j||settled E ops oi a)
def Ph(ops:Array Oper)(i:Nat)(t:Option Tmp):Bool:=match t with
 | some t=>(List.range ops.size).all λk=>jI ops k != some t||decide (k<i)
 | none=>false
def RD(E:Env)(ops:Array Oper)(i:Nat)(o:Oper):Bool:=match cls E o with
 | 0=>true
 | 3=>o.dst.isSome
 | _=>qF E o||Ph ops i (nr E o)
def WB(E:Env)(ops:Array Oper):Bool := !(sj E ops).isEmpty &&
 (List.range ops.size).all λi=>match ops[i]? with
  | some oi=>(fA oi).all (· < i)&&RD E ops i oi &&
   (List.range i).all λj=>match ops[j]? with
    | some a=>PY E ops (dT ops.toList []) oi a i j
    | none=>true
  | none=>true
def A9(E:Env)(ops:Array Oper):Bool:=Ds E ops||WB E ops
def oK{d:Type}{P:Program}{s:Sem d} : ∀ {a:d},bE P s=some a ->∀w,s.run P w = .ok a w:=by
 induction s with| pure a=>intro b h w;simp[bE]at h;subst h;rfl| program k c=>intro a h w;exact c P h w| mark m k c=>intro a h w;exact c h w| _=>intro a h;simp[bE]at h
def hJ{g e:Type}{f:g->Option e} : ∀ {l:List g} {c:List e},l.mapM f=some c->c.length=l.length:=by
 intro l;induction l with
 | nil=>intro c h;simp at h;subst h;rfl
 | cons a l j=>intro c h;simp only[nP,sP,tV,iF]at h;obtain⟨b,_,bs,d,i⟩:=h;simp at i;subst i;simp[j d]
def o6{j e:Type}{f:j->Option e} : ∀ {l:List j} {d:List e},l.mapM f=some d ->∀(i:Nat)(y:e),d[i]?=some y ->∃x,l[i]?=some x/\f x=some y:=by
 intro l;induction l with
 | nil=>intro d h i y c;simp at h;subst h;simp at c
 | cons a l m=>
  intro d h i y c;simp only[nP,sP,tV,iF]at h;obtain⟨b,n,bs,g,k⟩:=h;simp at k;subst k;cases i with
  | zero=>simp at c;subst c;exact⟨a,rfl,n⟩
  | succ i=>simp at c;simpa using m g i y c
def lZ{c e:Type}{f:c->Option e}{l:List c}{b:List e}(h:l.mapM f=some b)(i:Nat)(x:c)(d:l[i]?=some x) : ∃y,b[i]?=some y/\f x=some y:=by
 have j:=hJ h;have hi:i<b.length:=by rw[j];exact(ee.1 d).1
 obtain⟨k,a,g⟩:=o6 h i b[i] (dI hi);rw[d]at a;cases a;exact⟨_,dI hi,g⟩
abbrev Mem:=Nat->Nat->Option Value
structure Loc where
 b:Nat
 esz:Nat
 n:Nat
abbrev Map:=Ref->Option Loc
def dO:Map:=λ_=>none
inductive VR (M:Mem):Map->AV->Value->Prop
 | v {ι x} (h:scalar x=true):VR M ι (.v x) x
 | agg {ι cs vs} (hl:cs.length=vs.size) (h : ∀(i:Nat) c u,cs[i]?=some c->vs[i]?=some u->VR M ι c u):VR M ι (.agg cs) (.agg vs)
 | tup {ι cs vs} (h0:cs≠[]) (hl:cs.length=vs.size) (h : ∀(i:Nat) c u,cs[i]?=some c->vs[i]?=some u->VR M ι c u):VR M ι (.tup cs) (.tuple vs)
 | bg {ι esz es cap a c} (cell:Nat->Nat->Value) (hs:a.spot=none\/es=[]) (hc:es.length<=c) (hk : ∀k,cap=some k->c=k)
  (hm : ∀i j,i<es.length->j<esz->M a.block (a.off+(i * esz+j))=some (cell i j)/\(cell i j).oneCell'=true)
  (he : ∀e∈es,e.cells.length=esz)
  (h : ∀(i j:Nat) e x,es[i]?=some e->e.cells[j]?=some x->VR M dO x (cell i j)):VR M ι (.bg esz es cap) (.slice (some a) es.length c)
 | bk {ι r off len cap l a c} (hr:ι r=some l) (hb:a.block=l.b) (hs:a.spot=none) (ha:c=0\/a.off=off * l.esz) (hc:len<=c) (hn:c=0\/off+c<=l.n)
  (hk : ∀k,cap=some k->c=k) (hz:0<l.esz):VR M ι (.bk r off len cap) (.slice (some a) len c)
 | dsl {ι r off len cap l a c} (hr:ι r=some l) (hb:a.block=l.b) (hs:a.spot=none) (ha:c=0\/a.off=off * l.esz) (hc:len<=c) (hn:c=0\/off+c<=l.n)
  (hk : ∀k,cap=some k->c=k) (hz:0<l.esz):VR M ι (.dsl r off len cap) (.slice (some a) len c)
 | ptr {ι r i j l} (hr:ι r=some l) (hz:0<l.esz):VR M ι (.ptr r i j) (.pointer (some ⟨l.b,i * l.esz+j,none⟩))
 | iptr {ι esz es i j b o} (cell:Nat->Nat->Value)
  (hm : ∀i j,i<es.length->j<esz->M b (o+(i * esz+j))=some (cell i j)/\(cell i j).oneCell'=true)
  (he : ∀e∈es,e.cells.length=esz)
  (h : ∀(i j:Nat) e x,es[i]?=some e->e.cells[j]?=some x->VR M dO x (cell i j)):VR M ι (.iptr esz es i j) (.pointer (some ⟨b,o+(i * esz+j),none⟩))
 | fn {ι f a b a' b'} (ha:a.length=a'.size) (hb:b.length=b'.size) (h : ∀(i:Nat) c u,a[i]?=some c->a'[i]?=some u->VR M ι c u)
  (h' : ∀(i:Nat) c u,b[i]?=some c->b'[i]?=some u->VR M ι c u):VR M ι (.fn f a b) (.func f a' b')
 | ifc {ι t x u} (h:VR M ι x u):VR M ι (.ifc t x) (.iface t u)
 | yld {ι r l} (hr:ι r=some l) (hz:l.esz=0):VR M ι (.yld r) (.func (.yield l.b) #[] #[])
 | mp {ι r l} (hr:ι r=some l) (hz:l.esz=0):VR M ι (.mp r) (.map (some l.b))
 | ch {ι r l} (hr:ι r=some l) (hz:l.esz=0):VR M ι (.ch r) (.chan (some l.b))
 | Aj {ι u} (h:u.oneCell'=true):VR M ι (.Aj u) u
def VR.mono{M M':Mem}(B : ∀b o x,M b o=some x->M' b o=some x){ι:Map}{x:AV}{u:Value}(h:VR M ι x u) :
 ∀a:Map,(∀r l,ι r=some l->a r=some l)->VR M' a x u:=by
 induction h with| v h=>intro a _;exact .v h| agg A _ g=>intro a hi;exact .agg A λi c u d p=>g i c u d p a hi| tup C A _ g=>intro a hi;exact .tup C A λi c u d p=>g i c u d p a hi| bg cell q d s hm he _ g=>intro a hi;exact .bg cell q d s (λi j m n=>⟨B _ _ _ (hm i j m n).1,(hm i j m n).2⟩) he λi j e x m n=>g i j e x m n dO (λ_ _ h=>h)| bk k t q w d z s f=>intro a hi;exact .bk (hi _ _ k) t q w d z s f| dsl k t q w d z s f=>intro a hi;exact .dsl (hi _ _ k) t q w d z s f| ptr k f=>intro a hi;exact .ptr (hi _ _ k) f| yld k f=>intro a hi;exact .yld (hi _ _ k) f| mp k f=>intro a hi;exact .mp (hi _ _ k) f| ch k f=>intro a hi;exact .ch (hi _ _ k) f| Aj h=>intro a _;exact .Aj h| iptr cell hm he _ g=>intro a hi;exact .iptr cell (λi j m n=>⟨B _ _ _ (hm i j m n).1,(hm i j m n).2⟩) he λi j e x m n=>g i j e x m n dO (λ_ _ h=>h)| fn w t _ _ g y=>intro a hi;exact .fn w t (λi c u d p=>g i c u d p a hi) λi c u d p=>y i c u d p a hi| ifc _ g=>intro a hi;exact .ifc (g a hi)
def VR.up{M:Mem}{x:AV}{u:Value}(h:VR M dO x u)(ι:Map):VR M ι x u:=h.mono (λ_ _ _ h=>h) ι (λ_ _ h=>by cases h)
def mc(M:Mem)(ι:Map)(a:List AV)(us:List Value):Prop:=a.length=us.length /\∀(i:Nat) x u,a[i]?=some x->us[i]?=some u->VR M ι x u
def mc.nil{M:Mem}{ι:Map}:mc M ι [] []:=⟨rfl,λi x u h=>by simp at h⟩
def mc.cons{M:Mem}{ι:Map}{x:AV}{u:Value}{d:List AV}{us:List Value}(h:VR M ι x u)(c:mc M ι d us):mc M ι (x :: d) (u :: us):=
 ⟨by simp[c.1],λi y v a b=>by
  cases i with| zero=>simp at a b;subst a;subst b;exact h| succ i=>simp at a b;exact c.2 i y v a b⟩
def mc.append{M:Mem}{ι:Map}{c f:List AV}{us d:List Value}(h:mc M ι c us)(e:mc M ι f d):mc M ι (c++f) (us++d):=
 ⟨by simp[h.1,e.1],λi y v b a=>by
  rcases fl i c.length with hi | hi
  ·rw[jU hi]at b;rw[jU (h.1 ▸ hi)]at a;exact h.2 i y v b a
  rw[gU hi]at b;rw[gU (h.1 ▸ hi)]at a;rw[<-h.1]at a;exact e.2 _ y v b a⟩
def mc.mono{M M':Mem}{ι a:Map}{d:List AV}{us:List Value}(h:mc M ι d us)(f : ∀b o x,M b o=some x->M' b o=some x)(c : ∀r l,ι r=some l->a r=some l):mc M' a d us:=
 ⟨h.1,λi x u e g=>(h.2 i x u e g).mono f a c⟩
def mc.take{M:Mem}{ι:Map}{d:List AV}{us:List Value}(h:mc M ι d us)(n:Nat):mc M ι (d.take n) (us.take n):=
 ⟨by simp[h.1],λi x u a b=>by
  rw[Az]at a b;split at a;·rename_i c;rw[if_pos c]at b;exact h.2 i x u a b
  cases a⟩
def mc.drop{M:Mem}{ι:Map}{a:List AV}{us:List Value}(h:mc M ι a us)(n:Nat):mc M ι (a.drop n) (us.drop n):=
 ⟨by simp[h.1],λi x u b c=>by
  rw[Ac]at b c;exact h.2 _ x u b c⟩
def VR.qE{M:Mem}{ι:Map}{cs:List AV}{b:Array Value}:VR M ι (.agg cs) (.agg b)↔mc M ι cs b.toList:=
 ⟨λh=>by cases h with | agg f h=>exact⟨by simpa using f,λi x u d a=>h i x u d (by simpa using a)⟩,
  λh => .agg (by simpa using h.1) λi c u e a=>h.2 i c u e (by simpa using a)⟩
def VR.cells{M:Mem}{ι:Map}{x:AV}{u:Value}(h:VR M ι x u):mc M ι x.cells u.cells.toList:=by
 have one : ∀ {x:AV} {u:Value},VR M ι x u->x.cells=[x]->u.cells = #[u]->mc M ι x.cells u.cells.toList:=by
  intro x u h j k;rw[j,k];exact mc.cons h mc.nil
 cases h with
 | agg m h=>exact⟨by simpa [AV.cells,Value.cells] using m,λi x u j k=>h i x u (by simpa [AV.cells] using j) (by simpa [Value.cells] using k)⟩
 | v h=>refine one (.v h) rfl ?_;cases u<;>first | rfl | (simp[scalar]at h)
 | tup o m h=>exact one (.tup o m h) rfl rfl
 | bg cell c f d hm he h=>exact one (.bg cell c f d hm he h) rfl rfl
 | bk b e c g f l d a=>exact one (.bk b e c g f l d a) rfl rfl
 | dsl b e c g f l d a=>exact one (.dsl b e c g f l d a) rfl rfl
 | ptr b a=>exact one (.ptr b a) rfl rfl
 | yld b a=>exact one (.yld b a) rfl rfl
 | mp b a=>exact one (.mp b a) rfl rfl
 | ch b a=>exact one (.ch b a) rfl rfl
 | Aj h=>exact one (.Aj h) rfl (by cases u<;>first | rfl | (cases h))
 | iptr cell hm he h=>exact one (.iptr cell hm he h) rfl rfl
 | fn g e h n=>exact one (.fn g e h n) rfl rfl
 | ifc h=>exact one (.ifc h) rfl rfl
def VR.one{M:Mem}{ι:Map}{x:AV}{u:Value}(h:VR M ι x u)(a:x.one=true):u.oneCell'=true:=by
 cases h with
 | v h=>cases u<;>first | rfl | (simp[AV.one]at a)
 | agg b h=>simp[AV.one]at a
 | tup c b h=>simp[AV.one]at a
 | bg=>rfl
 | bk=>rfl
 | dsl=>rfl
 | ptr=>rfl
 | iptr=>rfl
 | fn=>rfl
 | ifc=>rfl
 | yld=>rfl
 | mp=>rfl
 | ch=>rfl
 | Aj h=>exact h
def oL{M:Mem}{ι:Map}{u:Value}{x:AV}(h:iO u=some x):VR M ι x u:=by
 unfold iO at h;split at h;·cases h;exact .v (by assumption)
 cases h
def Dy{M:Mem}{ι:Map}{us:List Value}{b:List AV}(h:us.mapM iO=some b):mc M ι b us:=
 ⟨hJ h,λi x u d e=>by
  obtain⟨f,a,c⟩:=o6 h i x d;rw[e]at a;cases a;exact oL c⟩
def jB{M:Mem}{ι:Map}{u:Value}{x:AV}(h:ofValue u=some x):VR M ι x u:=by
 cases u with
 | agg cs=>simp only[ofValue,bI]at h;obtain⟨xs,d,rfl⟩:=h;exact VR.qE.2 (Dy d)
 | func f a b=>
  simp only[ofValue]at h;split at h;·rename_i g;cases h;simp at g;obtain⟨rfl,rfl⟩:=g;exact .fn rfl rfl (λi c u j=>by simp at j) (λi c u j=>by simp at j)
  cases h
 | tuple o=>
  simp only[ofValue]at h;split at h;·rename_i k;simp at k;subst k;cases h;exact .v rfl
  rename_i k;simp only[bI]at h;obtain⟨xs,d,rfl⟩:=h;have l:=Dy (M:=M) (ι:=ι) d;refine .tup ?_ (by simpa using l.1) λi c u j n=>l.2 i c u j (by simpa using n);intro e;subst e;have:=l.1;simp at this;exact k (by simpa using Mm this.symm)
 | iface t x=>simp only[ofValue,bI]at h;obtain⟨y,m,rfl⟩:=h;exact .ifc (oL m)
 | _=>exact oL (by simpa [ofValue] using h)
def Pa{M:Mem}{ι:Map}{x:AV}{u v:Value}(h:VR M ι x u)(a:JY x=some v):u=v:=by
 cases h<;>simp[JY]at a;exact a
def vR{M:Mem}{ι:Map}{x:AV}{u v:Value}(h:VR M ι x u)(e:kH x=some v):u=v:=by
 cases h<;>simp[kH]at e;·exact e
 rename_i cs f m k;obtain⟨l,a,rfl⟩:=e;congr 1;apply Fj;intro i;rcases fl i f.size with hi | hi
 ·have d:=hJ a;have b:i<l.length:=by omega
  obtain⟨c,j,g⟩:=o6 a i l[i] (dI b);have:=Pa (k i c f[i] j (kD hi)) g;simp[this,kD hi,dI b]
 have d:=hJ a;rw[Array.getElem?_eq_none hi];simp;omega
def bj.map(k:bj)(ι:Map):Map:=if k.arr then dO else ι
def C6(z a:Nat)(fz:Nat × Nat):Prop:=(∀o,o<a ->¬(fz.1<=o/\(o<fz.2\/fz.2<fz.1)))/\(1<z ->¬(fz.1<=a/\a<fz.2))
def C6.zero(z n:Nat):C6 z n (0,0):=⟨λo _ h=>by simp at h,λ_ h=>by simp at h⟩
structure fH (M:Mem) (ι:Map) (w:World) (l:Loc) (k:bj):Prop where
 esz:l.esz=k.esz
 heap : ∃arr T fz,w.heap[l.b]?=some (.cells arr T fz)/\arr.size=l.n * k.esz/\C6 k.esz arr.size fz /\
  ∀(i j:Nat) e x,k.es[i]?=some e->e.cells[j]?=some x ->∃u,arr[i * k.esz+j]?=some u/\u.oneCell'=true/\VR M (k.map ι) x u
 len:k.es.length<=l.n
 cells : ∀e∈k.es,e.cells.length=k.esz
 frozen : ∀o x,M l.b o=some x->k.gR=true/\o<k.es.length * k.esz
def Dj(n:Nat)(r:Loop):Prop:=match n with
 | 0=>r.state = .ready/\r.pending=none
 | 1=>r.state = .busy
 | 2=>r.state = .done/\r.pending=some .ret
 | id+3=>r.state = .done/\r.pending=some (.exit id)
def Jd(M:Mem)(ι:Map)(w:World)(l:Loc)(k:bj):Prop:=
 ∃(n nt:Nat) (ps:List Tmp) (assign body:Code) (tm:List AV) (r:Loop),k.esz=0/\k.arr=false/\k.es=[.v (.int .i64 n),.lp 0 nt ps assign body tm]/\w.heap[l.b]?=some (.loop r)/\r.params=ps.toArray/\r.assign=assign/\r.body=body /\
  r.tmps.size=nt/\(∀t,VR M ι (df tm t) (r.tmps.getD t undef))/\Dj n r
def OC(M:Mem)(ι:Map)(w:World)(l:Loc)(k:bj):Prop:=
 ∃(c:List AV) (a:Array MapEntry),k.esz=0/\k.arr=false/\k.es = .v (.bool true) :: c/\w.heap[l.b]?=some (.map a a.size)/\a.size=c.length /\
  ∀(i:Nat) ent e,c[i]?=some ent->a[i]?=some e ->∃f d,ent = .tup [f,d]/\kH f=some e.key/\VR M ι d e.val/\e.born=i
def Jg(M:Mem)(ι:Map)(w:World)(l:Loc)(k:bj):Prop:=
 ∃(cap s r:Nat) (c:Bool) (a:List AV) (arr:Array Value),k.esz=0/\k.arr=false/\k.es = .v (.bool false) :: .v (.int .i64 cap) :: .v (.bool c) :: a/\w.heap[l.b]?=some (.chan cap arr c s r false) /\
  arr.size=a.length /\∀(i:Nat) x u,a[i]?=some x->arr[i]?=some u->VR M ι x u
def oB(M:Mem)(ι:Map)(w:World)(l:Loc)(k:bj):Prop:=Jd M ι w l k\/OC M ι w l k\/Jg M ι w l k
structure pM (M:Mem) (ι:Map) (w:World) (l:Loc) (k:bj):Prop where
 esz:l.esz=k.esz
 cellsOk:0<k.esz->fH M ι w l k
 objOk:k.esz=0->oB M ι w l k
 frozen : ∀o x,M l.b o=some x->k.gR=true/\o<k.es.length * k.esz
def fH.Ud{M:Mem}{ι:Map}{w:World}{l:Loc}{k:bj}(h:fH M ι w l k)(a:0<k.esz):pM M ι w l k:=⟨h.esz,λ_=>h,λe=>by omega,h.frozen⟩
def oB.zero{M:Mem}{ι:Map}{w:World}{l:Loc}{k:bj}(h:oB M ι w l k):k.esz=0/\k.arr=false:=by
 rcases h with ⟨n,nt,ps,as,d,tm,r,a,b,_⟩ | ⟨c,entries,a,b,_⟩ | ⟨_,_,_,_,_,_,a,b,_⟩
 ·exact⟨a,b⟩
 ·exact⟨a,b⟩
 exact⟨a,b⟩
def oB.obj{M:Mem}{ι:Map}{w:World}{l:Loc}{k:bj}(h:oB M ι w l k):(∃r,w.heap[l.b]?=some (.loop r))\/(∃es c,w.heap[l.b]?=some (.map es c)) \/∃a b c d e f,w.heap[l.b]?=some (.chan a b c d e f):=by
 rcases h with ⟨n,nt,ps,as,i,tm,r,_,_,_,h,_⟩ | ⟨g,entries,_,_,_,h,_⟩ | ⟨_,_,_,_,_,_,_,_,_,h,_⟩
 ·exact .inl ⟨_,h⟩
 ·exact .inr (.inl ⟨_,_,h⟩)
 exact .inr (.inr ⟨_,_,_,_,_,_,h⟩)
def oB.same{M:Mem}{ι:Map}{w:World}{l:Loc}{k k':bj}(h:oB M ι w l k)(i:k'.esz=k.esz)(j:k'.arr=k.arr)(g:k'.es=k.es):oB M ι w l k':=by
 rcases h with ⟨n,nt,ps,as,m,tm,r,f,a,e,d⟩ | ⟨b,entries,f,a,e,d⟩ | ⟨c,s,r,o,buf,arr,f,a,e,d⟩
 ·exact .inl ⟨n,nt,ps,as,m,tm,r,i.trans f,j.trans a,g.trans e,d⟩
 ·exact .inr (.inl ⟨b,entries,i.trans f,j.trans a,g.trans e,d⟩)
 exact .inr (.inr ⟨c,s,r,o,buf,arr,i.trans f,j.trans a,g.trans e,d⟩)
def oB.Ud{M:Mem}{ι:Map}{w:World}{l:Loc}{k:bj}(h:oB M ι w l k)(d:l.esz=0)(a : ∀o x,M l.b o=some x->False):pM M ι w l k:=
 ⟨by rw[d,h.zero.1],λe=>by have:=h.zero.1;omega,λ_=>h,λo x c=>(a o x c).elim⟩
def pM.pos{M:Mem}{ι:Map}{w:World}{l:Loc}{k:bj}(h:pM M ι w l k)(a:k.arr=true):0<k.esz:=by
 rcases Et k.esz with e | e
 ·have:=(h.objOk e).zero.2;rw[a]at this;cases this
 exact e
structure gS (M:Mem) (ι:Map) (g:cV) (w:World):Prop where
 mem : ∀b o x,M b o=some x->w.cell? ⟨b,o,none⟩=some x
 live : ∀r k,g r=some k ->∃l,ι r=some l/\pM M ι w l k
 inj : ∀r r' k k' l l',g r=some k->g r'=some k'->ι r=some l->ι r'=some l'->l.b=l'.b->r=r'
def gS.at{M:Mem}{ι:Map}{g:cV}{w:World}(d:gS M ι g w){r:Ref}{b:bj}{l:Loc}(f:ι r=some l)(h:0<l.esz)(e:g r=some b):fH M ι w l b:=by
 obtain⟨i,a,c⟩:=d.live r b e;rw[f]at a;cases a;exact c.cellsOk (by have:=c.esz;omega)
def oB.mono{M M':Mem}{ι d:Map}{w w':World}{l:Loc}{k:bj}(h:oB M ι w l k)(A : ∀b o x,M b o=some x->M' b o=some x)(f : ∀r l,ι r=some l->d r=some l)(z:w'.heap[l.b]?=w.heap[l.b]?):oB M' d w' l k:=by
 rcases h with ⟨n,nt,ps,as,J,tm,r,v,B,m,y,j,g,q,E,N,L⟩ | ⟨p,entries,v,m,y,j,g,q⟩ | ⟨c,s,r,K,buf,arr,v,m,y,j,g,q⟩
 ·exact .inl ⟨n,nt,ps,as,J,tm,r,v,B,m,by rw[z];exact y,j,g,q,E,λt=>(N t).mono A d f,L⟩
 ·exact .inr (.inl ⟨p,entries,v,m,y,by rw[z];exact j,g,λi C e a b=>by obtain⟨H,G,I,F,D⟩:=q i C e a b;exact⟨H,G,I,F,D.1.mono A d f,D.2⟩⟩)
 exact .inr (.inr ⟨c,s,r,K,buf,arr,v,m,y,by rw[z];exact j,g,λi x u a b=>(q i x u a b).mono A d f⟩)
structure uS (M:Mem) (ι:Map) (g:cV) (w:World) (M':Mem) (ι':Map) (g':cV) (w':World):Prop where
 os:w'.os=w.os
 tape:w'.tape=w.tape
 output:w'.output=w.output
 size:w.heap.size<=w'.heap.size
 chg : ∀b,b<w.heap.size->(∀r k l,g r=some k->ι r=some l->l.b≠b)->w'.heap[b]?=w.heap[b]?
 mem : ∀b o x,M b o=some x->M' b o=some x
 map : ∀r l,ι r=some l->ι' r=some l
 live : ∀r k l,g' r=some k->ι' r=some l->w.heap.size<=l.b \/∃r0 k0 l0,g r0=some k0/\ι r0=some l0/\l0.b=l.b
 new : ∀b o x,M' b o=some x->M b o=some x\/w.heap.size<=b \/∃r0 k0 l0,g r0=some k0/\ι r0=some l0/\l0.b=b
def uS.refl{M:Mem}{ι:Map}{g:cV}{w:World}:uS M ι g w M ι g w:=
 ⟨rfl,rfl,rfl,cG _,λ_ _ _=>rfl,λ_ _ _ h=>h,λ_ _ h=>h,λr k l h a => .inr ⟨r,k,l,h,a,rfl⟩,λ_ _ _ h => .inl h⟩
def uS.trans{M ι g w M' ι' g' w' M'' ι'' g'' w''}(h:uS M ι g w M' ι' g' w')(c:uS M' ι' g' w' M'' ι'' g'' w''):uS M ι g w M'' ι'' g'' w'':=by
 have j : ∀b,b<w.heap.size->(∀r k l,g r=some k->ι r=some l->l.b≠b) ->∀r k l,g' r=some k->ι' r=some l->l.b≠b:=by
  intro b t d r k l y s e;rcases h.live r k l y s with a | ⟨m,n,p,a,q,i⟩
  ·omega
  exact d m n p a q (i.trans e)
 refine⟨c.os.trans h.os,c.tape.trans h.tape,c.output.trans h.output,wQ h.size c.size,?_,λb o x v=>c.mem b o x (h.mem b o x v),
  λr l s=>c.map r l (h.map r l s),?_,?_⟩
 ·intro b t d;rw[c.chg b (Ay t h.size) (j b t d),h.chg b t d]
 ·intro r k l y s;rcases c.live r k l y s with a | ⟨m,n,p,a,q,i⟩
  ·exact .inl (wQ h.size a)
  rcases h.live m n p a q with f | ⟨r1,k1,z,f,A,u⟩
  ·exact .inl (i ▸ f)
  exact .inr ⟨r1,k1,z,f,A,u.trans i⟩
 intro b o x v;rcases c.new b o x v with a | a | ⟨m,n,p,a,q,i⟩
 ·exact h.new b o x a
 ·exact .inr (.inl (wQ h.size a))
 rcases h.live m n p a q with f | ⟨r1,k1,z,f,A,u⟩
 ·exact .inr (.inl (i ▸ f))
 exact .inr (.inr ⟨r1,k1,z,f,A,u.trans i⟩)
def jP{w:World}{b o:Nat}{arr:Array Value}{T:TypeId}{fz:Nat × Nat}(h:w.heap[b]?=some (.cells arr T fz)):w.cell? ⟨b,o,none⟩=arr[o]?:=by
 simp[World.cell?,h]
def ic(b o n:Nat):(⟨b,o,none⟩:Addr).add n=⟨b,o+n,none⟩:=by
 unfold Addr.add;split<;>simp_all
def kA{a:Addr}(h:a.spot=none):a=⟨a.block,a.off,none⟩:=by cases a;simp_all
def vQ{P:Program}{t:TypeId}{n:Nat}(h:aE P t=some n) : ∃i,P.info? t=some i/\i.size=n:=by
 simpa [aE] using h
def cO{P:Program}{t:TypeId}{n:Nat}(h:aE P t=some n)(w:World):(sizeOf t).run P w = .ok n w:=by
 obtain⟨i,hi,rfl⟩:=vQ h;simp[sizeOf,typeInfo,hi]
def bu{P:Program}{t:TypeId}{d:TypeDesc}(h:P.underlying t=some d)(w:World):(underlying t).run P w = .ok d w:=by
 simp[underlying,h]
def Bz{P:Program}{t:TypeId}{b:Bool}(h:eK P t=some b)(w:World):(isAgg t).run P w = .ok b w:=by
 simp only[eK,bI]at h;obtain⟨d,hd,rfl⟩:=h;simp only[isAgg,iQf,bu hd,iQd];cases d<;>rfl
def yE{P:Program}{t:TypeId}{z:AV}(h:eu P t=some z)(w:World) : ∃u,(zeroValue t).run P w = .ok u w/\ofValue u=some z:=by
 simp only[eu,iF]at h;obtain⟨u,⟨i,hi,a⟩,b⟩:=h;exact⟨u,by simp[zeroValue,typeInfo,hi,a],b⟩
def CB(M:Mem)(ι:Map)(w:World)(b o:Nat)(a:List AV):Prop:=
 ∀(j:Nat) x,a[j]?=some x ->∃u,w.cell? ⟨b,o+j,none⟩=some u/\u.oneCell'=true/\VR M ι x u
def CB.values{M ι w b o}{a:List AV}(h:CB M ι w b o a) : ∃us:List Value,mc M ι a us/\(∀u∈us,u.oneCell'=true) /\∀(j:Nat) u,us[j]?=some u->w.cell? ⟨b,o+j,none⟩=some u:=by
 induction a generalizing o with| nil=>exact⟨[],mc.nil,by simp,by simp⟩| cons x a e=>
  obtain⟨u,l,k,f⟩:=h 0 x rfl;obtain⟨us,m,i,g⟩:=e (o:=o+1) λj y d=>by
   have:=h (j+1) y (by simpa using d);rwa [show o+(j+1)=o+1+j by omega]at this
  refine⟨u :: us,mc.cons f m,by simpa [k] using i,?_⟩;intro j v c;cases j with
  | zero=>simp at c;subst c;exact l
  | succ j=>simp at c;have:=g j v c;rwa [show o+(j+1)=o+1+j by omega]
def CB.sub{M ι w b o}{c:List AV}(h:CB M ι w b o c)(j n:Nat):CB M ι w b (o+j) ((c.drop j).take n):=by
 intro i x a;rw[Az]at a;split at a;·rw[Ac]at a;obtain⟨u,e,d⟩:=h _ x a;exact⟨u,by rwa [show o+j+i=o+(j+i) by omega],d⟩
 cases a
def wY{P:Program}{t:TypeId}{f:Bool}{n:Nat}(g:eK P t=some f)(q:aE P t=some n){M ι w b o}{cs:List AV}{j:Nat}{y:AV}
 (h:CB M ι w b o cs)
 (e:(if f then (if j+n<=cs.length/\0<n then some (AV.agg ((cs.drop j).take n)) else none) else cs[j]?)=some y) :
 ∃u,(loadVar t ⟨b,o+j,none⟩).run P w = .ok u w/\VR M ι y u:=by
 cases f with| false=>simp at e;obtain⟨u,p,_,l⟩:=h j y e;exact⟨u,by simp[loadVar,Bz g,p],l⟩| true=>
  simp at e;obtain⟨⟨s,x⟩,rfl⟩:=e;obtain⟨us,c,_,a⟩:=(h.sub j n).values;have d:us.length=n:=by rw[<-c.1];simp;omega
  refine⟨.agg us.toArray,?_,VR.qE.2 (by simpa using c)⟩;have i:=run_loadCells_list (P:=P) w ⟨b,o+j,none⟩ us (λk v m=>by rw[ic];exact a k v m);rw[d]at i;simp[loadVar,Bz g,cO q,i]
def fH.cell{M ι w l k}(h:fH M ι w l k)(i:Nat){e:AV}(a:k.es[i]?=some e):CB M (k.map ι) w l.b (i * k.esz) e.cells:=by
 obtain⟨arr,T,fz,n,_,_,f⟩:=h.heap;intro j x c;obtain⟨u,g,d,m⟩:=f i j e x a c;exact⟨u,by rw[jP n];exact g,d,m⟩
def bj.map_le(k:bj)(ι:Map) : ∀r l,k.map ι r=some l->ι r=some l:=by
 intro r l h;unfold bj.map at h;split at h;·cases h
 exact h
def RE{P:Program}{t:TypeId}{f:Bool}{n:Nat}(m:eK P t=some f)(p:aE P t=some n){M ι g w}(q:gS M ι g w)
 {r:Ref} {i j:Nat} {k:bj} {y:AV} {a:Value} (v:VR M ι (.ptr r i j) a) (o:g r=some k) (b:bF k.es i j n f=some y) :
 ∃u,(Instr.loadAt t a).run P w = .ok u w/\VR M ι y u:=by
 cases v with | ptr z l=>
 have d:=q.at z l o;unfold bF at b;split at b;·cases b
 rename_i e s;obtain⟨u,c,x⟩:=wY m p (d.cell i s) b;refine⟨u,?_,x.mono (λ_ _ _ h=>h) ι (k.map_le ι)⟩;rw[<-d.esz]at c;simp[Instr.loadAt,Instr.sureAddr,c]
def CB.adf{M:Mem}{w:World}(k : ∀b o x,M b o=some x->w.cell? ⟨b,o,none⟩=some x){esz b o i:Nat}{es:List AV}{cell:Nat->Nat->Value}
 (d : ∀i j,i<es.length->j<esz->M b (o+(i * esz+j))=some (cell i j)/\(cell i j).oneCell'=true)
 (g : ∀e∈es,e.cells.length=esz) (h : ∀(i j:Nat) e x,es[i]?=some e->e.cells[j]?=some x->VR M dO x (cell i j)) {e:AV} (hi:es[i]?=some e):CB M dO w b (o+i * esz) e.cells:=by
 intro j x c;have f:j<esz:=by
  rw[<-g e (dJ hi)];exact(ee.1 c).1
 have a:i<es.length:=(ee.1 hi).1;refine⟨cell i j,?_,(d i j a f).2,h i j e x hi c⟩;rw[show o+i * esz+j=o+(i * esz+j) by omega];exact k _ _ _ (d i j a f).1
def WV{P:Program}{t:TypeId}{d:Bool}{n:Nat}(g:eK P t=some d)(m:aE P t=some n){M ι w}(q : ∀b o x,M b o=some x->w.cell? ⟨b,o,none⟩=some x)
 {esz i j:Nat} {es:List AV} {y:AV} {a:Value} (p:VR M ι (.iptr esz es i j) a) (c:bF es i j n d=some y) :
 ∃u,(Instr.loadAt t a).run P w = .ok u w/\VR M ι y u:=by
 cases p with | iptr cell l he h=>
 rename_i b o;unfold bF at c;split at c;·cases c
 rename_i e hi;obtain⟨u,f,k⟩:=wY g m (CB.adf q l he h hi) c;refine⟨u,?_,k.up ι⟩;rw[show o+i * esz+j=o+(i * esz+j) by omega]at f;simp[Instr.loadAt,Instr.sureAddr,f]
structure Eg (w w':World) (o:Obj):Prop where
 os:w'.os=w.os
 tape:w'.tape=w.tape
 output:w'.output=w.output
 heap:w'.heap=w.heap.push o
def Eg.cell{w w':World}{o:Obj}(h:Eg w w' o){a:Addr}{x:Value}(b:w.cell? a=some x):w'.cell? a=some x:=by
 have c:=iQm w a b;unfold World.cell? at b ⊢;rw[h.heap,Fo c,<-kD c];exact b
def Eg.old{w w':World}{o:Obj}(h:Eg w w' o)(b:Nat)(a:b<w.heap.size):w'.heap[b]?=w.heap[b]?:=by
 rw[h.heap,Fo a,<-kD a]
def iG(ι:Map)(q:Ref)(l:Loc):Map:=λr=>if r=q then some l else ι r
def mf(g:cV)(q:Ref)(k:bj):cV:=λr=>if r=q then some k else g r
def Gd{ι:Map}{q:Ref}{l:Loc}(b:ι q=none) : ∀r a,ι r=some a->iG ι q l r=some a:=by
 intro r a h;unfold iG;split;·subst_vars;rw[b]at h;cases h
 exact h
def gS.ZC{M ι g w}(h:gS M ι g w){q:Ref}(b:ι q=none):g q=none:=by
 cases c:g q with| none=>rfl| some k=>obtain⟨l,a,_⟩:=h.live q k c;rw[b]at a;cases a
def fH.lt{M ι w l k}(h:fH M ι w l k):l.b<w.heap.size:=by
 obtain⟨arr,T,fz,a,_⟩:=h.heap;exact(jb.1 a).1
def oB.lt{M ι w l k}(h:oB M ι w l k):l.b<w.heap.size:=by
 rcases h.obj with ⟨_,a⟩ | ⟨_,_,a⟩ | ⟨_,_,_,_,_,_,a⟩
 ·exact(jb.1 a).1
 ·exact(jb.1 a).1
 exact(jb.1 a).1
def pM.lt{M ι w l k}(h:pM M ι w l k):l.b<w.heap.size:=by
 rcases Et k.esz with e | e
 ·exact(h.objOk e).lt
 exact(h.cellsOk e).lt
def pM.Xl{M ι w l k}(h:pM M ι w l k){arr:Array Value}{T:TypeId}{fz:Nat × Nat}(c:w.heap[l.b]?=some (.cells arr T fz)):fH M ι w l k/\0<k.esz:=by
 rcases Et k.esz with e | e
 ·rcases(h.objOk e).obj with ⟨_,a⟩ | ⟨_,_,a⟩ | ⟨_,_,_,_,_,_,a⟩
  ·rw[c]at a;cases a
  ·rw[c]at a;cases a
  rw[c]at a;cases a
 exact⟨h.cellsOk e,e⟩
def fH.bD{M ι w l k M' ι' w'}(h:fH M ι w l k)(q : ∀b o x,M b o=some x->M' b o=some x)(c : ∀r l,ι r=some l->ι' r=some l)
 (p:w'.heap[l.b]?=w.heap[l.b]?) (f : ∀o x,M' l.b o=some x->k.gR=true/\o<k.es.length * k.esz):fH M' ι' w' l k:=by
 obtain⟨arr,T,fz,t,y,A,s⟩:=h.heap;refine⟨h.esz,⟨arr,T,fz,p ▸ t,y,A,?_⟩,h.len,h.cells,f⟩;intro i j e x g n;obtain⟨u,z,m,v⟩:=s i j e x g n;refine⟨u,z,m,v.mono q _ ?_⟩;intro r B a;unfold bj.map at a ⊢;split;·rename_i d;rw[if_pos d]at a;exact a
 rename_i d;rw[if_neg d]at a;exact c r B a
def pM.bD{M ι w l k M' ι' w'}(h:pM M ι w l k)(f : ∀b o x,M b o=some x->M' b o=some x)(a : ∀r l,ι r=some l->ι' r=some l)
 (d:w'.heap[l.b]?=w.heap[l.b]?) (c : ∀o x,M' l.b o=some x->k.gR=true/\o<k.es.length * k.esz):pM M' ι' w' l k:=
 ⟨h.esz,λe=>(h.cellsOk e).bD f a d c,λe=>(h.objOk e).mono f a d,c⟩
def gS.alloc{M ι g w}(v:gS M ι g w){q:Ref}(V:ι q=none){w':World}{arr:Array Value}{T:TypeId}{fz:Nat × Nat}(m:Eg w w' (.cells arr T fz))
 (k:bj) (K:0<k.esz) (n:Nat) (G:arr.size=n * k.esz) (H:C6 k.esz arr.size fz) (B:k.es.length<=n) (c : ∀e∈k.es,e.cells.length=k.esz)
 (W : ∀(i j:Nat) e x,k.es[i]?=some e->e.cells[j]?=some x ->∃u,arr[i * k.esz+j]?=some u/\u.oneCell'=true/\VR M (k.map ι) x u) :
 gS M (iG ι q ⟨w.heap.size,k.esz,n⟩) (mf g q k) w'/\uS M ι g w M (iG ι q ⟨w.heap.size,k.esz,n⟩) (mf g q k) w':=by
 have d:=Gd (l:=⟨w.heap.size,k.esz,n⟩) V;have y : ∀b o x,M b o=some x->b<w.heap.size:=λb o x h=>iQm w ⟨b,o,none⟩ (v.mem b o x h);have z:w'.heap[w.heap.size]?=some (.cells arr T fz):=by rw[m.heap];simp
 refine⟨⟨λb o x h=>m.cell (v.mem b o x h),?_,?_⟩,⟨m.os,m.tape,m.output,by rw[m.heap];simp,λb f _=>m.old b f,λ_ _ _ h=>h,d,?_,λ_ _ _ h => .inl h⟩⟩
 ·intro r k' t;unfold mf at t;split at t
  ·rename_i e;subst e;cases t;refine⟨⟨w.heap.size,k.esz,n⟩,by simp[iG],fH.Ud ⟨rfl,⟨arr,T,fz,z,G,H,?_⟩,B,c,?_⟩ K⟩
   ·intro i j e x U N;obtain⟨u,R,L,Q⟩:=W i j e x U N;refine⟨u,R,L,Q.mono (λ_ _ _ h=>h) _ ?_⟩;intro r' S a;unfold bj.map at a ⊢;split;·rename_i I;rw[if_pos I]at a;exact a
    rename_i I;rw[if_neg I]at a;exact d r' S a
   intro o x h;exact absurd (y _ _ _ h) (xq _)
  obtain⟨l,a,f⟩:=v.live r k' t;exact⟨l,d r l a,f.bD (λ_ _ _ h=>h) d (m.old _ f.lt) f.frozen⟩
 ·intro r r' k1 J O P A C s p F;unfold mf at A C;unfold iG at s p;by_cases D:r=q<;>by_cases E:r'=q;·rw[D,E]
  ·rw[if_pos D]at s;rw[if_neg E]at C p;obtain⟨l,a,f⟩:=v.live r' J C;rw[a]at p;cases p;cases s;exact absurd f.lt (by rw[<-F];exact xq _)
  ·rw[if_neg D]at A s;rw[if_pos E]at p;obtain⟨l,a,f⟩:=v.live r k1 A;rw[a]at s;cases s;cases p;exact absurd f.lt (by rw[F];exact xq _)
  rw[if_neg D]at A s;rw[if_neg E]at C p;exact v.inj r r' k1 J O P A C s p F
 intro r k' l t a;unfold mf at t;unfold iG at a;split at t;·rename_i e;rw[if_pos e]at a;cases a;exact .inl (cG _)
 rename_i e;rw[if_neg e]at a;exact .inr ⟨r,k',l,t,a,rfl⟩
def ck(w:World)(b:Nat)(o:Obj):World := { w with heap:=w.heap.setIfInBounds b o}
def gY{w:World}{b:Nat}{o:Obj}(a:b<w.heap.size):(ck w b o).heap[b]?=some o:=by simp[ck,a]
def fu{w:World}{b a:Nat}{o:Obj}(h:b≠a):(ck w b o).heap[a]?=w.heap[a]?:=by simp[ck,BZ h]
def cP(arr:Array Value)(o:Nat)(us:List Value):Array Value:=(arr.toList.take o++us++arr.toList.drop (o+us.length)).toArray
def jc{arr:Array Value}{o:Nat}{us:List Value}(h:o+us.length<=arr.size)(i:Nat) :
 (cP arr o us)[i]?=if o<=i/\i<o+us.length then us[i - o]? else arr[i]?:=by
 unfold cP;simp only[OS];have b:(arr.toList.take o).length=o:=by simp;omega
 rcases fl i o with a | a
 ·rw[qP,jU (by omega),Az,if_pos a,if_neg (by omega)];simp
 rcases fl i (o+us.length)with c | c
 ·rw[qP,gU (by omega),jU (by omega),if_pos ⟨a,c⟩,b]
 rw[gU (by simp;omega),Ac,if_neg (by omega)];simp only[ja,b,Gw];congr 1;omega
def jM{arr:Array Value}{o:Nat}{us:List Value}(h:o+us.length<=arr.size):(cP arr o us).size=arr.size:=by
 simp[cP];omega
def nD{P:Program}{b:Nat}{T:TypeId}{fz:Nat × Nat}(o:Nat) : ∀(us:List Value)(i:Nat)(arr:Array Value)(w:World),w.heap[b]?=some (.cells arr T fz) ->
 o+i+us.length<=arr.size->(∀j,j<arr.size ->¬(fz.1<=j/\(j<fz.2\/fz.2<fz.1)))->(∀u∈us,u.oneCell'=true) ->
 (storeCells ⟨b,o,none⟩ us i).run P w = .ok () (ck w b (.cells (cP arr (o+i) us) T fz)):=by
 intro us;induction us with
 | nil=>
  intro i arr w a q l n;have g:=(jb.1 a).1;have e:cP arr (o+i) []=arr:=by simp[cP]
  have B:ck w b (.cells arr T fz)=w:=by
   have:w.heap.setIfInBounds b (.cells arr T fz)=w.heap:=by
    apply Fj;intro k;by_cases c:b=k;·subst c;rw[a,Gy g]
    rw[BZ c]
   unfold ck;rw[this]
  simp[storeCells,e,B]
 | cons u us y=>
  intro i arr w a q l n;have g:=(jb.1 a).1;simp only[gD]at q;have z:w.cell? ⟨b,o+i,none⟩=some arr[o+i]:=by rw[jP a];exact kD (by omega)
  have p:w.frozen? ⟨b,o+i,none⟩=false:=by
   have:=l (o+i) (by omega);simp only[World.frozen?,a];simp only[Gv,iQc];by_cases h:fz.1<=o+i;·exact .inr λt=>this ⟨h,.inl t⟩
   exact .inl h
  have f:w.setCell ⟨b,o+i,none⟩ u=ck w b (.cells (arr.setIfInBounds (o+i) u) T fz):=by
   unfold World.setCell ck;congr 1;apply Fj;intro k;rw[GU];by_cases c:b=k;·subst c;rw[a,Gy g];simp
   simp[c,BZ c]
  have d:=n u (by simp);have m:=y (i+1) (arr.setIfInBounds (o+i) u) (ck w b (.cells (arr.setIfInBounds (o+i) u) T fz)) (gY g) (by simp;omega) (by simpa using l) (λv x=>n v (by simp[x]));simp only[storeCells,iQf,ic,run_store P w _ u _ d,z,p,f];simp only[eW, ↓reduceIte,iQd];rw[m];congr 1;unfold ck;simp only[Array.setIfInBounds_setIfInBounds];congr 3;apply Fj;intro k;rw[jc (by simp;omega),jc (by simp;omega)];by_cases A:k=o+i;·subst A;rw[if_neg (by omega),if_pos ⟨cG _,by simp⟩];simp[show o+i<arr.size by omega]
  by_cases s:o+(i+1)<=k/\k<o+(i+1)+us.length;·rw[if_pos s,if_pos (by simp;omega)];rw[show k - (o+i)=(k - (o+(i+1)))+1 by omega];simp
  rw[if_neg s,if_neg (by simp;omega)];rw[BZ (by omega)]
def gS.mark{M ι g w}(q:gS M ι g w){r:Ref}{k:bj}{l:Loc}(s:g r=some k)(D:ι r=some l){arr:Array Value}{T:TypeId}{C fz:Nat × Nat}{w':World}
 (F:w.heap[l.b]?=some (.cells arr T C)) (m:w'=ck w l.b (.cells arr T fz)) (B:C6 k.esz arr.size fz):gS M ι g w'/\uS M ι g w M ι g w':=by
 obtain⟨Q,p,L⟩:=q.live r k s;rw[D]at p;cases p;have E:=L.lt;have f:w'.heap[l.b]?=some (.cells arr T fz):=by rw[m];exact gY E
 have c : ∀b,l.b≠b->w'.heap[b]?=w.heap[b]?:=λb a=>by rw[m];exact fu a
 have i : ∀b o,w'.cell? ⟨b,o,none⟩=w.cell? ⟨b,o,none⟩:=by
  intro b o;by_cases a:l.b=b;·subst a;rw[jP f,jP F]
  exact iQk (c b a)
 refine⟨⟨λb o x h=>by rw[i];exact q.mem b o x h,?_,q.inj⟩,?_⟩
 ·intro r' k1 t;obtain⟨v,n,d⟩:=q.live r' k1 t;refine⟨v,n,?_⟩;by_cases a:l.b=v.b
  ·obtain⟨j,A⟩:=d.Xl (a ▸ F);obtain⟨G,R,N,u,H,S,K⟩:=j.heap;rw[<-a,F]at u;injection u with u;injection u with O P U
   subst O;subst P;have y:k1=k:=by
    have e:=q.inj r r' k k1 l v s t D n a;subst e;rw[s]at t;exact(GM t).symm
   exact fH.Ud ⟨d.esz,⟨arr,T,fz,by rw[<-a];exact f,H,by rw[y];exact B,K⟩,j.len,j.cells,d.frozen⟩ A
  exact d.bD (λ_ _ _ h=>h) (λ_ _ h=>h) (c _ a) d.frozen
 refine⟨by rw[m];rfl,by rw[m];rfl,by rw[m];rfl,by rw[m];simp[ck],λb J z=>c b (z r k l s D),λ_ _ _ h=>h,λ_ _ h=>h,λr k l h I => .inr ⟨r,k,l,h,I,rfl⟩,λ_ _ _ h => .inl h⟩
def gS.write{M ι g w}(y:gS M ι g w){r:Ref}{k k':bj}{l:Loc}(t:g r=some k)(E:ι r=some l)(R:0<l.esz){arr:Array Value}{T:TypeId}{fz:Nat × Nat}{w':World}
 (d:w'=ck w l.b (.cells arr T fz)) (a:k'.esz=k.esz) (O:k'.arr=k.arr) (J:arr.size=l.n * k.esz) (F:C6 k.esz arr.size fz)
 (B:k'.es.length<=l.n) (c : ∀e∈k'.es,e.cells.length=k.esz) (f : ∀o x,M l.b o=some x->False)
 (Q : ∀(i j:Nat) e x,k'.es[i]?=some e->e.cells[j]?=some x ->∃u,arr[i * k.esz+j]?=some u/\u.oneCell'=true/\VR M (k'.map ι) x u) :
 gS M ι (mf g r k') w'/\uS M ι g w M ι (mf g r k') w':=by
 obtain⟨X,v,G⟩:=y.live r k t;rw[E]at v;cases v;have N:=G.lt;refine⟨⟨?_,?_,?_⟩,?_⟩;·intro b o x h;have q:l.b≠b:=λe=>f o x (e ▸ h);rw[iQk (w:=w) (by rw[d];exact fu q)];exact y.mem b o x h
 ·intro r' k1 C;unfold mf at C;split at C;·rename_i e;subst e;cases C;refine⟨l,E,fH.Ud ⟨by rw[G.esz,a],⟨arr,T,fz,by rw[d];exact gY N,by rw[a];exact J,by rw[a];exact F,by rw[a];exact Q⟩,B,by rw[a];exact c,λo x h=>(f o x h).elim⟩ (by rw[a,<-G.esz];exact R)⟩
  rename_i q;obtain⟨m,A,z⟩:=y.live r' k1 C;have K:l.b≠m.b:=λe=>q (y.inj r' r k1 k m l C t A E e.symm);exact⟨m,A,z.bD (λ_ _ _ h=>h) (λ_ _ h=>h) (by rw[d];exact fu K) z.frozen⟩
 ·intro r1 r2 k1 W m U s D S P V;have p : ∀ {r1:Ref} {k1:bj},mf g r k' r1=some k1 ->∃k,g r1=some k:=by
   intro r1 k1 h;unfold mf at h;split at h;·rename_i e;exact⟨k,e ▸ t⟩
   exact⟨k1,h⟩
  obtain⟨_,H⟩:=p s;obtain⟨_,L⟩:=p D;exact y.inj r1 r2 _ _ m U H L S P V
 refine⟨by rw[d];rfl,by rw[d];rfl,by rw[d];rfl,by rw[d];simp[ck],?_,λ_ _ _ h=>h,λ_ _ h=>h,?_,λ_ _ _ h => .inl h⟩;·intro b _ I;rw[d];exact fu (I r k l t E)
 intro r1 k1 m s D;unfold mf at s;split at s;·rename_i e;subst e;exact .inr ⟨r1,k,m,t,D,rfl⟩
 exact .inr ⟨r1,k1,m,s,D,rfl⟩
end Go.Ab
namespace Go.Ab
open Classical
def UP(ι:Map)(g:cV)(R:List Ref)(b o:Nat):Prop :=∃r∈R,∃k l,g r=some k/\ι r=some l/\l.b=b/\o<k.es.length * k.esz
noncomputable def lz(M:Mem)(ι:Map)(g:cV)(w:World)(R:List Ref):Mem:=λb o=>
 match M b o with
 | some x=>some x
 | none=>if UP ι g R b o then w.cell? ⟨b,o,none⟩ else none
def xm{M ι g w R} : ∀b o x,M b o=some x->lz M ι g w R b o=some x:=by
 intro b o x h;simp[lz,h]
def zV{M ι g w R}(c : ∀b o x,M b o=some x->w.cell? ⟨b,o,none⟩=some x) : ∀b o x,lz M ι g w R b o=some x->w.cell? ⟨b,o,none⟩=some x:=by
 intro b o x h;unfold lz at h;split at h;·rename_i y a;cases h;exact c b o _ a
 split at h;·exact h
 cases h
def zW{M ι g w R b o x}(h:lz M ι g w R b o=some x):M b o=some x\/UP ι g R b o:=by
 unfold lz at h;split at h;·rename_i y a;cases h;exact .inl a
 split at h;·rename_i c;exact .inr c
 cases h
def EY{n esz i j:Nat}(hi:i<n)(a:j<esz):i * esz+j<n * esz:=by
 have:(i+1) * esz<=n * esz:=mB _ hi;rw[mo]at this;omega
def I9{M ι g w R}(o:gS M ι g w){r:Ref}{k:bj}{l:Loc}(D:r∈R)(n:g r=some k)(q:ι r=some l){i j:Nat}(hi:i<k.es.length)(C:j<k.esz) :
 ∃u,lz M ι g w R l.b (i * k.esz+j)=some u/\u.oneCell'=true/\w.cell? ⟨l.b,i * k.esz+j,none⟩=some u /\
  ∀e x,k.es[i]?=some e->e.cells[j]?=some x->VR M (k.map ι) x u:=by
 obtain⟨G,a,f⟩:=o.live r k n;rw[q]at a;cases a;replace f:=f.cellsOk (by omega);obtain⟨arr,T,fz,E,F,H,z⟩:=f.heap;have c:k.es[i]?=some k.es[i]:=dI hi;have s:=f.cells k.es[i] (eE hi);have d:k.es[i].cells[j]?=some (k.es[i].cells[j]'(by omega)):=dI _;obtain⟨u,B,v,A⟩:=z i j _ _ c d;have h:w.cell? ⟨l.b,i * k.esz+j,none⟩=some u:=by rw[jP E];exact B
 refine⟨u,?_,v,h,?_⟩
 ·unfold lz;split;·rename_i y t;have:=o.mem _ _ _ t;rw[h]at this;cases this;rfl
  rw[if_pos ⟨r,D,k,l,n,q,rfl,EY hi C⟩];exact h
 intro e x p m;rw[c]at p;cases p;rw[d]at m;cases m;exact A
def Mx{g:cV}{n:Nat}{x y:AV}(h:view g (n+1) x=some y)(c : ∀cs,x ≠ .agg cs):x.cells=[x]/\y.cells=[y]:=by
 refine⟨by cases x<;>first | rfl | exact absurd rfl (c _),?_⟩;cases x with
 | agg cs=>exact absurd rfl (c cs)
 | v x=>simp[view]at h;subst h;rfl
 | tup cs=>simp only[view,bI]at h;obtain⟨_,_,rfl⟩:=h;rfl
 | bg=>simp[view]at h;subst h;rfl
 | iptr=>simp[view]at h;subst h;rfl
 | fsl=>simp[view]at h
 | bk r off len cap=>
  simp only[view]at h;split at h
  ·split at h;·cases h;rfl
   cases h
  cases h
 | dsl r off len cap=>
  simp only[view]at h;split at h
  ·split at h;·simp only[bI]at h;obtain⟨_,_,rfl⟩:=h;rfl
   cases h
  cases h
 | nsl=>simp[view]at h
 | ptr r i j=>
  simp only[view]at h;split at h
  ·split at h;·cases h;rfl
   simp only[bI]at h;obtain⟨_,_,rfl⟩:=h;rfl
  cases h
 | fn f a b=>
  simp only[view]at h;split at h;·cases h;rfl
  cases h
 | ifc t x=>simp only[view,bI]at h;obtain⟨_,_,rfl⟩:=h;rfl
 | yld=>simp[view]at h
 | mp=>simp[view]at h
 | ch=>simp[view]at h
 | Aj=>simp[view]at h
 | lp=>simp[view]at h
def zk{g:cV}{n:Nat}{e f:AV}(h:view g (n+1) e=some f) :
 f.cells.length=e.cells.length /\∀(j:Nat) c,f.cells[j]?=some c ->∃m x,m<=n+1/\e.cells[j]?=some x/\view g m x=some c /\∀r∈ah g m x,r∈ah g (n+1) e:=by
 by_cases b : ∃cs,e = .agg cs;·obtain⟨cs,rfl⟩:=b;simp only[view,bI]at h;obtain⟨q,d,rfl⟩:=h;refine⟨by simp[AV.cells,hJ d],?_⟩;intro j c a;obtain⟨x,b,o⟩:=o6 d j c (by simpa [AV.cells] using a);refine⟨n,x,by omega,by simpa [AV.cells] using b,o,?_⟩;intro r i;simp only[ah,iK];exact⟨x,dJ b,i⟩
 obtain⟨k,l⟩:=Mx h (λcs p=>b ⟨cs,p⟩);refine⟨by rw[k,l];rfl,?_⟩;intro j c a;rw[l]at a;cases j with
 | zero=>simp at a;subst a;exact⟨n+1,e,cG _,by rw[k];rfl,h,λr i=>i⟩
 | succ j=>simp at a
def Df{M ι g w R}(hS:gS M ι g w) : ∀(n:Nat)(x y:AV)(u:Value),view g n x=some y->(∀r∈ah g n x,r∈R)->VR M ι x u->VR (lz M ι g w R) dO y u:=by
 intro n;induction n using Nat.strongRecOn with | ind n ih=>
 intro x y u h L O;cases n with
 | zero=>simp[view]at h
 | succ n=>
  have D : ∀ {cs ys:List AV} {us:List Value},cs.mapM (view g n)=some ys->(∀r∈cs.flatMap (ah g n),r∈R)->mc M ι cs us->mc (lz M ι g w R) dO ys us:=(by intro cs ys us H L hvs;refine⟨by rw[hJ H];exact hvs.1,λi y' u hy K=>?_⟩;obtain⟨x,C,hf⟩:=o6 H i y' hy;exact ih n (by omega) x y' u hf (λr I=>L r (iK.2 ⟨x,dJ C,I⟩)) (hvs.2 i x u C K));cases x with
  | v x=>simp[view]at h;subst h;cases O with | v hs=>exact .v hs
  | agg cs=>
   simp only[view,bI]at h;obtain⟨ys,H,rfl⟩:=h;cases O with | agg hl V=>
   exact VR.qE.2 (D H (by simpa [ah] using L) (VR.qE.1 (.agg hl V)))
  | tup cs=>
   simp only[view,bI]at h;obtain⟨ys,H,rfl⟩:=h;cases O with | tup h0 hl V=>
   rename_i vs;have:=D (us:=vs.toList) H (by simpa [ah] using L) ⟨by simpa using hl,λi x u C K=>V i x u C (by simpa using K)⟩;refine .tup ?_ (by simpa using this.1) λi c u Z K=>this.2 i c u Z (by simpa using K);intro e;subst e;have E:=hJ H;exact h0 (Ad (by simpa using E.symm))
  | bg esz es cap=>
   simp[view]at h;subst h;cases O with | bg cell hs Z N hm F V=>
   exact(VR.bg (M:=M) (ι:=dO) cell hs Z N hm F V).mono xm _ (λ_ _ h=>h)
  | iptr esz es i j=>
   simp[view]at h;subst h;cases O with | iptr cell hm F V=>
   exact(VR.iptr (M:=M) (ι:=dO) cell hm F V).mono xm _ (λ_ _ h=>h)
  | fsl=>simp[view]at h
  | bk r off len cap=>
   simp only[view]at h;split at h
   ·rename_i k N;split at h
    ·rename_i V;cases h;obtain⟨z,B⟩:=V;cases O with | bk I hb hs ha Z hn Y X=>
     rename_i l a c;have T:r∈R:=L r (by simp[ah]);have p:=hS.at I X N;have S:((k.es.drop off).take len).length=len:=by simp;omega
     have hat : ∀i,i<len->((k.es.drop off).take len)[i]?=k.es[off+i]?:=(by intro i hi;rw[Az,if_pos hi,Ac]);have G:0<len->a.off=off * k.esz:=by
      intro h0;rcases ha with h | h
      ·omega
      rw[h,p.esz]
     have key : ∀i j,i<len->j<k.esz ->∃u,lz M ι g w R a.block (a.off+(i * k.esz+j))=some u/\u.oneCell'=true /\∀e x,k.es[off+i]?=some e->e.cells[j]?=some x->VR M (k.map ι) x u:=(by intro i j hi A;obtain⟨u,E,J,_,h3⟩:=I9 hS T N I (i:=off+i) (j:=j) (by omega) A;refine⟨u,?_,J,h3⟩;rw[G (by omega),hb,show off * k.esz+(i * k.esz+j)=(off+i) * k.esz+j by rw[mo];omega];exact E);let cell:Nat->Nat->Value:=λi j=>(lz M ι g w R a.block (a.off+(i * k.esz+j))).getD undef
     have:=VR.bg (M:=lz M ι g w R) (ι:=dO) (esz:=k.esz) (es:=(k.es.drop off).take len) (cap:=cap) (a:=a) (c:=c) cell (.inl hs) (by omega) Y
      (by
       intro i j hi A;rw[S]at hi;obtain⟨u,E,J,_⟩:=key i j hi A;simp[cell,E,J])
      (by
       intro e F;exact p.cells e (Dc (xY F)))
      (by
       intro i j e x hi C;have q:i<len:=by have:=(ee.1 hi).1;omega
       rw[hat i q]at hi;have A:j<k.esz:=(by rw[<-p.cells e (dJ hi)];exact(ee.1 C).1);obtain⟨u,E,J,h3⟩:=key i j q A;have:=h3 e x hi C;rw[bj.map,if_pos z]at this;simp only[cell,E,cB];exact this.mono xm _ (λ_ _ h=>h))
     rw[S]at this;exact this
    cases h
   cases h
  | nsl=>simp[view]at h
  | dsl r off len cap=>
   simp only[view]at h;split at h
   ·rename_i k N;split at h
    ·rename_i V;obtain⟨z,B⟩:=V;simp only[bI]at h;obtain⟨es',d,rfl⟩:=h;cases O with | dsl I hb hs ha Z hn Y X=>
     rename_i l a c;have T:r∈R:=L r (by simp[ah]);have p:=hS.at I X N;have hel:=hJ d;have S:((es'.drop off).take len).length=len:=by simp;omega
     have hat : ∀i,i<len->((es'.drop off).take len)[i]?=es'[off+i]?:=(by intro i hi;rw[Az,if_pos hi,Ac]);have G:0<len->a.off=off * k.esz:=by
      intro h0;rcases ha with h | h
      ·omega
      rw[h,p.esz]
     have key : ∀i j,i<len->j<k.esz ->∃u,lz M ι g w R a.block (a.off+(i * k.esz+j))=some u/\u.oneCell'=true /\∀e x,k.es[off+i]?=some e->e.cells[j]?=some x->VR M (k.map ι) x u:=(by intro i j hi A;obtain⟨u,E,J,_,h3⟩:=I9 hS T N I (i:=off+i) (j:=j) (by omega) A;refine⟨u,?_,J,h3⟩;rw[G (by omega),hb,show off * k.esz+(i * k.esz+j)=(off+i) * k.esz+j by rw[mo];omega];exact E);let cell:Nat->Nat->Value:=λi j=>(lz M ι g w R a.block (a.off+(i * k.esz+j))).getD undef
     cases n with
     | zero=>
      cases Q:k.es with| nil=>rw[Q]at d B;simp at d B;subst d;obtain⟨rfl,rfl⟩:=B;have:=VR.bg (M:=lz M ι g w R) (ι:=dO) (esz:=k.esz) (es:=[]) (cap:=cap) (a:=a) (c:=c) cell (.inr rfl) (by simp) Y (by intro i j hi;simp at hi) (by simp) (by intro i j e x hi;simp at hi);simpa using this| cons e es=>rw[Q]at d;simp[view]at d
     | succ n=>
      have:=VR.bg (M:=lz M ι g w R) (ι:=dO) (esz:=k.esz) (es:=(es'.drop off).take len) (cap:=cap) (a:=a) (c:=c) cell (.inl hs) (by omega) Y
       (by
        intro i j hi A;rw[S]at hi;obtain⟨u,E,J,_⟩:=key i j hi A;simp[cell,E,J])
       (by
        intro e' he';have he'':=Dc (xY he');obtain⟨W,q,rfl⟩:=pW he'';obtain⟨e,F,hf⟩:=o6 d W _ (dI q);rw[(zk hf).1];exact p.cells e (dJ F))
       (by
        intro W j' e' x' q hx';have hil:W<len:=by have:=(ee.1 q).1;omega
        rw[hat W hil]at q;obtain⟨e,F,hf⟩:=o6 d (off+W) e' q;obtain⟨m,x,hm,C,hfx,P⟩:=(zk hf).2 j' x' hx';have A:j'<k.esz:=(by rw[<-p.cells e (dJ F)];exact(ee.1 C).1);obtain⟨u,E,J,h3⟩:=key W j' hil A;have U:=h3 e x F C;rw[bj.map,if_neg (by simp[z])]at U;simp only[cell,E,cB];refine ih m (by omega) x x' _ hfx ?_ U;intro r' hr';refine L r' ?_;simp only[ah,N,fh,iK];exact .inr ⟨e,dJ F,P r' hr'⟩)
      rw[S]at this;exact this
    cases h
   cases h
  | ptr r i j=>
   cases O with | ptr I X=>
   rename_i l;simp only[view]at h;split at h
   ·rename_i k N;have T:r∈R:=L r (by simp[ah]);have p:=hS.at I X N;let cell:Nat->Nat->Value:=λi j=>(lz M ι g w R l.b (0+(i * k.esz+j))).getD undef
    have s : ∀i j,i<k.es.length->j<k.esz->lz M ι g w R l.b (0+(i * k.esz+j))=some (cell i j)/\(cell i j).oneCell'=true /\∀e x,k.es[i]?=some e->e.cells[j]?=some x->VR M (k.map ι) x (cell i j):=(by intro i j hi A;obtain⟨u,E,J,_,h3⟩:=I9 hS T N I hi A;rw[vG]at *;simp only[cell,vG,E,cB];exact⟨trivial,J,h3⟩);split at h
    ·rename_i z;cases h;have:=VR.iptr (M:=lz M ι g w R) (ι:=dO) (esz:=k.esz) (es:=k.es) (i:=i) (j:=j) (b:=l.b) (o:=0) cell (λi j hi A=>⟨(s i j hi A).1,(s i j hi A).2.1⟩) p.cells
      (by
       intro i j e x hi C;have q:=(ee.1 hi).1;have A:j<k.esz:=by
        rw[<-p.cells e (dJ hi)];exact(ee.1 C).1
       have:=(s i j q A).2.2 e x hi C;rw[bj.map,if_pos z]at this;exact this.mono xm _ (λ_ _ h=>h))
     rw[vG]at this;rw[p.esz];exact this
    rename_i z;simp only[bI]at h;obtain⟨es',d,rfl⟩:=h;cases n with
    | zero=>
     cases Q:k.es with| nil=>rw[Q]at d;simp at d;subst d;have:=VR.iptr (M:=lz M ι g w R) (ι:=dO) (esz:=k.esz) (es:=[]) (i:=i) (j:=j) (b:=l.b) (o:=0) cell (by intro i j hi;simp at hi) (by simp) (by intro i j e x hi;simp at hi);rw[vG]at this;rw[p.esz];exact this| cons e es=>rw[Q]at d;simp[view]at d
    | succ n=>
     have B:=hJ d;have:=VR.iptr (M:=lz M ι g w R) (ι:=dO) (esz:=k.esz) (es:=es') (i:=i) (j:=j) (b:=l.b) (o:=0) cell
      (λi j hi A=>⟨(s i j (B ▸ hi) A).1,(s i j (B ▸ hi) A).2.1⟩)
      (by
       intro e' he';obtain⟨W,q,rfl⟩:=pW he';obtain⟨e,F,hf⟩:=o6 d W _ (dI q);rw[(zk hf).1];exact p.cells e (dJ F))
      (by
       intro W j' e' x' q hx';obtain⟨e,F,hf⟩:=o6 d W e' q;obtain⟨m,x,hm,C,hfx,P⟩:=(zk hf).2 j' x' hx';have hlt:=(ee.1 F).1;have A:j'<k.esz:=by
        rw[<-p.cells e (dJ F)];exact(ee.1 C).1
       have U:=(s W j' hlt A).2.2 e x F C;rw[bj.map,if_neg z]at U;refine ih m (by omega) x x' _ hfx ?_ U;intro r' hr';refine L r' ?_;simp only[ah,N,if_neg z,fh,iK];exact .inr ⟨e,dJ F,P r' hr'⟩)
     rw[vG]at this;rw[p.esz];exact this
   cases h
  | fn f a b=>
   simp only[view]at h;split at h
   ·rename_i a' b' ha' hb';cases h;cases O with | fn hla hlb hha hhb=>
    rename_i va vb;simp only[ah,mq]at L;have E:=D (us:=va.toList) ha' (λr I=>L r (.inl I)) ⟨by simpa using hla,λi x u C K=>hha i x u C (by simpa using K)⟩;have J:=D (us:=vb.toList) hb' (λr I=>L r (.inr I)) ⟨by simpa using hlb,λi x u C K=>hhb i x u C (by simpa using K)⟩;exact .fn (by simpa using E.1) (by simpa using J.1) (λi c u Z K=>E.2 i c u Z (by simpa using K)) (λi c u Z K=>J.2 i c u Z (by simpa using K))
   cases h
  | ifc t x=>
   simp only[view,bI]at h;obtain⟨y,hy,rfl⟩:=h;cases O with | ifc O=>
   exact .ifc (ih n (by omega) x y _ hy (by simpa [ah] using L) O)
  | yld=>simp[view]at h
  | mp=>simp[view]at h
  | ch=>simp[view]at h
  | Aj=>simp[view]at h
  | lp=>simp[view]at h
def uL(g:cV)(R:List Ref):cV:=λr=>if r∈R then (g r).map λk => { k with gR:=true} else g r
def A0{M ι g w R}(C:gS M ι g w):gS (lz M ι g w R) ι (uL g R) w/\uS M ι g w (lz M ι g w R) ι (uL g R) w:=by
 have c : ∀ {r k},uL g R r=some k ->∃a,g r=some a/\k = { a with gR:=k.gR}/\(r∈R->k.gR=true)/\(a.gR=true->k.gR=true):=by
  intro r k h;unfold uL at h;split at h;·simp only[bI]at h;obtain⟨a,G,rfl⟩:=h;exact⟨a,G,rfl,λ_=>rfl,λ_=>rfl⟩
  rename_i H;exact⟨k,h,rfl,λE=>absurd E H,λh=>h⟩
 refine⟨⟨zV C.mem,?_,?_⟩,⟨rfl,rfl,rfl,cG _,λ_ _ _=>rfl,xm,λ_ _ h=>h,?_,?_⟩⟩
 ·intro r k h;obtain⟨a,t,F,H,hm⟩:=c h;obtain⟨l,v,d⟩:=C.live r a t;refine⟨l,v,?_⟩;have q:k.es=a.es:=by rw[F]
  have n:k.esz=a.esz:=(by rw[F]);have I:k.arr=a.arr:=(by rw[F]);have p : ∀o x,lz M ι g w R l.b o=some x->k.gR=true/\o<k.es.length * k.esz:=by
   intro o x y;rw[q,n];rcases zW y with h | ⟨r',z,k',A,m,f,s,B⟩
   ·exact⟨hm (d.frozen o x h).1,(d.frozen o x h).2⟩
   have e:=C.inj r' r k' a A l m t f v s;subst e;rw[t]at m;cases m;exact⟨H z,B⟩
  refine⟨by rw[n];exact d.esz,λD=>?_,λD=>?_,p⟩
  ·replace d:=d.cellsOk (by rw[<-n];exact D);obtain⟨arr,T,fz,Q,L,P,K⟩:=d.heap;refine⟨by rw[n];exact d.esz,⟨arr,T,fz,Q,by rw[n];exact L,by rw[n];exact P,?_⟩,by rw[q];exact d.len,by rw[q,n];exact d.cells,p⟩;intro i j e x J y;rw[q]at J;rw[n];obtain⟨u,O,B,N⟩:=K i j e x J y;refine⟨u,O,B,?_⟩;have:k.map ι=a.map ι:=by unfold bj.map;rw[I]
   rw[this];exact N.mono xm _ (λ_ _ h=>h)
  exact((d.objOk (by rw[<-n];exact D)).mono (M':=lz M ι g w R) xm (λ_ _ h=>h) rfl).same n I q
 ·intro r r' k k' l A h E v f d;obtain⟨a,t,_⟩:=c h;obtain⟨k1,q,_⟩:=c E;exact C.inj r r' _ _ l A t q v f d
 ·intro r k l h v;obtain⟨a,t,_⟩:=c h;exact .inr ⟨r,a,l,t,v,rfl⟩
 intro b o x y;rcases zW y with h | ⟨r',z,k',A,m,f,s,B⟩
 ·exact .inl h
 exact .inr (.inr ⟨r',k',A,m,f,s⟩)
def NN{g:cV}{R:List Ref}(h:mV g R=true):uL g R=g:=by
 funext r;unfold uL;split
 ·rename_i b;simp only[mV,gf]at h;have:=h r b;cases a:g r with
  | none=>rfl
  | some k=>rw[a]at this;simp at this;simp[<-this]
 rfl
end Go.Ab
