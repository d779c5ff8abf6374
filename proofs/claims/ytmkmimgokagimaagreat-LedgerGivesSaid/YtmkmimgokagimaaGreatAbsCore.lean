/-
  The abstract machine: a deterministic evaluator of the model's code over data, in which a slice that nobody writes is a list. No statement of a seat is proved here.
-/
import Derived.WalkKit
import Derived.RangeFuncIn
import Derived.RangeFuncRecord
import Derived.RangeFuncLeaves
import Derived.OrdersIn
set_option linter.unusedVariables false
set_option linter.unusedSimpArgs false
set_option linter.unusedSectionVars false
set_option linter.unnecessarySimpa false
set_option linter.defProp false
namespace Go.Ab
set_option linter.defProp false
def iQa:=@Go.IntWalk.i64_in
def iQb:=@decide_eq_true_eq
def iQc:=@decide_eq_false_iff_not
def iQd:=@Go.Result.andThen_ok
def iQe:=@Go.Sem.run_bind
def iQf:=@if_false
def iQg:=@congrArg
def iQh:=@Go.Sem.run_pure
def iQi:=@Go.World.cell?_of_block
def iQj:=@decide_eq_true
def iQk:=@decide_eq_false
def iQl:=@beq_iff_eq
def iQm:=@Go.World.block_lt_of_cell?
def iQn:=@Go.Steps.trans
def iQo:=@true_and
def iQp:=@congrFun
def iQq:=@cond_true
def iQr:=@Go.step_lone_go
def iQs:=@cond_false
def iQt:=@and_assoc
def iQu:=@false_and
def iQv:=@and_true
def iQw:=@Go.Frame.finish_atR
def iQx:=@Go.mem_ready
def iQy:=@Int.fdiv_eq_ediv_of_nonneg
def iQz:=@Go.StepsIn.steps
def iQA:=@of_decide_eq_true
def iQB:=@Nat.shiftRight_eq_div_pow
def iQC:=@List.drop_eq_getElem_cons
def iQD:=@Go.run_convert_bytes_string
def iQE:=@or_false
def iQF:=@UInt32.toNat_shiftRight
def iQG:=@Go.World.putObj_heap_other
def iQH:=@BitVec.eq_of_getLsbD_eq
def iQI:=@UInt32.lt_iff_toNat_lt
def iQJ:=@List.drop_of_length_le
def iQK:=@UInt32.toNat_ofBitVec
def iQL:=@UInt8.le_iff_toNat_le
def iQM:=@List.countP_le_length
def iQN:=@Nat.div_lt_iff_lt_mul
def iQO:=@Go.run_sliceBound
def iQP:=@Go.size_zeroCells
def iQQ:=@List.length_replicate
def iQR:=@UInt8.toNat_ofBitVec
def iQS:=@Bool.or_false
def iQT:=@Bool.and_self
def iQU:=@UInt32.toNat_ofNat'
def iQV:=@Array.toList_zipIdx
def iQW:=@List.mem_map_of_mem
def iQX:=@List.Sublist.append
def iQY:=@Bool.true_or
def iQZ:=@Nat.le_total
def iQ0:=@List.all_nil
def bG := @Option.map_eq_some_iff
def aT := @Bool.and_eq_true
def eK := @Option.ite_none_right_eq_some
def dy := @List.getElem?_eq_getElem
def ew := @List.getElem?_eq_some_iff
def gj := @List.take_of_length_le
def ib := @Option.bind_eq_some_iff
def kJ := @Array.getElem?_eq_getElem
def eJ := @Option.bind_some
def cH := @Nat.le_refl
def dJ := @List.mem_of_getElem?
def cI := @Option.getD_some
def iO := @Array.getElem?_eq_some_iff
def dI := @Bool.not_eq_true'
def dG := @Option.some.injEq
def ik := @Option.isSome_iff_exists
def jP := @List.getElem?_append_right
def fO := @List.mem_cons_of_mem
def kA := @List.getElem?_append_left
def gy := @List.mem_cons_self
def fq := @List.mem_flatMap
def fp := @Bool.or_eq_true
def gx := @List.all_eq_true
def eD := @List.mem_cons
def eC := @Nat.lt_or_ge
def je := @List.getElem_mem
def kT := @Bool.not_eq_false'
def iN := @List.mem_append
def mK := @Nat.eq_of_beq_eq_true
def k5 := @List.getElem?_map
def ng := @Nat.mul_le_mul_right
def mJ := @Bool.false_eq_true
def mI := @List.length_append
def nc := @List.mem_singleton
def jd := @Nat.le_of_lt
def na := @List.flatMap_cons
def jO := @List.mem_map
def nZ := @List.length_take
def qP := @List.getElem_of_mem
def mH := @List.mapM_cons
def s7 := @Option.bind_eq_bind
def m9 := @Bool.true_and
def qO := @List.length_cons
def uS := @Bool.and_eq_true_iff
def pI := @List.length_map
def B5 := @Array.getElem?_setIfInBounds_ne
def mw := @Nat.add_mul
def rS := @Nat.lt_succ_self
def wJ := @List.getElem?_eq_none
def rR := @Option.pure_def
def rQ := @List.append_nil
def GB := @Array.getElem?_setIfInBounds_self_of_lt
def pG := @List.map_cons
def sZ := @List.nil_append
def C4 := @List.eq_nil_of_length_eq_zero
def ye := @List.mem_of_mem_take
def tZ := @List.foldl_cons
def C3 := @Array.getD_eq_getD_getElem?
def Aj := @List.mem_append_left
def vn := @Option.getD_none
def wI := @Classical.not_not
def AP := @List.flatMap_append
def AO := @Nat.pos_of_ne_zero
def AN := @List.getElem?_take
def yd := @List.nodup_cons
def vm := @List.all_cons
def uR := @Nat.zero_add
def B4 := @Array.length_toList
def AM := @List.append_assoc
def Fu := @List.length_eq_zero_iff
def yc := @Bool.false_and
def yb := @List.mem_range
def Ai := @List.map_append
def Ah := @List.cons.injEq
def Ft := @Array.getElem?_push_lt
def AL := @List.filter_cons
def C2 := @Int.toNat_of_nonneg
def ya := @Prod.mk.injEq
def Fs := @List.mem_append_right
def wH := @Nat.sub_self
def C1 := @Nat.lt_of_lt_of_le
def Fq := @List.mem_of_mem_drop
def AK := @Bool.and_false
def GA := @List.getElem?_set_self
def AJ := @Bool.and_assoc
def LY := @Array.eq_empty_of_size_eq_zero
def Gz := @Array.getElem?_toList
def Gy := @List.set_append_right
def Fp := @List.getElem?_drop
def Fo := @Array.ext_getElem?
def Fm := @List.set_cons_zero
def AI := @Bool.and_true
def AH := @Nat.lt_irrefl
def B3 := @Bool.not_false
def Fl := @List.nodup_append
def C0 := @UInt8.toNat_inj
def CZ := @List.length_nil
def Gx := @List.getElem?_range
def Gw := @List.length_pos_iff
def Gv := @List.map_congr_left
def AT := @List.take_length
def AS := @Option.map_none
def xv := @Nat.le_trans
def xt := @Nat.add_zero
def AR := @List.mem_filter
def Cz := @Nat.lt_succ_of_lt
def ze := @Sum.inr.injEq
def zd := @Bool.not_true
def GY := @Int.eq_ofNat_of_zero_le
def Ex := @Nat.eq_zero_or_pos
def zb := @List.map_map
def GX := @Nat.le_of_ble_eq_true
def GW := @Array.getElem?_modify
def GV := @List.length_singleton
def GU := @List.length_filter_le
def Cy := @Bool.eq_iff_iff
def AQ := @Sum.inl.injEq
def Ew := @Nat.lt_trichotomy
def Ev := @List.take_add_one
def GS := @List.getElem?_set_ne
def Cx := @List.drop_zero
def Eu := @List.length_drop
def Et := @List.not_mem_nil
def KJ := @List.getElem?_cons_zero
def KI := @Nat.add_sub_cancel_left
def tx := @Ne.symm
def GR := @BitVec.toNat_ofInt
def KH := @List.take_append_drop
def O5 := @Option.ite_none_left_eq_some
def KG := @List.contains_iff_mem
def Es := @List.drop_drop
def GQ := @UInt32.toNat_inj
def GP := @List.any_eq_true
def GO := @List.flatMap_nil
def GN := @Option.bind_none
def Er := @Bool.false_or
def O4 := @Array.getElem?_append_left
def KF := @Bool.or_eq_true_iff
def O3 := @List.extract_eq_take_drop
def O2 := @List.mem_or_eq_of_mem_set
def GM := @Nat.min_eq_left
def KE := @List.pairwise_cons
def O1 := @Array.getElem?_replicate
def Ep := @List.map_set
def Eo := @Int.lt_or_le
def KD := @BitVec.getLsbD_and
def KC := @BitVec.getLsbD_not
def KB := @List.filter_append
def KA := @List.ext_getElem?
def En := @Nat.zero_le
def Em := @Nat.le_succ
def O0 := @List.range_succ_eq_map
def GL := @Nat.add_assoc
def GK := @List.mapM_nil
def GJ := @List.any_cons
def Kz := @Array.toList_inj
def Ky := @List.cons_append
def OZ := @UInt8.lt_iff_toNat_lt
def OY := @List.getElem?_toArray
def OX := @Bool.and_eq_false_iff
def GI := @Bool.or_self
def Ug := @List.eq_nil_iff_forall_not_mem
def GH := @List.map_nil
def OW := @Array.toList_extract
def Kx := @List.length_set
def OV := @List.range_eq_range'
def OU := @List.replicate_succ
def OT := @Nat.succ_eq_add_one
def OS := @UInt32.toBitVec_and
def OR := @UInt32.toBitVec_not
def GG := @Nat.le_zero
def GF := @Nat.sub_mul
def OQ := @Nat.lt_or_gt_of_ne
def OP := @Array.foldl_toList
def OO := @List.zip_cons_cons
def Kw := @List.map_take
def ON := @Int.toNat_natCast
def OM := @Int.emod_eq_of_lt
def GD := @Array.ext'
def GC := @Nat.not_lt
def Kv := @Bool.or_true
def OL := @Nat.min_eq_right
def Ku := @Nat.succ_mul
def OK := @List.drop_length
def OJ := @List.all_append
def Kt := @Int.le_refl
structure Ref where
 d:Nat
 t:Nat
 g:Nat
 k:Nat:=0
deriving DecidableEq,Inhabited
inductive AV where
 | v (x:Value)
 | agg (cs:List AV)
 | tup (vs:List AV)
 | cC (esz:Nat) (es:List AV) (cap:Option Nat)
 | bN (r:Ref) (off len:Nat) (cap:Option Nat)
 | dsl (r:Ref) (off len:Nat) (cap:Option Nat)
 | nsl (esz:Nat) (es:List AV) (cap:Option Nat)
 | fsl (esz:Nat) (es:List AV) (cap:Option Nat)
 | ptr (r:Ref) (i j:Nat)
 | iptr (esz:Nat) (es:List AV) (i j:Nat)
 | fn (f:Fn) (first captured:List AV)
 | ifc (t:TypeId) (x:AV)
 | yld (r:Ref)
 | mp (r:Ref)
 | ch (r:Ref)
 | Bc (u:Value)
 | lp (f:FuncId) (nt:Nat) (ps:List Tmp) (assign body:Code) (tm:List AV)
def AV.undef:AV := .v Go.undef
instance:Inhabited AV:=⟨AV.undef⟩
def AV.cells:AV->List AV
 | .agg cs=>cs
 | x=>[x]
def AV.one:AV->Bool
 | .v (.tuple _) | .v (.agg _) | .agg _ | .tup _ | .fsl .. | .nsl .. | .lp .. => false
 | _=>true
structure aQ where
 esz:Nat
 es:List AV
 arr:Bool
 gJ:Bool
deriving Inhabited
def scalar:Value->Bool
 | .bool _ | .int _ _ | .float _ _ | .complex _ _ _ | .string _=>true
 | .pointer none | .slice none 0 0 | .map none | .chan none | .nilFunc | .nilIface=>true
 | .tuple a=>a.isEmpty
 | _=>false
def kD(x:Value):Option AV:=if scalar x then some (.v x) else none
def ofValue:Value->Option AV
 | .agg cs=>(cs.toList.mapM kD).map .agg
 | .func f first captured=>if first.isEmpty&&captured.isEmpty then some (.fn f [] []) else none
 | .tuple a=>if a.isEmpty then some (.v (.tuple #[])) else (a.toList.mapM kD).map .tup
 | .iface t x=>(kD x).map (.ifc t)
 | x=>kD x
def JO:AV->Option Value
 | .v x=>some x
 | _=>none
def im:AV->Option Value
 | .v x=>some x
 | .agg cs=>(cs.mapM JO).map λl => .agg l.toArray
 | _=>none
def aY{b:Type}(P:Program):Sem b->Option b
 | .pure a=>some a
 | .program k=>aY P (k P)
 | .mark _ k=>aY P k
 | _=>none
abbrev aa:=List (Ref × Option aQ)
abbrev cF:=Ref->Option aQ
def aa.get:aa->Ref->Option aQ
 | [],_=>none
 | (r',b) :: h,r=>if r'=r then b else aa.get h r
def aa.gen:aa->Nat->Nat->Nat
 | [],_,_=>0
 | (r',_) :: h,d,t=>if r'.d=d/\r'.t=t then r'.g+1 else aa.gen h d t
def aa.put:aa->Ref->Option aQ->aa
 | [],r,b=>[(r,b)]
 | (r',b') :: h,r,b=>if r'=r then (r,b) :: h else (r',b') :: aa.put h r b
def dA:List AV->Nat->AV
 | [],_=>AV.undef
 | x :: _,0=>x
 | _ :: l,n+1=>dA l n
def Dj:List AV->Nat->AV->List AV
 | [],0,v=>[v]
 | [],n+1,v=>AV.undef :: Dj [] n v
 | _ :: l,0,v=>v :: l
 | x :: l,n+1,v=>x :: Dj l n v
structure St where
 tm:List AV
 hp:aa
def aA(P:Program)(t:TypeId):Option Nat:=(P.info? t).map (·.size)
def oM(P:Program)(t:TypeId):Option Nat:=(P.info? t).map (·.bytes)
def eX(P:Program)(t:TypeId):Option AV:=((P.info? t).bind (·.zero)).bind ofValue
def dL(P:Program)(t:TypeId):Option Bool:=(P.underlying t).map fun | .struct _ | .array _ _=>true | _=>false
def oL(P:Program)(t:TypeId)(f:Nat):Option (Nat × TypeId):=
 match P.underlying t with
 | some (.struct a)=>(a[f]?).map λx=>(x.offset,x.type)
 | _=>none
def dR(P:Program)(t:TypeId):Option TypeId:=
 match P.underlying t with
 | some (.slice e)=>some e
 | _=>none
def lQ(P:Program)(t:TypeId):Option (Nat × TypeId):=
 match P.underlying t with
 | some (.array n e)=>some (n,e)
 | _=>none
def bL(es:List AV)(i j n:Nat)(a:Bool):Option AV:=
 match es[i]? with
 | none=>none
 | some e=>
  if a then (if j+n<=e.cells.length/\0<n then some (.agg ((e.cells.drop j).take n)) else none) else e.cells[j]?
def patch(cs:List AV)(j:Nat)(new:List AV):List AV:=cs.take j++new++cs.drop (j+new.length)
def tz(e:AV)(j:Nat)(new:List AV):Option AV:=
 match e with
 | .agg cs=>if j+new.length<=cs.length then some (.agg (patch cs j new)) else none
 | _=>match j,new with
  | 0,[x]=>some x
  | _,_=>none
def fP(es:List AV)(i j:Nat)(new:List AV):Option (List AV):=
 match es[i]? with
 | none=>none
 | some e=>(tz e j new).map λa=>es.set i a
def view(g:cF):Nat->AV->Option AV
 | 0,_=>none
 | n+1,x=>
  match x with
  | .v x=>some (.v x)
  | .agg cs=>(cs.mapM (view g n)).map .agg
  | .tup cs=>(cs.mapM (view g n)).map .tup
  | .cC esz es cap=>some (.cC esz es cap)
  | .fsl .. => none
  | .iptr esz es i j=>some (.iptr esz es i j)
  | .bN r off len cap=>
   match g r with
   | some b=>if b.arr=true/\off+len<=b.es.length then some (.cC b.esz ((b.es.drop off).take len) cap) else none
   | none=>none
  | .nsl .. => none
  | .dsl r off len cap=>
   match g r with
   | some b=>if b.arr=false/\off+len<=b.es.length then (b.es.mapM (view g n)).map λes => .cC b.esz ((es.drop off).take len) cap else none
   | none=>none
  | .ptr r i j=>
   match g r with
   | some b=>if b.arr then some (.iptr b.esz b.es i j) else (b.es.mapM (view g n)).map λes => .iptr b.esz es i j
   | none=>none
  | .fn f a b=>match a.mapM (view g n),b.mapM (view g n) with
   | some a,some b=>some (.fn f a b)
   | _,_=>none
  | .ifc t x=>(view g n x).map (.ifc t)
  | .yld _ | .mp _ | .ch _ | .Bc _ | .lp .. => none
def ah(g:cF):Nat->AV->List Ref
 | 0,_=>[]
 | n+1,x=>
  match x with
  | .agg cs | .tup cs=>cs.flatMap (ah g n)
  | .bN r _ _ _=>[r]
  | .dsl r _ _ _=>r :: (match g r with | some b=>b.es.flatMap (ah g n) | none=>[])
  | .ptr r _ _=>r :: (match g r with | some b=>if b.arr then [] else b.es.flatMap (ah g n) | none=>[])
  | .fn _ a b=>a.flatMap (ah g n)++b.flatMap (ah g n)
  | .ifc _ x=>ah g n x
  | .mp r=>[r]
  | .ch r=>[r]
  | _=>[]
def flat:Nat->AV->Bool
 | 0,_=>false
 | n+1,x=>
  match x with
  | .v _=>true
  | .agg cs | .tup cs=>cs.all (flat n)
  | .ifc _ x=>flat n x
  | .fn _ a b=>a.all (flat n)&&b.all (flat n)
  | _=>false
def bV(H:aa):List Ref->aa
 | []=>H
 | r :: rs=>match H.get r with
  | some b=>bV (H.put r (some { b with gJ:=true})) rs
  | none=>bV H rs
def kO(g:cF)(rs:List Ref):Bool:=rs.all λr=>match g r with | some b=>b.gJ | none=>false
def depth:Nat:=8
def aC(tm:List AV):Operand->Option AV
 | .tmp t=>some (dA tm t)
 | .const v=>ofValue v
 | .func f=>some (.fn (.func f) [] [])
 | .global _=>none
def intOf:AV->Option Int
 | .v (.int _ n)=>some n
 | _=>none
def Fc:AV->Option Bool
 | .v (.bool b)=>some b
 | _=>none
def bg:Nat:=140737488355328
def cL(g:cF):AV->Option (Nat × List AV)
 | .v (.string s)=>some (1,s.data.toList.map λb => .v (.int .u8 b.toNat))
 | .cC esz es _=>some (esz,es)
 | .bN r off len _=>match g r with
  | some b=>if b.arr=true/\off+len<=b.es.length then some (b.esz,(b.es.drop off).take len) else none
  | none=>none
 | _=>none
def bounds(len:Nat)(cap:Option Nat)(a b c:Option Int):Option (Nat × Nat × Option Nat):=
 match c with
 | some m=>
  match b with
  | some h=>if 0<=a.getD 0/\a.getD 0<=h/\h<=m/\m<=cap.getD len/\h<=len then some ((a.getD 0).toNat,h.toNat,some (m.toNat - (a.getD 0).toNat)) else none
  | none=>none
 | none=>if 0<=a.getD 0/\a.getD 0<=b.getD len/\b.getD len<=len then some ((a.getD 0).toNat,(b.getD len).toNat,cap.map (· - (a.getD 0).toNat)) else none
def mP(tm:List AV):Option Operand->Option (Option Int)
 | none=>some none
 | some o=>match (aC tm o).bind intOf with
  | some n=>some (some n)
  | none=>none
def Bb(P:Program)(t:TypeId)(cs:List AV)(a:Nat):Option AV:=
 match dL P t,aA P t with
 | some true,some n=>if a+n<=cs.length then some (.agg ((cs.drop a).take n)) else none
 | some false,_=>cs[a]?
 | _,_=>none
def mg(a:Nat->Option (Nat × Nat))(cells:List AV):List (Nat × AV)->Option (List AV)
 | []=>some cells
 | (i,v) :: rest=>
  match a i with
  | none=>none
  | some (off,size)=>
   if v.cells.length=size/\off+size<=cells.length then mg a (patch cells off v.cells) rest else none
def ar(P:Program)(t:TypeId)(i:Nat):Option (Nat × Nat):=
 match oL P t i with
 | some (off,ft)=>(aA P ft).map λn=>(off,n)
 | none=>none
def placesOf(P:Program)(t:TypeId):Option (List (Nat × Nat)):=
 match P.underlying t with
 | some (.struct a)=>a.toList.mapM λf=>(P.info? f.type).map λi=>(f.offset,i.size)
 | _=>none
def jt(es:List AV):List (Nat × AV)->Option (List AV)
 | []=>some es
 | (i,v) :: rest=>if i<es.length then jt (es.set i v) rest else none
def gK(tm:List AV)(ps:List (Nat × Operand)):Option (List (Nat × AV)):=
 ps.mapM λ(i,o)=>(aC tm o).map λx=>(i,x)
def Dy(P:Program)(a:BinOp)(t:TypeId)(b c:Operand)(x y:Value):Option Value:=
 aY P (do eqGuard a t b c x y;binOp a t x y)
def og:AV->Option Nat
 | .v (.slice none 0 0)=>some 0
 | .cC _ es _=>some es.length
 | .bN _ _ n _=>some n
 | .dsl _ _ n _=>some n
 | _=>none
def Lp(f:Value->Value->Sem Value)(P:Program)(args:List AV):Option AV:=
 match args.mapM JO with
 | some (x :: rest)=>(aY P (rest.foldlM f x)).bind kD
 | _=>none
def byteOf:AV->Option UInt8
 | .v (.int .u8 n)=>some (UInt8.ofNat n.toNat)
 | _=>none
abbrev jk:=Option (AV × List aQ)
def kC(x:Option AV):jk:=x.map (·,[])
def HU(d:Operand->Option AV)(c a b:Operand):jk:=
 match (d c).bind Fc with
 | some true=>kC (d a)
 | some false=>kC (d b)
 | none=>none
def xJ(P:Program)(r:Ref)(e:TypeId):jk:=
 match eX P e,aA P e with
 | some z,some n=>if z.cells.length=n/\z.cells.all AV.one/\0<n then some (.ptr r 0 0,[⟨n,[z],false,false⟩]) else none
 | _,_=>none
def F9(P:Program)(r:Ref)(e:TypeId)(x:Option AV):jk:=
 match x,aA P e with
 | some x,some n=>if x.cells.length=n/\x.cells.all AV.one/\0<n then some (.ptr r 0 0,[⟨n,[x],false,false⟩]) else none
 | _,_=>none
def nz(P:Program)(t:TypeId)(a:Option (List (Nat × AV))):jk:=
 match eX P t,a with
 | some (.agg z),some a=>
  match lQ P t with
  | some (_,e)=>match aA P e with
   | some n=>(mg (λi=>some (i * n,n)) z a).map λcs=>(.agg cs,[])
   | none=>none
  | none=>match placesOf P t with
   | some ps=>(mg (ps[·]?) z a).map λcs=>(.agg cs,[])
   | none=>none
 | _,_=>none
def fS(g:cF)(a:List (Nat × AV)):Option (List (Nat × AV)):=a.mapM λ(i,x)=>(view g depth x).map (i,·)
def bX(g:cF)(xs:List AV):List Ref:=xs.flatMap (ah g depth)
def mkSlice(P:Program)(g:cF)(t:TypeId)(n:Nat)(a:List (Nat × AV)):Option aQ:=
 match dR P t with
 | none=>none
 | some e=>match fS g a,eX P e,aA P e with
  | some ws,some z,some s=>
   if 0<s/\n * s<=16777216/\z.cells.length=s/\z.cells.all AV.one/\ws.all (λp=>p.2.cells.length=s&&p.2.cells.all AV.one) then
    (jt (List.replicate n z) ws).map λes=>⟨s,es,true,false⟩
   else none
  | _,_,_=>none
def iQ(P:Program)(a:Bool)(g:cF)(r:Ref)(t:TypeId)(n:Nat)(c:Option (List (Nat × AV))):jk:=
 match c with
 | none=>none
 | some c=>if kO g (bX g (c.map (·.2))) then (mkSlice P g t n c).map λb=>(if a then (.cC b.esz b.es (some n),[]) else (.bN r 0 n (some n),[b])) else none
def uh(P:Program)(g:cF)(t:TypeId)(a:Option AV):jk:=
 match a,dL P t,aA P t with
 | some (.ptr r' i j),some c,some n=>match g r' with
  | some b=>kC (bL b.es i j n c)
  | none=>none
 | some (.iptr _ es i j),some c,some n=>kC (bL es i j n c)
 | _,_,_=>none
def MX(x:Option AV):jk:=
 match x with
 | some (.ptr r' i j)=>some (.ptr r' i j,[])
 | some (.iptr n es i j)=>some (.iptr n es i j,[])
 | some (.fn (.func f) a b)=>some (.fn (.func f) a b,[])
 | _=>none
def Lx:AV->Bool
 | .cC .. | .bN .. | .dsl .. => true
 | _=>false
def oR:AV->Bool
 | .v (.slice none 0 0)=>true
 | _=>false
def bP(P:Program)(a:BinOp)(t:TypeId)(c b:Operand)(x y:Option AV):jk:=
 match x,y with
 | some x,some y=>
  if Lx x&&oR y||Lx y&&oR x then
   match P.underlying t,a with
   | some (.slice _),.eql=>some (.v (.bool false),[])
   | some (.slice _),.neq=>some (.v (.bool true),[])
   | _,_=>none
  else
   match im x,im y with
   | some x,some y=>kC ((Dy P a t c b x y).bind kD)
   | _,_=>none
 | _,_=>none
def Z9(P:Program)(a:UnOp)(x:Option AV):jk:=
 kC (((x.bind JO).bind λx=>aY P (Op.unary a x)).bind kD)
def ei(P:Program)(t:TypeId):Bool:=
 match P.underlying t with
 | some (.slice e)=>(match P.underlying e with | some (.int .u8)=>true | _=>false)
 | _=>false
def isStr(P:Program)(t:TypeId):Bool:=match P.underlying t with | some .string=>true | _=>false
def eE(P:Program)(g:cF)(r:Ref)(a c:TypeId)(x:Option AV):jk:=
 match x with
 | some (.v (.slice none 0 0))=>if ei P a&&isStr P c then some (.v (.string .empty),[]) else none
 | some (.v (.string s))=>
  if isStr P a&&isStr P c then some (.v (.string s),[])
  else if isStr P a&&ei P c then
   (if s.size<=bg then some (.bN r 0 s.size none,[⟨1,s.data.toList.map λb => .v (.int .u8 b.toNat),true,false⟩]) else none)
  else none
 | some (.v x)=>kC ((aY P (Go.convert a c x)).bind kD)
 | some x=>if ei P a&&isStr P c then
  match cL g x with
  | some (_,es)=>(es.mapM byteOf).map λl=>(.v (.string ⟨l.toArray⟩),[])
  | none=>none
  else if a == c&&ei P a then
   match x with
   | .bN r' _ _ _=>(match g r' with
    | some b=>if b.esz=1 then some (x,[]) else none
    | none=>none)
   | _=>none
  else none
 | none=>none
def tG(P:Program)(t:TypeId)(x:Option AV):jk:=
 match P.underlying t with
 | some (.interface _)=>none
 | some _=>x.map λx=>(.ifc t x,[])
 | none=>none
def wU(f:Fn)(first captured:Option (List AV)):jk:=
 match first,captured with
 | some a,some b=>some (.fn f a b,[])
 | _,_=>none
def FE(P:Program)(r:Ref)(t:TypeId)(l c:Option AV):jk:=
 match dR P t,l.bind intOf,c.bind intOf with
 | some e,some l,some c=>match eX P e,aA P e,oM P e with
  | some z,some s,some b=>
   if 0<=l/\l<=c/\c * b<=bg/\c<=9223372036854775807/\0<s/\z.cells.length=s/\z.cells.all AV.one then some (.bN r 0 l.toNat none,[⟨s,List.replicate l.toNat z,true,false⟩]) else none
  | _,_,_=>none
 | _,_,_=>none
def iT(P:Program)(g:cF)(t:TypeId)(x:Option AV)(a e d:Option (Option Int)):jk:=
 match a,e,d with
 | some a,some e,some d=>
  match x with
  | some (.v (.slice none 0 0))=>if ((dR P t).bind (aA P)).isSome then (bounds 0 (some 0) a e d).map λ_=>(.v (.slice none 0 0),[]) else none
  | some (.v (.string s))=>if isStr P t&&d.isNone then (bounds s.size none a e none).map λ(l,h,_)=>(.v (.string (s.extract l h)),[]) else none
  | some (.cC esz es cap)=>if (dR P t).bind (aA P)=some esz then (bounds es.length cap a e d).map λ(l,h,c)=>(.cC esz ((es.drop l).take (h - l)) c,[]) else none
  | some (.bN r' off len cap)=>(match g r' with
   | some b=>if (dR P t).bind (aA P)=some b.esz then (bounds len cap a e d).map λ(l,h,c)=>(.bN r' (off+l) (h - l) c,[]) else none
   | none=>none)
  | some (.dsl r' off len cap)=>(match g r' with
   | some b=>if (dR P t).bind (aA P)=some b.esz then (bounds len cap a e d).map λ(l,h,c)=>(.dsl r' (off+l) (h - l) c,[]) else none
   | none=>none)
  | _=>none
 | _,_,_=>none
def wS(P:Program)(g:cF)(t:TypeId)(x:Option AV)(a c d:Option (Option Int)):jk:=
 match a,c,d,x with
 | some a,some c,some none,some (.bN r' off len cap)=>(match g r' with
  | some b=>if (dR P t).bind (aA P)=some b.esz/\0<=a.getD 0/\a.getD 0<=c.getD len/\c.getD len<=cap.getD len then
   some (.bN r' (off+(a.getD 0).toNat) ((c.getD len).toNat - (a.getD 0).toNat) (cap.map (· - (a.getD 0).toNat)),[]) else none
  | none=>none)
 | _,_,_,_=>none
def MW(P:Program)(g:cF)(t:TypeId)(args:List AV):jk:=
 match args,dR P t with
 | [.bN r _ _ _,.bN r' _ _ _],some e=>(match g r,g r',aA P e with
  | some b,some b',some z=>if r≠r'/\1<b.esz/\b.esz=z/\b'.esz=z then some (.v (.bool false),[]) else none
  | _,_,_=>none)
 | _,_=>none
def FG(uI:FuncId->Option TypeId)(a:Bool)(f:Operand):Option TypeId:=match a,f with
 | false,.func fi=>uI fi
 | _,_=>none
@[simp] def zI(uI:FuncId->Option TypeId)(f:Operand):FG uI true f=none:=by cases f<;>rfl
def kr(P:Program)(t:TypeId)(x:Option AV)(f:Nat):jk:=
 match ar P t f with
 | some (off,s)=>if 0<s then
  match x with
  | some (.ptr r' i j)=>some (.ptr r' i (j+off),[])
  | some (.iptr n es i j)=>some (.iptr n es i (j+off),[])
  | _=>none
  else none
 | none=>none
def vL(P:Program)(t:TypeId)(x:Option AV)(f:Nat):jk:=
 match oL P t f,x with
 | some (off,ft),some (.agg cs)=>kC (Bb P ft cs off)
 | _,_=>none
def da(P:Program)(g:cF)(t:TypeId)(x a:Option AV):jk:=
 match a.bind intOf with
 | some k=>
  match dR P t with
  | some e=>match x,aA P e with
   | some (.cC esz es _),some s=>if 0<=k/\k<es.length/\s=esz then some (.iptr esz es k.toNat 0,[]) else none
   | some (.bN r' off len _),some s=>(match g r' with
    | some b=>if 0<=k/\k<len/\s=b.esz then some (.ptr r' (off+k.toNat) 0,[]) else none
    | none=>none)
   | some (.dsl r' off len _),some s=>(match g r' with
    | some b=>if 0<=k/\k<len/\s=b.esz then some (.ptr r' (off+k.toNat) 0,[]) else none
    | none=>none)
   | _,_=>none
  | none=>match lQ P t with
   | some (n,e)=>match x,aA P e with
    | some (.ptr r' i j),some s=>if 0<=k/\k<n then some (.ptr r' i (j+k.toNat * s),[]) else none
    | some (.iptr esz es i j),some s=>if 0<=k/\k<n then some (.iptr esz es i (j+k.toNat * s),[]) else none
    | _,_=>none
   | none=>none
 | none=>none
def r8(P:Program)(t:TypeId)(x a:Option AV):jk:=
 match a.bind intOf,x with
 | some k,some (.agg cs)=>(match lQ P t with
  | some (n,e)=>(match aA P e with
   | some s=>if 0<=k/\k<n then kC (Bb P e cs (k.toNat * s)) else none
   | none=>none)
  | none=>none)
 | some k,some (.v (.string s))=>if isStr P t/\0<=k then kC ((s[k.toNat]?).map λb => .v (.int .u8 b.toNat)) else none
 | _,_=>none
def tV(P:Program)(x:Option AV)(a:TypeId)(ok:Bool):jk:=
 match P.underlying a,x with
 | some (.interface _),_=>none
 | some _,some (.ifc t y)=>
  if t=a then some ((if ok then .tup [y,.v (.bool true)] else y),[])
  else if ok then (eX P a).map λz=>(.tup [z,.v (.bool false)],[]) else none
 | some _,some (.v .nilIface)=>if ok then (eX P a).map λz=>(.tup [z,.v (.bool false)],[]) else none
 | _,_=>none
def ui(x:Option AV)(i:Nat):jk:=
 match x with
 | some (.tup a)=>kC (a[i]?)
 | _=>none
def ba(ents:List AV):aQ:=⟨0,.v (.bool true) :: ents,false,false⟩
def kE(g:cF)(r:Ref):Option (List AV):=match g r with
 | some ⟨0,.v (.bool true) :: ents,false,_⟩=>some ents
 | _=>none
def IQ(cap:Nat)(b:Bool)(a:List AV):aQ:=⟨0,.v (.bool false) :: .v (.int .i64 cap) :: .v (.bool b) :: a,false,false⟩
def W7(g:cF)(r:Ref):Option (Nat × Bool × List AV):=match g r with
 | some ⟨0,.v (.bool false) :: .v (.int .i64 cap) :: .v (.bool a) :: buf,false,_⟩=>some (cap.toNat,a,buf)
 | _=>none
def Mn(P:Program)(t:TypeId):Option TypeId:=match P.underlying t with
 | some (.chan _ e)=>some e
 | _=>none
def Jp(P:Program)(t:TypeId):Option (TypeId × TypeId):=match P.underlying t with
 | some (.map k e)=>some (k,e)
 | _=>none
def Bp:AV->Option Value
 | .tup [k,_]=>im k
 | _=>none
def IJ:AV->Option AV
 | .tup [_,v]=>some v
 | _=>none
def zL(P:Program)(a:Bool)(b:TypeId)(k:Value)(c:List Value):Option (Option Nat):=
 match aY P (Instr.checkKey a 10000 b k) with
 | some _=>(aY P (Instr.findKey b k (c.map λx=>⟨x,Go.undef,0⟩))).map λo=>o.map (·.1)
 | none=>none
def fe(P:Program)(g:cF)(t:TypeId)(x k:Option AV)(ok:Bool):jk:=
 match Jp P t,x,k.bind im with
 | some (c,et),some (.mp r),some b=>(match kE g r with
  | some ents=>(match ents.mapM Bp with
   | some a=>(match zL P a.isEmpty c b a with
    | some (some i)=>(ents[i]?.bind IJ).map λv=>((if ok then .tup [v,.v (.bool true)] else v),[])
    | some none=>(eX P et).map λz=>((if ok then .tup [z,.v (.bool false)] else z),[])
    | none=>none)
   | none=>none)
  | none=>none)
 | _,_,_=>none
def wT(P:Program)(g:cF)(t:Option TypeId)(r:Ref):jk:=
 match t.bind (Jp P),kE g r with
 | some _,some ents=>some (.v (.int .i64 ents.length),[])
 | _,_=>none
def QM:Value->Value->Bool
 | .bool a,.bool b=>a == b
 | .int k n,.int k' c=>decide (k=k')&&decide (n=c)
 | .string s,.string t=>decide (s=t)
 | .slice none a b,.slice none d b'=>Nat.beq a d&&Nat.beq b b'
 | .nilFunc,.nilFunc=>true
 | .nilIface,.nilIface=>true
 | _,_=>false
def Xi:Nat->AV->AV->Bool
 | 0,_,_=>false
 | n+1,x,y=>
  match x,y with
  | .v u,.v v=>QM u v
  | .agg cs,.agg ds=>Nat.beq cs.length ds.length&&(cs.zip ds).all λp=>Xi n p.1 p.2
  | .cC z es c,.cC b es' a=>Nat.beq z b&&decide (c=a)&&Nat.beq es.length es'.length&&(es.zip es').all λp=>Xi n p.1 p.2
  | _,_=>false
def HM(r r':Ref):Bool:=Nat.beq r.t r'.t&&Nat.beq r.g r'.g&&Nat.beq r.d r'.d&&Nat.beq r.k r'.k
def Cm:Nat->AV->AV->Bool
 | 0,_,_=>false
 | n+1,x,y=>
  match x,y with
  | .v u,.v v=>QM u v
  | .agg cs,.agg ds=>Nat.beq cs.length ds.length&&(cs.zip ds).all λp=>Cm n p.1 p.2
  | .tup cs,.tup ds=>Nat.beq cs.length ds.length&&(cs.zip ds).all λp=>Cm n p.1 p.2
  | .cC z es c,.cC k es' e=>Nat.beq z k&&decide (c=e)&&Nat.beq es.length es'.length&&(es.zip es').all λp=>Cm n p.1 p.2
  | .bN r a b c,.bN r' d b' e=>HM r r'&&Nat.beq a d&&Nat.beq b b'&&decide (c=e)
  | .dsl r a b c,.dsl r' d b' e=>HM r r'&&Nat.beq a d&&Nat.beq b b'&&decide (c=e)
  | .ptr r i j,.ptr r' m l=>HM r r'&&Nat.beq i m&&Nat.beq j l
  | .mp r,.mp r'=>HM r r'
  | .ch r,.ch r'=>HM r r'
  | .fn (.func f) a b,.fn (.func h) d b'=>Nat.beq f h&&(Nat.beq a.length d.length&&(a.zip d).all λp=>Cm n p.1 p.2)&&(Nat.beq b.length b'.length&&(b.zip b').all λp=>Cm n p.1 p.2)
  | .ifc t x,.ifc t' g=>Nat.beq t t'&&Cm n x g
  | _,_=>false
def LM(k k':aQ):Bool:=Nat.beq k.esz k'.esz&&k.arr == k'.arr&&k.gJ == k'.gJ&&Nat.beq k.es.length k'.es.length&&(k.es.zip k'.es).all λp=>Cm 8 p.1 p.2
def Ix(H H':aa):Bool:=H.all λp=>match H.get p.1 with
 | none=>true
 | some k=>match H'.get p.1 with
  | none=>false
  | some k'=>LM k k'
def agc(xs ys:List AV):Bool:=Nat.beq xs.length ys.length&&(xs.zip ys).all λp=>Xi 8 p.1 p.2
def Wd:List (FuncId × List AV × AV)->FuncId->List AV->Option AV
 | [],_,_=>none
 | (g,xs,y) :: T,f,args=>if Nat.beq g f&&agc xs args then some y else Wd T f args
def aj(r:Ref):Nat->AV->List aQ->AV × List aQ
 | 0,x,a=>(x,a)
 | n+1,x,a=>
  match x with
  | .fsl esz es cap=>if esz=0 then (.mp { r with k:=a.length},a++[⟨0,es,false,false⟩]) else (.bN { r with k:=a.length} 0 es.length cap,a++[⟨esz,es,true,false⟩])
  | .nsl esz es cap=>let (ys,a):=es.foldl (λ(p:List AV × List aQ) c=>let (y,a):=aj r n c p.2;(p.1++[y],a)) ([],a);(.dsl { r with k:=a.length} 0 es.length cap,a++[⟨esz,ys,false,false⟩])
  | .agg cs=>let (ys,a):=cs.foldl (λ(p:List AV × List aQ) c=>let (y,a):=aj r n c p.2;(p.1++[y],a)) ([],a);(.agg ys,a)
  | .tup cs=>let (ys,a):=cs.foldl (λ(p:List AV × List aQ) c=>let (y,a):=aj r n c p.2;(p.1++[y],a)) ([],a);(.tup ys,a)
  | .ifc t x=>let (y,a):=aj r n x a;(.ifc t y,a)
  | x=>(x,a)
inductive uE where
 | fn (f:FuncId)
 | yld (r:Ref)
def Bi(m:Nat):Bool:=m == 1||m == 3
def Dz:Nat->AV->Bool
 | 0,_=>false
 | n+1,x=>
  match x with
  | .v _=>true
  | .agg cs | .tup cs=>cs.all (Dz n)
  | .fsl z es _=>z != 0&&es.all (flat depth)
  | .cC _ es _=>es.isEmpty
  | .ifc _ x=>Dz n x
  | _=>false
structure OB where
 f:aa->aa->Bool
 ok : ∀H H',f H H'=true ->∀q k,H.get q=some k->H'.get q=some k
def V7:OB:=⟨λ_ _=>false,λ_ _ h=>by cases h⟩
structure Env where
 P:Program
 strict:Oper->Bool
 apart:Array Oper->List (Tmp × Tmp)
 mode:FuncId->Nat
 allowed:FuncId->Bool
 spec:FuncId->List AV->Option AV
 ok:Array Oper->Bool:=λ_=>true
 gJ:Oper->Bool:=λ_=>false
 wide:Oper->Bool:=λ_=>false
 uI:FuncId->Option TypeId:=λ_=>none
 thrSpec:FuncId->List AV->aa->Option (AV × aa):=λ_ _ _=>none
 sm:OB:=V7
 deep:Oper->Bool:=λ_=>false
def kW(E:Env)(pc:FuncId->List AV->Option AV)(g:cF)(r:Ref)(f:Option AV)(args:List AV):jk:=
 match f with
 | some (.fn (.func fi) first captured)=>
  if E.mode fi=2 then none else
  match (first++args++captured).mapM (view g depth) with
  | some xs=>match pc fi xs with
   | some y=>if flat depth y||kO g (bX g (first++args++captured))||(E.mode fi == 3&&Dz depth y) then some (aj r depth y []) else none
   | none=>none
  | none=>none
 | _=>none
def Jr(P:Program)(t:Option TypeId)(x:AV):jk:=
 match t with
 | none=>none
 | some t=>match lQ P t with
  | some (n,_)=>some (.v (.int .i64 n),[])
  | none=>if isStr P t then (match x with | .v (.string s)=>some (.v (.int .i64 s.size),[]) | _=>none)
   else if (dR P t).isSome then (og x).map λn=>(.v (.int .i64 n),[]) else none
def oe(P:Program)(g:cF)(e:TypeId)(x:AV):Option (Nat × List AV):=
 match x with
 | .v (.slice none 0 0)=>(aA P e).map λz=>(z,[])
 | .v (.int _ n)=>match eX P e,aA P e with
  | some w,some z=>if 0<=n/\n<=bg/\w.cells.length=z/\w.cells.all AV.one then some (z,List.replicate n.toNat w) else none
  | _,_=>none
 | x=>cL g x
def isNum:AV->Bool
 | .v (.int _ _)=>true
 | _=>false
def isInt(P:Program)(t:TypeId):Bool:=match P.underlying t with | some (.int _)=>true | _=>false
def fu(P:Program)(g:cF)(r:Ref)(t t':Option TypeId)(s x:AV):jk:=
 match t.bind (dR P) with
 | none=>none
 | some e=>
  if (t'.bind P.underlying).isNone\/(t'.map (isInt P)).getD false≠isNum x then none else
  match aA P e,oM P e,eX P e,oe P g e x with
  | some z,some by',some a,some (c,new)=>
   if c≠z\/z=0\/by'=0\/a.cells.length≠z then none else
   match s with
   | .v (.slice none 0 0)=>if new=[] then some (s,[]) else if new.length * by'<=bg then some (.bN r 0 new.length none,[⟨z,new,true,false⟩]) else none
   | .cC n es cap=>if n≠z then none else if new=[] then some (s,[]) else
    match cap with
    | some k=>if k<es.length+new.length/\(es.length+new.length) * by'<=bg then some (.bN r 0 (es.length+new.length) none,[⟨z,es++new,true,false⟩]) else none
    | none=>none
   | .bN r' off len cap=>(match g r' with
    | some b=>if b.esz≠z\/b.arr=false then none else if new=[] then some (s,[]) else
     (match cap with
     | some k=>if off+len<=b.es.length/\k<len+new.length/\(len+new.length) * by'<=bg then
      some (.bN r 0 (len+new.length) none,[⟨z,(b.es.drop off).take len++new,true,false⟩]) else none
     | none=>none)
    | none=>none)
   | _=>none
  | _,_,_,_=>none
def abz(P:Program)(t:Option TypeId)(x:AV):jk:=
 match t.bind (dR P),x with
 | some _,.v (.slice none 0 0)=>some (.v (.int .i64 0),[])
 | some _,.cC _ _ (some k)=>some (.v (.int .i64 k),[])
 | some _,.bN _ _ _ (some k)=>some (.v (.int .i64 k),[])
 | _,_=>none
def cP(P:Program)(c:Bool)(g:cF)(r:Ref)(b:Builtin)(a:Array TypeId)(args:List AV):jk:=
 match b,args with
 | .len,[.mp r']=>if c then none else wT P g a[0]? r'
 | .len,[x]=>Jr P a[0]? x
 | .min,args=>kC (Lp Builtin.min2 P args)
 | .max,args=>kC (Lp Builtin.max2 P args)
 | .append,[s,x]=>fu P g r a[0]? a[1]? s x
 | .cap,[x]=>abz P a[0]? x
 | _,_=>none
def Bn(b:Bool)(a:List aQ):List aQ:=if b then a.map (λk => { k with gJ:=true}) else a
def cr(E:Env)(pc:FuncId->List AV->Option AV)(d:Bool)(g:cF)(tm:List AV)(r:Ref)(o:Oper):jk:=
 match o.op with
 | .move x | .assign x=>kC (aC tm x)
 | .pick c a b=>HU (aC tm) c a b
 | .alloc e=>xJ E.P r e
 | .box e x=>F9 E.P r e (aC tm x)
 | .build t ps=>nz E.P t (gK tm ps.toList)
 | .buildSlice t n ps=>iQ E.P (d && !E.strict o) g r t n (gK tm ps.toList)
 | .load t a=>uh E.P g t (aC tm a)
 | .nilCheck x=>MX (aC tm x)
 | .binOp op t q j _=>bP E.P op t q j (aC tm q) (aC tm j)
 | .unOp op _ x=>Z9 E.P op (aC tm x)
 | .convert src dst x=>eE E.P g r src dst (aC tm x)
 | .makeInterface t x=>tG E.P t (aC tm x)
 | .makeFunc f first captured=>wU f (first.toList.mapM (aC tm)) (captured.toList.mapM (aC tm))
 | .makeSlice t l c=>FE E.P r t (aC tm l) (aC tm c)
 | .makeMap _ none=>some (.mp r,[ba []])
 | .lookup t x k ok=>fe E.P g t (aC tm x) (aC tm k) ok
 | .slice t x m v u=>cond (E.wide o && !d) (wS E.P g t (aC tm x) (mP tm m) (mP tm v) (mP tm u)) (iT E.P g t (aC tm x) (mP tm m) (mP tm v) (mP tm u))
 | .fieldAddr t x f=>kr E.P t (aC tm x) f
 | .field t x f=>vL E.P t (aC tm x) f
 | .indexAddr t x h=>da E.P g t (aC tm x) (aC tm h)
 | .index t x h=>r8 E.P t (aC tm x) (aC tm h)
 | .typeAssert x _ want ok=>tV E.P (aC tm x) want ok
 | .extract x i=>ui (aC tm x) i
 | .call c=>
  match c.args.toList.mapM (aC tm) with
  | none=>none
  | some args=>
   match c.callee with
   | .value f=>(match FG E.uI d f with
    | some t=>MW E.P g t args
    | none=>(kW E pc g r (aC tm f) args).map λp=>(p.1,Bn (E.gJ o) p.2))
   | .invoke _ _=>none
   | .builtin b=>cP E.P (d&&(E.strict o || !(match c.args.toList with | [.tmp _]=>true | _=>false))) g r b c.argTypes args
 | _=>none
def keyed(r:Ref):Nat->List aQ->aa->aa
 | _,[],g=>g
 | k,b :: a,g=>keyed r (k+1) a (({ r with k:=k},some b) :: g)
abbrev cp:=Option (AV × aa)
def nx(P:Program)(H:aa)(t:TypeId)(a x:Option AV):cp:=
 match a,x,aA P t with
 | some (.ptr r' i j),some x,some n=>
  match H.get r' with
  | some b=>
   if x.cells.length=n/\x.cells.all AV.one/\b.gJ=false then
    (if b.arr=true then
     match view H.get depth x with
     | some y=>if r'∈ah H.get depth x then none else if y.cells.all AV.one=true then (fP b.es i j y.cells).map λes=>(AV.undef,(bV H (ah H.get depth x)).put r' (some { b with es})) else none
     | none=>none
    else (fP b.es i j x.cells).map λes=>(AV.undef,H.put r' (some { b with es})))
   else none
  | none=>none
 | _,_,_=>none
def kU(P:Program)(H:aa)(r:Ref)(t:TypeId)(n:Nat)(a:Option (List (Nat × AV))):cp:=
 match a with
 | none=>none
 | some a=>(mkSlice P H.get t n a).map λb=>(.bN r 0 n (some n),(r,some b) :: bV H (bX H.get (a.map (·.2))))
def nH(E:Env)(pc:FuncId->List AV->Option AV)(tc:uE->List AV->aa->cp)(H:aa)(r:Ref)(f:Option AV)(args:List AV):cp:=
 match f with
 | some (.fn (.func g) first captured)=>
  if E.mode g=2 then tc (.fn g) (first++args++captured) H else
  match (first++args++captured).mapM (view H.get depth) with
  | some xs=>(pc g xs).map λy=>((aj r depth y []).1,keyed r 0 (aj r depth y []).2 (bV H (bX H.get (first++args++captured))))
  | none=>none
 | some (.yld q)=>tc (.yld q) args H
 | _=>none
def qQ(b:Bool)(sm:OB)(H:aa)(x:cp):cp:=match b,x with
 | true,some (y,H')=>if flat depth y&&(Ix H H'||sm.f H H') then some (y,H) else none
 | _,x=>x
def lx(P:Program)(H:aa)(t t':Option TypeId)(s x:AV):cp:=
 match t.bind (dR P) with
 | none=>none
 | some e=>
  if (t'.bind P.underlying).isNone\/(t'.map (isInt P)).getD false≠isNum x then none else
  match aA P e,oM P e,eX P e,oe P H.get e x with
  | some z,some by',some a,some (c,new)=>
   if c≠z\/z=0\/by'=0\/new=[]\/a.cells.length≠z then none else
   match s with
   | .bN r' off len none=>(match H.get r' with
    | some b=>if off=0/\b.arr=true/\b.esz=z/\len=b.es.length/\(len+new.length) * by'<=bg then
     some (.bN ⟨r'.d,r'.t,H.gen r'.d r'.t,0⟩ 0 (len+new.length) none,(⟨r'.d,r'.t,H.gen r'.d r'.t,0⟩,some ⟨z,b.es++new,true,b.gJ⟩) :: H.put r' none) else none
    | none=>none)
   | _=>none
  | _,_,_,_=>none
def L4(P:Program)(H:aa)(t:Option TypeId)(a x:AV):cp:=
 match t.bind (dR P) with
 | none=>none
 | some e=>match aA P e with
  | none=>none
  | some z=>match (if oR x then some (z,[]) else cL H.get x) with
   | none=>none
   | some (c,src)=>if c≠z\/z=0 then none else
    match a with
    | .v (.slice none 0 0)=>some (.v (.int .i64 0),H)
    | .bN r' off len _=>(match H.get r' with
     | some b=>
      if b.arr=true/\b.esz=z/\b.gJ=false/\off+len<=b.es.length then
       some (.v (.int .i64 (Nat.min src.length len:Nat)),H.put r' (some { b with es:=b.es.take off++src.take (Nat.min src.length len)++b.es.drop (off+Nat.min src.length len)})) else none
     | none=>none)
    | _=>none
def G6(P:Program)(H:aa)(t:Option TypeId)(c x:AV):cp:=
 match (t.bind (dR P)).bind (aA P),c,x with
 | some z,.bN r off len _,.bN r2 a zO _=>(match H.get r,H.get r2 with
  | some b,some b2=>
   if b.arr=true/\b2.arr=true/\b.esz=z/\b2.esz=z/\0<z/\b.gJ=false/\off<=b.es.length/\a+Nat.min zO len<=b2.es.length then
    some (.v (.int .i64 (Nat.min zO len:Nat)),H.put r (some { b with es:=b.es.take off++(b2.es.drop a).take (Nat.min zO len)++b.es.drop (off+Nat.min zO len)})) else none
  | _,_=>none)
 | _,_,_=>none
def dQ(P:Program)(H:aa)(t:TypeId)(m k x:Option AV):cp:=
 match Jp P t,m,k,x with
 | some (d,_),some (.mp r),some k,some x=>(match im k,kE H.get r with
  | some a,some ents=>(match ents.mapM Bp with
   | some b=>(match zL P false d a b with
    | some (some i)=>if ((b[i]?).map λc=>Instr.sameBits 10000 c a)=some true then some (AV.undef,H.put r (some (ba (ents.set i (.tup [k,x]))))) else none
    | some none=>some (AV.undef,H.put r (some (ba (ents++[.tup [k,x]]))))
    | none=>none)
   | none=>none)
  | _,_=>none)
 | _,_,_,_=>none
def jl(P:Program)(H:aa)(t:TypeId)(m k:Option AV):cp:=
 match Jp P t,m,k with
 | some (d,et),some (.mp r),some k=>(match im k,kE H.get r with
  | some a,some ents=>(match ents.mapM Bp with
   | some b=>(match zL P false d a b with
    | some (some i)=>if ((b[i]?).map λc=>Instr.sameBits 10000 c a)=some true then (ents[i]?.bind IJ).map λv=>(.tup [v,.v (.int .i64 i)],H.put r (some (ba (ents.set i (.tup [k,v]))))) else none
    | some none=>(eX P et).map λz=>(.tup [z,.v (.int .i64 ents.length)],H.put r (some (ba (ents++[.tup [k,z]]))))
    | none=>none)
   | none=>none)
  | _,_=>none)
 | _,_,_=>none
def fQ(H:aa)(m s x:Option AV):cp:=
 match m,s,x with
 | some (.mp r),some (.v (.int _ n)),some x=>(match kE H.get r with
  | some ents=>if 0<=n then (match ents[n.toNat]? with
   | some (.tup [k,_])=>some (AV.undef,H.put r (some (ba (ents.set n.toNat (.tup [k,x])))))
   | _=>none) else none
  | none=>none)
 | _,_,_=>none
def Bz(P:Program)(H:aa)(r:Ref)(t:TypeId)(n:Option AV):cp:=
 match n,(Mn P t).bind (oM P) with
 | some (.v (.int _ n)),some b=>if 0<=n/\n<=1000000/\b<=1000000 then some (.ch r,keyed r 0 [IQ n.toNat false []] H) else none
 | _,_=>none
def G3(H:aa)(c x:Option AV):cp:=
 match c,x with
 | some (.ch r),some x=>(match W7 H.get r with
  | some (cap,false,buf)=>if buf.length<cap/\flat depth x=true then some (AV.undef,H.put r (some (IQ cap false (buf++[x])))) else none
  | _=>none)
 | _,_=>none
def acm(ok:Bool)(x:AV)(b:Bool):AV:=if ok then .tup [x,.v (.bool b)] else x
def JM(P:Program)(H:aa)(t:TypeId)(c:Option AV)(ok:Bool):cp:=
 match c,(Mn P t).bind (eX P) with
 | some (.ch r),some z=>(match W7 H.get r with
  | some (cap,a,x :: buf)=>some (acm ok x true,H.put r (some (IQ cap a buf)))
  | some (_,true,[])=>some (acm ok z false,H)
  | _=>none)
 | _,_=>none
def qu(P:Program)(H:aa)(r:Ref)(t:TypeId)(n:Nat)(a:Option (List (Nat × AV))):cp:=
 match a,dR P t with
 | some [(0,.agg cs)],some e=>(match eX P e,aA P e with
  | some z,some s=>if n=1/\0<s/\s<=16777216/\z.cells.length=s/\z.cells.all AV.one=true/\cs.length=s/\cs.all AV.one=true then some (.dsl r 0 1 (some 1),(r,some ⟨s,[.agg cs],false,false⟩) :: H) else none
  | _,_=>none)
 | _,_=>none
def yf(P:Program)(H:aa)(r:Ref)(t t':Option TypeId)(s x:AV):cp:=
 match t.bind (dR P),x with
 | some e,.dsl rx 0 m _=>
  if (t'.bind P.underlying).isNone\/(t'.map (isInt P)).getD false≠false then none else
  (match aA P e,oM P e,eX P e,H.get rx with
  | some z,some by',some c,some a=>
   if a.arr=true\/a.esz≠z\/z=0\/by'=0\/a.es=[]\/c.cells.length≠z\/m≠a.es.length then none else
   (match s with
   | .v (.slice none 0 0)=>if m * by'<=bg then some (.dsl r 0 m none,(r,some ⟨z,a.es,false,false⟩) :: H) else none
   | .dsl r' 0 len none=>(match H.get r' with
    | some b=>if b.arr=false/\b.esz=z/\len=b.es.length/\r'≠rx/\(len+m) * by'<=bg then
     some (.dsl ⟨r'.d,r'.t,H.gen r'.d r'.t,0⟩ 0 (len+m) none,(⟨r'.d,r'.t,H.gen r'.d r'.t,0⟩,some ⟨z,b.es++a.es,false,b.gJ⟩) :: H.put r' none) else none
    | none=>none)
   | _=>none)
  | _,_,_,_=>none)
 | _,_=>none
def dop:Op->Bool
 | .buildSlice .. => true
 | .call c=>(match c.callee with
  | .builtin .append=>true
  | _=>false)
 | _=>false
def DZ(E:Env)(o:Oper):Bool:=E.deep o&&dop o.op
def yV(E:Env)(H:aa)(tm:List AV)(r:Ref)(o:Oper):cp:=
 match o.op with
 | .buildSlice t n ps=>qu E.P H r t n (gK tm ps.toList)
 | .call c=>(match c.args.toList.mapM (aC tm) with
  | some [s,x]=>yf E.P H r c.argTypes[0]? c.argTypes[1]? s x
  | _=>none)
 | _=>none
def RC(E:Env)(a:Bool)(H:aa)(tm:List AV)(r:Ref)(o:Oper):Option cp:=
 if a || !DZ E o then none else some (yV E H tm r o)
def RE:Op->Bool
 | .send .. | .recv .. => true
 | _=>false
def evalW(E:Env)(pc:FuncId->List AV->Option AV)(tc:uE->List AV->aa->cp)(H:aa)(tm:List AV)(r:Ref)(o:Oper):cp:=
 match o.op with
 | .store t a x=>nx E.P H t (aC tm a) (aC tm x)
 | .mapUpdate t m k x | .insert t m k x=>dQ E.P H t (aC tm m) (aC tm k) (aC tm x)
 | .mapEntry t m k=>jl E.P H t (aC tm m) (aC tm k)
 | .entryStore _ m s x=>fQ H (aC tm m) (aC tm s) (aC tm x)
 | .buildSlice t n ps=>kU E.P H r t n (gK tm ps.toList)
 | .makeChan t n=>Bz E.P H r t (aC tm n)
 | .send c x=>G3 H (aC tm c) (aC tm x)
 | .recv t c ok=>JM E.P H t (aC tm c) ok
 | .call c=>
  match c.args.toList.mapM (aC tm) with
  | none=>none
  | some args=>
   match c.callee with
   | .value f=>qQ (E.gJ o) E.sm H (nH E pc tc H r (aC tm f) args)
   | .invoke _ _=>none
   | .builtin b=>
    match b,args with
    | .append,[s,x]=>lx E.P H c.argTypes[0]? c.argTypes[1]? s x
    | .copy,[dst,x]=>cond (E.wide o) (G6 E.P H c.argTypes[0]? dst x) (L4 E.P H c.argTypes[0]? dst x)
    | _,_=>none
 | _=>none
def wanted(ops:Array Oper)(tm:List AV)(o:Oper):Option Bool:=
 match o.guard with
 | none=>some true
 | some (j,want)=>
  match (ops[j]?).bind (·.dst) with
  | some t=>(match dA tm t with
   | .v (.bool b)=>some (b == want)
   | .v (.tuple a)=>if a.isEmpty then some false else none
   | _=>none)
  | none=>some false
def wOp(E:Env):Op->Bool
 | .store .. | .mapUpdate .. | .insert .. | .mapEntry .. | .entryStore .. => true
 | .call c=>match c.callee with
  | .builtin .append | .builtin .copy=>true
  | .value (.func g)=>E.mode g == 2
  | .value (.tmp _)=>true
  | _=>false
 | _=>false
def Bq:Op->Bool
 | .buildSlice .. => true
 | _=>false
def il(E:Env)(o:Oper):Bool:=(!E.strict o&&wOp E o.op)||((E.gJ o||E.deep o)&&Bq o.op)
def cQ(nt:Nat)(tm:List AV)(a:Option Tmp)(x:AV):Option (List AV):=
 match a with
 | none=>some tm
 | some d=>if d<nt then some (Dj tm d x) else none
def uL(E:Env)(pc:FuncId->List AV->Option AV)(a:Bool)(g:cF)(tm:List AV)(r:Ref)(o:Oper):jk:=cond (a&&DZ E o) none (cr E pc a g tm r o)
def tK(E:Env)(pc:FuncId->List AV->Option AV)(tc:uE->List AV->aa->cp)(a:Bool)(H:aa)(tm:List AV)(r:Ref)(o:Oper):cp:=cond (a&&DZ E o) (yV E H tm r o) (evalW E pc tc H tm r o)
def FP{E:Env}{pc:FuncId->List AV->Option AV}{a:Bool}{g:cF}{tm:List AV}{r:Ref}{o:Oper}{p:AV × List aQ}(h:uL E pc a g tm r o=some p):cr E pc a g tm r o=some p:=by
 unfold uL at h;cases b:(a&&DZ E o) with
 | true=>rw[b]at h;cases h
 | false=>rw[b]at h;exact h
def zS{E:Env}{pc:FuncId->List AV->Option AV}{a:Bool}{g:cF}{tm:List AV}{r:Ref}{o:Oper}(h:DZ E o=false):uL E pc a g tm r o=cr E pc a g tm r o:=by
 unfold uL;rw[h,AK];rfl
def tJ{E:Env}{pc:FuncId->List AV->Option AV}{tc:uE->List AV->aa->cp}{a:Bool}{H:aa}{tm:List AV}{r:Ref}{o:Oper}(h:DZ E o=false):tK E pc tc a H tm r o=evalW E pc tc H tm r o:=by
 unfold tK;rw[h,AK];rfl
def evalOp(E:Env)(pc:FuncId->List AV->Option AV)(tc:uE->List AV->aa->cp)(nt dep:Nat)(a:Bool)(ops:Array Oper)(o:Oper)(st:St):Option St:=
 match wanted ops st.tm o with
 | none=>none
 | some false=>(cQ nt st.tm o.dst AV.undef).map λtm => { st with tm}
 | some true=>
  match uL E pc a st.hp.get st.tm ⟨dep,o.dst.getD 0,st.hp.gen dep (o.dst.getD 0),0⟩ o with
  | some (x,b)=>(cQ nt st.tm o.dst x).map λtm=>⟨tm,keyed ⟨dep,o.dst.getD 0,st.hp.gen dep (o.dst.getD 0),0⟩ 0 b st.hp⟩
  | none=>
   if a && !il E o then none else
   match tK E pc tc a st.hp st.tm ⟨dep,o.dst.getD 0,st.hp.gen dep (o.dst.getD 0),0⟩ o with
   | some (x,H)=>(cQ nt st.tm o.dst x).map λtm=>⟨tm,H⟩
   | none=>none
def Ar(E:Env)(pc:FuncId->List AV->Option AV)(tc:uE->List AV->aa->cp)(nt dep:Nat)(a:Bool)(ops:Array Oper)(o:Oper)(st:St):Option St:=
 match RC E a st.hp st.tm ⟨dep,o.dst.getD 0,st.hp.gen dep (o.dst.getD 0),0⟩ o with
 | none=>evalOp E pc tc nt dep a ops o st
 | some w=>(match wanted ops st.tm o with
  | none=>none
  | some false=>(cQ nt st.tm o.dst AV.undef).map λtm => { st with tm}
  | some true=>(match w with
   | some (x,H)=>(cQ nt st.tm o.dst x).map λtm=>⟨tm,H⟩
   | none=>none))
def Qm{E:Env}{pc:FuncId->List AV->Option AV}{tc:uE->List AV->aa->cp}{nt dep:Nat}{ops:Array Oper}{o:Oper}{st:St}:Ar E pc tc nt dep true ops o st=evalOp E pc tc nt dep true ops o st:=rfl
def nW(E:Env)(pc:FuncId->List AV->Option AV)(tc:uE->List AV->aa->cp)(nt dep:Nat)(a:Bool)(ops:Array Oper):List Oper->St->Option St
 | [],st=>some st
 | o :: rest,st=>match Ar E pc tc nt dep a ops o st with
  | some b=>nW E pc tc nt dep a ops rest b
  | none=>none
def mc(P:Program)(st:St):ResultVar->Option AV
 | .tmp t=>some (dA st.tm t)
 | .cell a t=>match dA st.tm a,dL P t,aA P t with
  | .ptr r i j,some g,some n=>match st.hp.get r with
   | some b=>bL b.es i j n g
   | none=>none
  | _,_,_=>none
def yG(P:Program)(fn:Func)(st:St):Option AV:=
 match fn.results.toList.mapM (mc P st) with
 | some []=>some (.v (.tuple #[]))
 | some [x]=>some x
 | some xs=>some (.tup xs)
 | none=>none
def codeOk(ok:Array Oper->Bool):Code->Bool
 | .region _ ops draw => !draw||ok ops
 | .seq a b | .cond _ a b=>codeOk ok a&&codeOk ok b
 | .block _ c | .loop c | .scope c=>codeOk ok c
 | .rangeFunc _ _ a b=>codeOk ok a&&codeOk ok b
 | _=>true
def oY(ok:Array Oper->Bool):Item->Bool
 | .code c | .inLoop c=>codeOk ok c
 | _=>true
def vZ(E:Env)(run:Option Ref->Nat->Nat->List Item->St->Option St)(dep:Nat)(f:FuncId)(args:List AV)(H:aa):Option (AV × aa):=
 if E.allowed f then
  match E.P.funcs[f]? with
  | some fn=>match fn.body with
   | some c=>if args.length<=fn.ntmps then
    match run none fn.ntmps dep [.code c] ⟨args,H⟩ with
    | some st=>(yG E.P fn st).map (·,st.hp)
    | none=>none
    else none
   | none=>none
  | none=>none
 else none
def bK(g:cF):Nat->AV->Option AV
 | 0,_=>none
 | n+1,x=>
  match x with
  | .agg cs=>(cs.mapM (bK g n)).map .agg
  | .tup cs=>(cs.mapM (bK g n)).map .tup
  | .ifc t x=>(bK g n x).map (.ifc t)
  | .bN r 0 len cap=>
   match g r with
   | some b=>if b.arr=true/\len<=b.es.length then some (if b.gJ then .cC b.esz (b.es.take len) cap else .fsl b.esz (b.es.take len) cap) else none
   | none=>none
  | .dsl r 0 len cap=>
   match g r with
   | some b=>if b.arr=false/\len=b.es.length then (if b.gJ then (b.es.mapM (view g n)).map λes => .cC b.esz es cap else (b.es.mapM (bK g n)).map λes => .nsl b.esz es cap) else none
   | none=>none
  | .mp r=>
   match kE g r with
   | some ents=>if ents.all (flat depth) then some (.fsl 0 (.v (.bool true) :: ents) none) else none
   | none=>none
  | x=>view g (n+1) x
def cV(E:Env)(run:Option Ref->Nat->Nat->List Item->St->Option St)(f:FuncId)(args:List AV):Option AV:=
 match E.spec f args with
 | some y=>some y
 | none=>match vZ E run 0 f args [] with
  | some (x,H)=>if Bi (E.mode f)=true then (if (ah H.get depth x).Nodup then bK H.get depth x else none) else view H.get depth x
  | none=>none
def k7(st:Nat)(a:AV):aQ:=⟨0,[.v (.int .i64 st),a],false,false⟩
def zM(H:aa)(r:Ref):Option (Nat × AV):=match H.get r with
 | some ⟨0,[.v (.int .i64 st),inf],_,_⟩=>some (st.toNat,inf)
 | _=>none
def xI(tm:List AV):List Tmp->List AV->List AV
 | t :: a,x :: xs=>xI (Dj tm t x) a xs
 | _,_=>tm
def BJ(E:Env)(run:Option Ref->Nat->Nat->List Item->St->Option St)(dep:Nat)(r:Ref)(args:List AV)(H:aa):Option (AV × aa):=
 match zM H r with
 | some (0,.lp f nt ps assign body tm)=>
  if args.length=ps.length/\ps.all (· < nt)=true/\codeOk E.ok assign=true/\codeOk E.ok body=true then
   (match run (some r) nt dep [.code assign,.beginRound,.code body] ⟨xI tm ps args,H⟩ with
   | some st=>(match zM st.hp r with
    | some (0,_)=>some (.v (.bool true),st.hp)
    | some (n+2,_)=>some (.v (.bool false),st.hp)
    | _=>none)
   | none=>none)
  else none
 | _=>none
def eM(E:Env)(run:Option Ref->Nat->Nat->List Item->St->Option St)(dep:Nat)(t:uE)(args:List AV)(H:aa):Option (AV × aa):=
 match t with
 | .fn f=>(match E.thrSpec f args H with
  | some z=>some z
  | none=>if E.mode f=2 then vZ E run (dep+1) f args H else none)
 | .yld r=>BJ E run (dep+1) r args H
def xM(rd:Option Ref)(st:St)(n:Nat):Option St:=match rd with
 | none=>if n=2 then some st else none
 | some r=>match zM st.hp r with
  | some (1,inf)=>some { st with hp:=st.hp.put r (some (k7 n inf))}
  | _=>none
def sC(E:Env)(ops:Array Oper):List (Tmp × Tmp):=E.apart ops
def fC:AV->Option Ref
 | .ptr r _ _=>some r
 | .bN r _ _ _=>some r
 | .dsl r _ _ _=>some r
 | .mp r=>some r
 | .ch r=>some r
 | _=>none
def FC(tm:List AV)(p:Tmp × Tmp):Bool:=match fC (dA tm p.1),fC (dA tm p.2) with
 | some r,some r'=>decide (r≠r')
 | _,_=>true
def yB(st:St)(o:Oper):Bool:=match o.op with
 | .store _ (.tmp t) _=>(match dA st.tm t with
  | .ptr r _ _=>(match st.hp.get r with
   | some b => !b.arr
   | none=>false)
  | _=>true)
 | _=>true
def bsT:Op->Option Tmp
 | .buildSlice _ _ ps=>(match ps.toList with
  | [(_,.tmp t)]=>some t
  | _=>none)
 | _=>none
def IV(E:Env)(st:St)(o:Oper):Bool := !(E.gJ o&&Bq o.op)||(match bsT o.op with
 | some t=>(match dA st.tm t with
  | .bN .. => true
  | .v _=>true
  | _=>false)
 | none=>false)
def tX(E:Env)(ops:Array Oper)(st:St):Bool:=(sC E ops).isEmpty||((sC E ops).all (FC st.tm)&&(ops.toList.all (yB st)&&ops.toList.all (IV E st)))
def bZ(E:Env):Nat->(rd:Option Ref)->(nt dep:Nat)->List Item->St->Option St
 | 0,_,_,_,_,_=>none
 | n+1,rd,nt,dep,items,st=>
  match items with
  | []=>(match rd with
   | none=>some st
   | some _=>xM rd st 0)
  | .beginRound :: k=>(match rd with
   | none=>none
   | some r=>match zM st.hp r with
    | some (0,inf)=>bZ E n rd nt dep k { st with hp:=st.hp.put r (some (k7 1 inf))}
    | _=>none)
  | .code c :: k=>
   (match c with
   | .skip | .label _=>bZ E n rd nt dep k st
   | .ret=>xM rd st 2
   | .seq a b=>bZ E n rd nt dep (.code a :: .code b :: k) st
   | .cond c a b=>
    (match (aC st.tm c).bind Fc with
    | some true=>bZ E n rd nt dep (.code a :: k) st
    | some false=>bZ E n rd nt dep (.code b :: k) st
    | none=>none)
   | .block id b=>bZ E n rd nt dep (.code b :: .inBlock id :: k) st
   | .scope b=>bZ E n rd nt dep (.code b :: .inScope b :: k) st
   | .loop b=>bZ E n rd nt dep (.code b :: .inLoop b :: k) st
   | .exit id=>(match exitTo id k with
    | some k'=>bZ E n rd nt dep k' st
    | none=>if rd.isSome then xM rd st (id+3) else none)
   | .region _ ops draw=>(match nW E (cV E (bZ E n)) (eM E (bZ E n) dep) nt dep draw ops ops.toList st with
    | some d=>if draw && !tX E ops d then none else bZ E n rd nt dep k d
    | none=>none)
   | .rangeFunc g ps assign body=>(match rd,aC st.tm g with
    | none,some (.fn (.func gi) first captured)=>
     (match eM E (bZ E n) dep (.fn gi) (first++[.yld ⟨dep,nt,st.hp.gen dep nt,0⟩]++captured)
      ((⟨dep,nt,st.hp.gen dep nt,0⟩,some (k7 0 (.lp 0 nt ps.toList assign body st.tm))) :: st.hp) with
     | some (_,H')=>(match zM H' ⟨dep,nt,st.hp.gen dep nt,0⟩ with
      | some (0,_)=>bZ E n rd nt dep k ⟨st.tm,H'.put ⟨dep,nt,st.hp.gen dep nt,0⟩ none⟩
      | some (2,_)=>some ⟨st.tm,H'.put ⟨dep,nt,st.hp.gen dep nt,0⟩ none⟩
      | some (id+3,_)=>(match exitTo id k with
       | some k'=>bZ E n rd nt dep k' ⟨st.tm,H'.put ⟨dep,nt,st.hp.gen dep nt,0⟩ none⟩
       | none=>none)
      | _=>none)
     | none=>none)
    | _,_=>none)
   | _=>none)
  | .inLoop b :: k=>bZ E n rd nt dep (.code b :: .inLoop b :: k) st
  | .inBlock _ :: k | .inScope _ :: k=>bZ E n rd nt dep k st
  | _=>none
def eS(o:Oper):List Nat:=(o.after.toList.filter (Region.binds .any)).map (·.on)
def CI(a:List Nat):List Nat->Nat
 | []=>0
 | j :: b=>(2 ^ j ||| a.getD j 0) ||| CI a b
def du:List Oper->List Nat->List Nat
 | [],acc=>acc
 | o :: os,acc=>du os (acc++[CI acc (eS o)])
def P5(c:Call):Bool:=match c.args.toList with
 | [.tmp _]=>true
 | _=>false
def kM:Op->Bool
 | .move _ | .assign _ | .pick .. | .binOp .. | .unOp .. | .makeInterface .. | .makeFunc .. | .fieldAddr .. | .field .. | .index .. | .typeAssert .. | .extract .. | .nilCheck _ | .build .. => false
 | .call c=>match c.callee with
  | .builtin .len=>P5 c
  | .builtin .min | .builtin .max=>false
  | _=>true
 | _=>true
def Nx:Op->Bool
 | .call c=>(match c.callee with
  | .builtin .len=>true
  | _=>false)
 | _=>false
def xV(E:Env)(o:Oper):Bool:=kM o.op && !(E.strict o&&Nx o.op)
def jy(ops:Array Oper)(i:Nat):Option Tmp:=(ops[i]?).bind (·.dst)
def lk(E:Env)(ops:Array Oper)(i:Nat):Bool:=(List.range (i+1)).any λj=>match ops[j]? with
 | some o=>il E o
 | none=>false
def y3(ops:Array Oper)(A:List Nat)(oi a:Oper)(i j:Nat):Bool:=
 (a.dst.isNone||oi.dst != a.dst) &&
 (match a.dst with | some d => !(oi.looksAt ops).contains d||(A.getD i 0).testBit j | none=>true) &&
 (match oi.dst with | some d => !(a.looksAt ops).contains d||(A.getD i 0).testBit j | none=>true)
def PO(E:Env)(ops:Array Oper)(A:List Nat)(oi a:Oper)(i j:Nat):Bool:=
 y3 ops A oi a i j &&
 (!(xV E oi&&xV E a&&lk E ops i)||(A.getD i 0).testBit j)
def Ds(E:Env)(ops:Array Oper):Bool:=
 (List.range ops.size).all λi=>match ops[i]? with
  | some oi=>(eS oi).all (· < i)&&(!xV E oi||il E oi||oi.dst.isSome) &&
   (List.range i).all λj=>match ops[j]? with
    | some a=>PO E ops (du ops.toList []) oi a i j
    | none=>true
  | none=>true
def Cj(P:Program):Op->Option Tmp
 | .load _ (.tmp t)=>some t
 | .indexAddr _ (.tmp t) _=>some t
 | .slice _ (.tmp t) _ _ _=>some t
 | .convert _ dst (.tmp t)=>if ei P dst then none else some t
 | .lookup _ (.tmp t) _ _=>some t
 | .call c=>match c.callee with
  | .builtin .len=>(match c.args.toList with
   | [.tmp t]=>some t
   | _=>none)
  | _=>none
 | _=>none
def storeT:Op->Option Tmp
 | .store _ (.tmp t) _=>some t
 | _=>none
def Ff:Op->Option Tmp
 | .call c=>match c.callee with
  | .builtin .append=>(match c.args.toList with
   | .tmp t :: _=>some t
   | _=>none)
  | _=>none
 | _=>none
def Nq:Op->Option Tmp
 | .mapUpdate _ (.tmp t) _ _=>some t
 | .insert _ (.tmp t) _ _=>some t
 | .mapEntry _ (.tmp t) _=>some t
 | .entryStore _ (.tmp t) _ _=>some t
 | _=>none
def Hq(o:Op):Option Tmp:=match Nq o with
 | some t=>some t
 | none=>Ff o
def qF(E:Env)(o:Oper):Bool:=E.gJ o && !E.strict o&&(match o.op with
 | .call c=>(match c.callee with
  | .value (.func g)=>E.mode g == 2
  | _=>false)
 | _=>false)
def cls(E:Env)(o:Oper):Nat:=
 if xV E o then (if (storeT o.op).isSome then 2 else if (Cj E.P o.op).isSome then 1 else if il E o then 4 else 3) else 0
def ni(E:Env)(o:Oper):Option Tmp:=match storeT o.op with
 | some t=>some t
 | none=>match Cj E.P o.op with
  | some t=>some t
  | none=>if Bq o.op then bsT o.op else Hq o.op
def settled(E:Env)(ops:Array Oper)(oi c:Oper):Bool:=match ni E oi,ni E c with
 | some a,some b=>(sC E ops).contains (a,b)||(sC E ops).contains (b,a)
 | _,_=>false
def blind(E:Env)(o:Oper):Bool:=cls E o == 3&&(match o.op with
 | .alloc _ | .makeMap _ none=>true
 | .call c=>c.args.toList.isEmpty&&(match c.callee with
  | .value (.func _)=>true
  | _=>false)
 | _=>false)
def Qf(E:Env)(o:Oper):Bool:=cls E o == 3&&(match o.op with
 | .alloc _ | .makeMap _ none=>true
 | _=>false)
def pj(E:Env)(oi a:Oper):Bool:=Qf E oi&&((Ff a.op).isSome&&a.dst.isSome && !DZ E a)
def qV(E:Env)(oi a:Oper):Bool:=(cls E oi == 2&&Nat.ble 3 (cls E a) && !blind E a)||(cls E a == 2&&Nat.ble 3 (cls E oi) && !blind E oi)||(Nat.ble 3 (cls E oi)&&Nat.ble 3 (cls E a)&&(cls E oi == 4||cls E a == 4) && !pj E oi a && !pj E a oi)
def DK(b a:Nat):Bool:=(b == 2&&(a == 1||a == 2))||(a == 2&&b == 1)||(b == 1&&a == 4)||(b == 4&&a == 1)
def P3(E:Env)(ops:Array Oper)(A:List Nat)(oi a:Oper)(i j:Nat):Bool:=
 y3 ops A oi a i j &&
 (!qV E oi a||(A.getD i 0).testBit j) &&
 (!DK (cls E oi) (cls E a)||qF E oi||qF E a||(A.getD i 0).testBit j||settled E ops oi a)
def Pj(ops:Array Oper)(i:Nat)(t:Option Tmp):Bool:=match t with
 | some t=>(List.range ops.size).all λk=>jy ops k != some t||decide (k<i)
 | none=>false
def Rf(E:Env)(ops:Array Oper)(i:Nat)(o:Oper):Bool:=match cls E o with
 | 0=>true
 | 3=>o.dst.isSome
 | _=>qF E o||Pj ops i (ni E o)
def Wk(E:Env)(ops:Array Oper):Bool := !(sC E ops).isEmpty &&
 (List.range ops.size).all λi=>match ops[i]? with
  | some oi=>(eS oi).all (· < i)&&Rf E ops i oi &&
   (List.range i).all λj=>match ops[j]? with
    | some a=>P3 E ops (du ops.toList []) oi a i j
    | none=>true
  | none=>true
def IK(E:Env)(ops:Array Oper):Bool:=Ds E ops||Wk E ops
def oO{d:Type}{P:Program}{s:Sem d} : ∀ {a:d},aY P s=some a ->∀w,s.run P w = .ok a w:=by
 induction s with| pure a=>intro b h w;simp[aY]at h;subst h;rfl| program k c=>intro a h w;exact c P h w| mark m k c=>intro a h w;exact c h w| _=>intro a h;simp[aY]at h
def gH{i g:Type}{f:i->Option g} : ∀ {l:List i} {c:List g},l.mapM f=some c->c.length=l.length:=by
 intro l;induction l with
 | nil=>intro c h;simp at h;subst h;rfl
 | cons a l j=>intro c h;simp only[mH,rR,s7,ib]at h;obtain⟨b,_,k,d,e⟩:=h;simp at e;subst e;simp[j d]
def pf{k g:Type}{f:k->Option g} : ∀ {l:List k} {d:List g},l.mapM f=some d ->∀(i:Nat)(y:g),d[i]?=some y ->∃x,l[i]?=some x/\f x=some y:=by
 intro l;induction l with
 | nil=>intro d h i y c;simp at h;subst h;simp at c
 | cons a l n=>
  intro d h i y c;simp only[mH,rR,s7,ib]at h;obtain⟨b,m,o,e,j⟩:=h;simp at j;subst j;cases i with
  | zero=>simp at c;subst c;exact⟨a,rfl,m⟩
  | succ i=>simp at c;simpa using n e i y c
def lT{c d:Type}{f:c->Option d}{l:List c}{b:List d}(h:l.mapM f=some b)(i:Nat)(x:c)(e:l[i]?=some x) : ∃y,b[i]?=some y/\f x=some y:=by
 have k:=gH h;have g:i<b.length:=by rw[k];exact(ew.1 e).1
 obtain⟨m,a,j⟩:=pf h i b[i] (dy g);rw[e]at a;cases a;exact⟨_,dy g,j⟩
abbrev Mem:=Nat->Nat->Option Value
structure Loc where
 b:Nat
 esz:Nat
 n:Nat
abbrev Map:=Ref->Option Loc
def dq:Map:=λ_=>none
inductive VR (M:Mem):Map->AV->Value->Prop
 | v {ι x} (h:scalar x=true):VR M ι (.v x) x
 | agg {ι cs vs} (hl:cs.length=vs.size) (h : ∀(i:Nat) c u,cs[i]?=some c->vs[i]?=some u->VR M ι c u):VR M ι (.agg cs) (.agg vs)
 | tup {ι cs vs} (h0:cs≠[]) (hl:cs.length=vs.size) (h : ∀(i:Nat) c u,cs[i]?=some c->vs[i]?=some u->VR M ι c u):VR M ι (.tup cs) (.tuple vs)
 | cC {ι esz es cap a c} (cell:Nat->Nat->Value) (hs:a.spot=none\/es=[]) (hc:es.length<=c) (hk : ∀k,cap=some k->c=k)
  (hm : ∀i j,i<es.length->j<esz->M a.block (a.off+(i * esz+j))=some (cell i j)/\(cell i j).oneCell'=true)
  (he : ∀e∈es,e.cells.length=esz)
  (h : ∀(i j:Nat) e x,es[i]?=some e->e.cells[j]?=some x->VR M dq x (cell i j)):VR M ι (.cC esz es cap) (.slice (some a) es.length c)
 | bN {ι r off len cap l a c} (hr:ι r=some l) (hb:a.block=l.b) (hs:a.spot=none) (ha:c=0\/a.off=off * l.esz) (hc:len<=c) (hn:c=0\/off+c<=l.n)
  (hk : ∀k,cap=some k->c=k) (hz:0<l.esz):VR M ι (.bN r off len cap) (.slice (some a) len c)
 | dsl {ι r off len cap l a c} (hr:ι r=some l) (hb:a.block=l.b) (hs:a.spot=none) (ha:c=0\/a.off=off * l.esz) (hc:len<=c) (hn:c=0\/off+c<=l.n)
  (hk : ∀k,cap=some k->c=k) (hz:0<l.esz):VR M ι (.dsl r off len cap) (.slice (some a) len c)
 | ptr {ι r i j l} (hr:ι r=some l) (hz:0<l.esz):VR M ι (.ptr r i j) (.pointer (some ⟨l.b,i * l.esz+j,none⟩))
 | iptr {ι esz es i j b o} (cell:Nat->Nat->Value)
  (hm : ∀i j,i<es.length->j<esz->M b (o+(i * esz+j))=some (cell i j)/\(cell i j).oneCell'=true)
  (he : ∀e∈es,e.cells.length=esz)
  (h : ∀(i j:Nat) e x,es[i]?=some e->e.cells[j]?=some x->VR M dq x (cell i j)):VR M ι (.iptr esz es i j) (.pointer (some ⟨b,o+(i * esz+j),none⟩))
 | fn {ι f a b a' b'} (ha:a.length=a'.size) (hb:b.length=b'.size) (h : ∀(i:Nat) c u,a[i]?=some c->a'[i]?=some u->VR M ι c u)
  (h' : ∀(i:Nat) c u,b[i]?=some c->b'[i]?=some u->VR M ι c u):VR M ι (.fn f a b) (.func f a' b')
 | ifc {ι t x u} (h:VR M ι x u):VR M ι (.ifc t x) (.iface t u)
 | yld {ι r l} (hr:ι r=some l) (hz:l.esz=0):VR M ι (.yld r) (.func (.yield l.b) #[] #[])
 | mp {ι r l} (hr:ι r=some l) (hz:l.esz=0):VR M ι (.mp r) (.map (some l.b))
 | ch {ι r l} (hr:ι r=some l) (hz:l.esz=0):VR M ι (.ch r) (.chan (some l.b))
 | Bc {ι u} (h:u.oneCell'=true):VR M ι (.Bc u) u
def VR.mono{M M':Mem}(D : ∀b o x,M b o=some x->M' b o=some x){ι:Map}{x:AV}{u:Value}(h:VR M ι x u) :
 ∀a:Map,(∀r l,ι r=some l->a r=some l)->VR M' a x u:=by
 induction h with| v h=>intro a _;exact .v h| agg B _ m=>intro a d;exact .agg B λi c u f q=>m i c u f q a d| tup E B _ m=>intro a d;exact .tup E B λi c u f q=>m i c u f q a d| cC cell t f w hm he _ m=>intro a d;exact .cC cell t f w (λi j n p=>⟨D _ _ _ (hm i j n p).1,(hm i j n p).2⟩) he λi j e x n p=>m i j e x n p dq (λ_ _ h=>h)| bN g y t z f C w k=>intro a d;exact .bN (d _ _ g) y t z f C w k| dsl g y t z f C w k=>intro a d;exact .dsl (d _ _ g) y t z f C w k| ptr g k=>intro a d;exact .ptr (d _ _ g) k| yld g k=>intro a d;exact .yld (d _ _ g) k| mp g k=>intro a d;exact .mp (d _ _ g) k| ch g k=>intro a d;exact .ch (d _ _ g) k| Bc h=>intro a _;exact .Bc h| iptr cell hm he _ m=>intro a d;exact .iptr cell (λi j n p=>⟨D _ _ _ (hm i j n p).1,(hm i j n p).2⟩) he λi j e x n p=>m i j e x n p dq (λ_ _ h=>h)| fn z y _ _ m A=>intro a d;exact .fn z y (λi c u f q=>m i c u f q a d) λi c u f q=>A i c u f q a d| ifc _ m=>intro a d;exact .ifc (m a d)
def VR.up{M:Mem}{x:AV}{u:Value}(h:VR M dq x u)(ι:Map):VR M ι x u:=h.mono (λ_ _ _ h=>h) ι (λ_ _ h=>by cases h)
def mh(M:Mem)(ι:Map)(xs:List AV)(us:List Value):Prop:=xs.length=us.length /\∀(i:Nat) x u,xs[i]?=some x->us[i]?=some u->VR M ι x u
def mh.nil{M:Mem}{ι:Map}:mh M ι [] []:=⟨rfl,λi x u h=>by simp at h⟩
def mh.cons{M:Mem}{ι:Map}{x:AV}{u:Value}{xs:List AV}{us:List Value}(h:VR M ι x u)(c:mh M ι xs us):mh M ι (x :: xs) (u :: us):=
 ⟨by simp[c.1],λi y v b a=>by
  cases i with| zero=>simp at b a;subst b;subst a;exact h| succ i=>simp at b a;exact c.2 i y v b a⟩
def mh.append{M:Mem}{ι:Map}{xs ys:List AV}{us d:List Value}(h:mh M ι xs us)(e:mh M ι ys d):mh M ι (xs++ys) (us++d):=
 ⟨by simp[h.1,e.1],λi y v c a=>by
  rcases eC i xs.length with b | b
  ·rw[kA b]at c;rw[kA (h.1 ▸ b)]at a;exact h.2 i y v c a
  rw[jP b]at c;rw[jP (h.1 ▸ b)]at a;rw[<-h.1]at a;exact e.2 _ y v c a⟩
def mh.mono{M M':Mem}{ι a:Map}{xs:List AV}{us:List Value}(h:mh M ι xs us)(f : ∀b o x,M b o=some x->M' b o=some x)(c : ∀r l,ι r=some l->a r=some l):mh M' a xs us:=
 ⟨h.1,λi x u d e=>(h.2 i x u d e).mono f a c⟩
def mh.take{M:Mem}{ι:Map}{xs:List AV}{us:List Value}(h:mh M ι xs us)(n:Nat):mh M ι (xs.take n) (us.take n):=
 ⟨by simp[h.1],λi x u a c=>by
  rw[AN]at a c;split at a;·rename_i b;rw[if_pos b]at c;exact h.2 i x u a c
  cases a⟩
def mh.drop{M:Mem}{ι:Map}{xs:List AV}{us:List Value}(h:mh M ι xs us)(n:Nat):mh M ι (xs.drop n) (us.drop n):=
 ⟨by simp[h.1],λi x u a b=>by
  rw[Fp]at a b;exact h.2 _ x u a b⟩
def VR.qA{M:Mem}{ι:Map}{cs:List AV}{b:Array Value}:VR M ι (.agg cs) (.agg b)↔mh M ι cs b.toList:=
 ⟨λh=>by cases h with | agg e h=>exact⟨by simpa using e,λi x u f a=>h i x u f (by simpa using a)⟩,
  λh => .agg (by simpa using h.1) λi c u d a=>h.2 i c u d (by simpa using a)⟩
def VR.cells{M:Mem}{ι:Map}{x:AV}{u:Value}(h:VR M ι x u):mh M ι x.cells u.cells.toList:=by
 have one : ∀ {x:AV} {u:Value},VR M ι x u->x.cells=[x]->u.cells = #[u]->mh M ι x.cells u.cells.toList:=by
  intro x u h m l;rw[m,l];exact mh.cons h mh.nil
 cases h with
 | agg j h=>exact⟨by simpa [AV.cells,Value.cells] using j,λi x u m l=>h i x u (by simpa [AV.cells] using m) (by simpa [Value.cells] using l)⟩
 | v h=>refine one (.v h) rfl ?_;cases u<;>first | rfl | (simp[scalar]at h)
 | tup n j h=>exact one (.tup n j h) rfl rfl
 | cC cell d c e hm he h=>exact one (.cC cell d c e hm he h) rfl rfl
 | bN a f d g c k e b=>exact one (.bN a f d g c k e b) rfl rfl
 | dsl a f d g c k e b=>exact one (.dsl a f d g c k e b) rfl rfl
 | ptr a b=>exact one (.ptr a b) rfl rfl
 | yld a b=>exact one (.yld a b) rfl rfl
 | mp a b=>exact one (.mp a b) rfl rfl
 | ch a b=>exact one (.ch a b) rfl rfl
 | Bc h=>exact one (.Bc h) rfl (by cases u<;>first | rfl | (cases h))
 | iptr cell hm he h=>exact one (.iptr cell hm he h) rfl rfl
 | fn g f h o=>exact one (.fn g f h o) rfl rfl
 | ifc h=>exact one (.ifc h) rfl rfl
def VR.one{M:Mem}{ι:Map}{x:AV}{u:Value}(h:VR M ι x u)(a:x.one=true):u.oneCell'=true:=by
 cases h with
 | v h=>cases u<;>first | rfl | (simp[AV.one]at a)
 | agg b h=>simp[AV.one]at a
 | tup c b h=>simp[AV.one]at a
 | cC=>rfl
 | bN=>rfl
 | dsl=>rfl
 | ptr=>rfl
 | iptr=>rfl
 | fn=>rfl
 | ifc=>rfl
 | yld=>rfl
 | mp=>rfl
 | ch=>rfl
 | Bc h=>exact h
def oQ{M:Mem}{ι:Map}{u:Value}{x:AV}(h:kD u=some x):VR M ι x u:=by
 unfold kD at h;split at h;·cases h;exact .v (by assumption)
 cases h
def DH{M:Mem}{ι:Map}{us:List Value}{xs:List AV}(h:us.mapM kD=some xs):mh M ι xs us:=
 ⟨gH h,λi x u b d=>by
  obtain⟨e,a,c⟩:=pf h i x b;rw[d]at a;cases a;exact oQ c⟩
def jo{M:Mem}{ι:Map}{u:Value}{x:AV}(h:ofValue u=some x):VR M ι x u:=by
 cases u with
 | agg cs=>simp only[ofValue,bG]at h;obtain⟨xs,d,rfl⟩:=h;exact VR.qA.2 (DH d)
 | func f a b=>
  simp only[ofValue]at h;split at h;·rename_i j;cases h;simp at j;obtain⟨rfl,rfl⟩:=j;exact .fn rfl rfl (λi c u g=>by simp at g) (λi c u g=>by simp at g)
  cases h
 | tuple o=>
  simp only[ofValue]at h;split at h;·rename_i k;simp at k;subst k;cases h;exact .v rfl
  rename_i k;simp only[bG]at h;obtain⟨xs,d,rfl⟩:=h;have l:=DH (M:=M) (ι:=ι) d;refine .tup ?_ (by simpa using l.1) λi c u g m=>l.2 i c u g (by simpa using m);intro e;subst e;have:=l.1;simp at this;exact k (by simpa using LY this.symm)
 | iface t x=>simp only[ofValue,bG]at h;obtain⟨y,n,rfl⟩:=h;exact .ifc (oQ n)
 | _=>exact oQ (by simpa [ofValue] using h)
def Pd{M:Mem}{ι:Map}{x:AV}{u v:Value}(h:VR M ι x u)(a:JO x=some v):u=v:=by
 cases h<;>simp[JO]at a;exact a
def vI{M:Mem}{ι:Map}{x:AV}{u v:Value}(h:VR M ι x u)(f:im x=some v):u=v:=by
 cases h<;>simp[im]at f;·exact f
 rename_i cs g n j;obtain⟨l,a,rfl⟩:=f;congr 1;apply Fo;intro i;rcases eC i g.size with e | e
 ·have d:=gH a;have b:i<l.length:=by omega
  obtain⟨c,k,m⟩:=pf a i l[i] (dy b);have:=Pd (j i c g[i] k (kJ e)) m;simp[this,kJ e,dy b]
 have d:=gH a;rw[Array.getElem?_eq_none e];simp;omega
def aQ.map(k:aQ)(ι:Map):Map:=if k.arr then dq else ι
def CR(z a:Nat)(fz:Nat × Nat):Prop:=(∀o,o<a ->¬(fz.1<=o/\(o<fz.2\/fz.2<fz.1)))/\(1<z ->¬(fz.1<=a/\a<fz.2))
def CR.zero(z n:Nat):CR z n (0,0):=⟨λo _ h=>by simp at h,λ_ h=>by simp at h⟩
structure eW (M:Mem) (ι:Map) (w:World) (l:Loc) (k:aQ):Prop where
 esz:l.esz=k.esz
 heap : ∃arr T fz,w.heap[l.b]?=some (.cells arr T fz)/\arr.size=l.n * k.esz/\CR k.esz arr.size fz /\
  ∀(i j:Nat) e x,k.es[i]?=some e->e.cells[j]?=some x ->∃u,arr[i * k.esz+j]?=some u/\u.oneCell'=true/\VR M (k.map ι) x u
 len:k.es.length<=l.n
 cells : ∀e∈k.es,e.cells.length=k.esz
 frozen : ∀o x,M l.b o=some x->k.gJ=true/\o<k.es.length * k.esz
def Dl(n:Nat)(r:Loop):Prop:=match n with
 | 0=>r.state = .ready/\r.pending=none
 | 1=>r.state = .busy
 | 2=>r.state = .done/\r.pending=some .ret
 | id+3=>r.state = .done/\r.pending=some (.exit id)
def I2(M:Mem)(ι:Map)(w:World)(l:Loc)(k:aQ):Prop:=
 ∃(n nt:Nat) (ps:List Tmp) (assign body:Code) (tm:List AV) (r:Loop),k.esz=0/\k.arr=false/\k.es=[.v (.int .i64 n),.lp 0 nt ps assign body tm]/\w.heap[l.b]?=some (.loop r)/\r.params=ps.toArray/\r.assign=assign/\r.body=body /\
  r.tmps.size=nt/\(∀t,VR M ι (dA tm t) (r.tmps.getD t undef))/\Dl n r
def OE(M:Mem)(ι:Map)(w:World)(l:Loc)(k:aQ):Prop:=
 ∃(ents:List AV) (a:Array MapEntry),k.esz=0/\k.arr=false/\k.es = .v (.bool true) :: ents/\w.heap[l.b]?=some (.map a a.size)/\a.size=ents.length /\
  ∀(i:Nat) ent e,ents[i]?=some ent->a[i]?=some e ->∃d c,ent = .tup [d,c]/\im d=some e.key/\VR M ι c e.val/\e.born=i
def I5(M:Mem)(ι:Map)(w:World)(l:Loc)(k:aQ):Prop:=
 ∃(cap s r:Nat) (c:Bool) (a:List AV) (arr:Array Value),k.esz=0/\k.arr=false/\k.es = .v (.bool false) :: .v (.int .i64 cap) :: .v (.bool c) :: a/\w.heap[l.b]?=some (.chan cap arr c s r false) /\
  arr.size=a.length /\∀(i:Nat) x u,a[i]?=some x->arr[i]?=some u->VR M ι x u
def oz(M:Mem)(ι:Map)(w:World)(l:Loc)(k:aQ):Prop:=I2 M ι w l k\/OE M ι w l k\/I5 M ι w l k
structure pz (M:Mem) (ι:Map) (w:World) (l:Loc) (k:aQ):Prop where
 esz:l.esz=k.esz
 cellsOk:0<k.esz->eW M ι w l k
 objOk:k.esz=0->oz M ι w l k
 frozen : ∀o x,M l.b o=some x->k.gJ=true/\o<k.es.length * k.esz
def eW.TG{M:Mem}{ι:Map}{w:World}{l:Loc}{k:aQ}(h:eW M ι w l k)(a:0<k.esz):pz M ι w l k:=⟨h.esz,λ_=>h,λe=>by omega,h.frozen⟩
def oz.zero{M:Mem}{ι:Map}{w:World}{l:Loc}{k:aQ}(h:oz M ι w l k):k.esz=0/\k.arr=false:=by
 rcases h with ⟨n,nt,ps,as,c,tm,r,a,b,_⟩ | ⟨ents,entries,a,b,_⟩ | ⟨_,_,_,_,_,_,a,b,_⟩
 ·exact⟨a,b⟩
 ·exact⟨a,b⟩
 exact⟨a,b⟩
def oz.obj{M:Mem}{ι:Map}{w:World}{l:Loc}{k:aQ}(h:oz M ι w l k):(∃r,w.heap[l.b]?=some (.loop r))\/(∃es c,w.heap[l.b]?=some (.map es c)) \/∃a b c d e f,w.heap[l.b]?=some (.chan a b c d e f):=by
 rcases h with ⟨n,nt,ps,as,g,tm,r,_,_,_,h,_⟩ | ⟨ents,entries,_,_,_,h,_⟩ | ⟨_,_,_,_,_,_,_,_,_,h,_⟩
 ·exact .inl ⟨_,h⟩
 ·exact .inr (.inl ⟨_,_,h⟩)
 exact .inr (.inr ⟨_,_,_,_,_,_,h⟩)
def oz.same{M:Mem}{ι:Map}{w:World}{l:Loc}{k k':aQ}(h:oz M ι w l k)(f:k'.esz=k.esz)(i:k'.arr=k.arr)(g:k'.es=k.es):oz M ι w l k':=by
 rcases h with ⟨n,nt,ps,as,j,tm,r,d,b,a,e⟩ | ⟨ents,entries,d,b,a,e⟩ | ⟨c,s,r,m,buf,arr,d,b,a,e⟩
 ·exact .inl ⟨n,nt,ps,as,j,tm,r,f.trans d,i.trans b,g.trans a,e⟩
 ·exact .inr (.inl ⟨ents,entries,f.trans d,i.trans b,g.trans a,e⟩)
 exact .inr (.inr ⟨c,s,r,m,buf,arr,f.trans d,i.trans b,g.trans a,e⟩)
def oz.TG{M:Mem}{ι:Map}{w:World}{l:Loc}{k:aQ}(h:oz M ι w l k)(c:l.esz=0)(a : ∀o x,M l.b o=some x->False):pz M ι w l k:=
 ⟨by rw[c,h.zero.1],λe=>by have:=h.zero.1;omega,λ_=>h,λo x d=>(a o x d).elim⟩
def pz.pos{M:Mem}{ι:Map}{w:World}{l:Loc}{k:aQ}(h:pz M ι w l k)(a:k.arr=true):0<k.esz:=by
 rcases Ex k.esz with e | e
 ·have:=(h.objOk e).zero.2;rw[a]at this;cases this
 exact e
structure gA (M:Mem) (ι:Map) (g:cF) (w:World):Prop where
 mem : ∀b o x,M b o=some x->w.cell? ⟨b,o,none⟩=some x
 live : ∀r k,g r=some k ->∃l,ι r=some l/\pz M ι w l k
 inj : ∀r r' k k' l l',g r=some k->g r'=some k'->ι r=some l->ι r'=some l'->l.b=l'.b->r=r'
def gA.at{M:Mem}{ι:Map}{g:cF}{w:World}(f:gA M ι g w){r:Ref}{b:aQ}{l:Loc}(d:ι r=some l)(h:0<l.esz)(e:g r=some b):eW M ι w l b:=by
 obtain⟨i,a,c⟩:=f.live r b e;rw[d]at a;cases a;exact c.cellsOk (by have:=c.esz;omega)
def oz.mono{M M':Mem}{ι d:Map}{w w':World}{l:Loc}{k:aQ}(h:oz M ι w l k)(B : ∀b o x,M b o=some x->M' b o=some x)(f : ∀r l,ι r=some l->d r=some l)(A:w'.heap[l.b]?=w.heap[l.b]?):oz M' d w' l k:=by
 rcases h with ⟨n,nt,ps,as,F,tm,r,g,z,m,v,p,q,j,K,L,I⟩ | ⟨ents,entries,g,m,v,p,q,j⟩ | ⟨c,s,r,G,buf,arr,g,m,v,p,q,j⟩
 ·exact .inl ⟨n,nt,ps,as,F,tm,r,g,z,m,by rw[A];exact v,p,q,j,K,λt=>(L t).mono B d f,I⟩
 ·exact .inr (.inl ⟨ents,entries,g,m,v,by rw[A];exact p,q,λi y e a b=>by obtain⟨J,H,E,D,C⟩:=j i y e a b;exact⟨J,H,E,D,C.1.mono B d f,C.2⟩⟩)
 exact .inr (.inr ⟨c,s,r,G,buf,arr,g,m,v,by rw[A];exact p,q,λi x u a b=>(j i x u a b).mono B d f⟩)
structure uN (M:Mem) (ι:Map) (g:cF) (w:World) (M':Mem) (ι':Map) (g':cF) (w':World):Prop where
 os:w'.os=w.os
 tape:w'.tape=w.tape
 output:w'.output=w.output
 size:w.heap.size<=w'.heap.size
 chg : ∀b,b<w.heap.size->(∀r k l,g r=some k->ι r=some l->l.b≠b)->w'.heap[b]?=w.heap[b]?
 mem : ∀b o x,M b o=some x->M' b o=some x
 map : ∀r l,ι r=some l->ι' r=some l
 live : ∀r k l,g' r=some k->ι' r=some l->w.heap.size<=l.b \/∃r0 k0 l0,g r0=some k0/\ι r0=some l0/\l0.b=l.b
 new : ∀b o x,M' b o=some x->M b o=some x\/w.heap.size<=b \/∃r0 k0 l0,g r0=some k0/\ι r0=some l0/\l0.b=b
def uN.refl{M:Mem}{ι:Map}{g:cF}{w:World}:uN M ι g w M ι g w:=
 ⟨rfl,rfl,rfl,cH _,λ_ _ _=>rfl,λ_ _ _ h=>h,λ_ _ h=>h,λr k l h a => .inr ⟨r,k,l,h,a,rfl⟩,λ_ _ _ h => .inl h⟩
def uN.trans{M ι g w M' ι' g' w' M'' ι'' g'' w''}(h:uN M ι g w M' ι' g' w')(d:uN M' ι' g' w' M'' ι'' g'' w''):uN M ι g w M'' ι'' g'' w'':=by
 have f : ∀b,b<w.heap.size->(∀r k l,g r=some k->ι r=some l->l.b≠b) ->∀r k l,g' r=some k->ι' r=some l->l.b≠b:=by
  intro b u c r k l y p e;rcases h.live r k l y p with a | ⟨m,n,q,a,t,i⟩
  ·omega
  exact c m n q a t (i.trans e)
 refine⟨d.os.trans h.os,d.tape.trans h.tape,d.output.trans h.output,xv h.size d.size,?_,λb o x B=>d.mem b o x (h.mem b o x B),
  λr l p=>d.map r l (h.map r l p),?_,?_⟩
 ·intro b u c;rw[d.chg b (C1 u h.size) (f b u c),h.chg b u c]
 ·intro r k l y p;rcases d.live r k l y p with a | ⟨m,n,q,a,t,i⟩
  ·exact .inl (xv h.size a)
  rcases h.live m n q a t with j | ⟨r1,k1,z,j,v,A⟩
  ·exact .inl (i ▸ j)
  exact .inr ⟨r1,k1,z,j,v,A.trans i⟩
 intro b o x B;rcases d.new b o x B with a | a | ⟨m,n,q,a,t,i⟩
 ·exact h.new b o x a
 ·exact .inr (.inl (xv h.size a))
 rcases h.live m n q a t with j | ⟨r1,k1,z,j,v,A⟩
 ·exact .inr (.inl (i ▸ j))
 exact .inr (.inr ⟨r1,k1,z,j,v,A.trans i⟩)
def jK{w:World}{b o:Nat}{arr:Array Value}{T:TypeId}{fz:Nat × Nat}(h:w.heap[b]?=some (.cells arr T fz)):w.cell? ⟨b,o,none⟩=arr[o]?:=by
 simp[World.cell?,h]
def gM(b o n:Nat):(⟨b,o,none⟩:Addr).add n=⟨b,o+n,none⟩:=by
 unfold Addr.add;split<;>simp_all
def kF{a:Addr}(h:a.spot=none):a=⟨a.block,a.off,none⟩:=by cases a;simp_all
def vH{P:Program}{t:TypeId}{n:Nat}(h:aA P t=some n) : ∃i,P.info? t=some i/\i.size=n:=by
 simpa [aA] using h
def run_sizeOf{P:Program}{t:TypeId}{n:Nat}(h:aA P t=some n)(w:World):(sizeOf t).run P w = .ok n w:=by
 obtain⟨i,a,rfl⟩:=vH h;simp[sizeOf,typeInfo,a]
def bh{P:Program}{t:TypeId}{d:TypeDesc}(h:P.underlying t=some d)(w:World):(underlying t).run P w = .ok d w:=by
 simp[underlying,h]
def BH{P:Program}{t:TypeId}{b:Bool}(h:dL P t=some b)(w:World):(isAgg t).run P w = .ok b w:=by
 simp only[dL,bG]at h;obtain⟨d,a,rfl⟩:=h;simp only[isAgg,iQe,bh a,iQd];cases d<;>rfl
def yD{P:Program}{t:TypeId}{z:AV}(h:eX P t=some z)(w:World) : ∃u,(zeroValue t).run P w = .ok u w/\ofValue u=some z:=by
 simp only[eX,ib]at h;obtain⟨u,⟨i,b,a⟩,hu⟩:=h;exact⟨u,by simp[zeroValue,typeInfo,b,a],hu⟩
def Cells(M:Mem)(ι:Map)(w:World)(b o:Nat)(xs:List AV):Prop:=
 ∀(j:Nat) x,xs[j]?=some x ->∃u,w.cell? ⟨b,o+j,none⟩=some u/\u.oneCell'=true/\VR M ι x u
def Cells.values{M ι w b o}{xs:List AV}(h:Cells M ι w b o xs) : ∃us:List Value,mh M ι xs us/\(∀u∈us,u.oneCell'=true) /\∀(j:Nat) u,us[j]?=some u->w.cell? ⟨b,o+j,none⟩=some u:=by
 induction xs generalizing o with| nil=>exact⟨[],mh.nil,by simp,by simp⟩| cons x xs k=>
  obtain⟨u,hu,d,c⟩:=h 0 x rfl;obtain⟨us,i,e,g⟩:=k (o:=o+1) λj y f=>by
   have:=h (j+1) y (by simpa using f);rwa [show o+(j+1)=o+1+j by omega]at this
  refine⟨u :: us,mh.cons c i,by simpa [d] using e,?_⟩;intro j v a;cases j with
  | zero=>simp at a;subst a;exact hu
  | succ j=>simp at a;have:=g j v a;rwa [show o+(j+1)=o+1+j by omega]
def Cells.sub{M ι w b o}{xs:List AV}(h:Cells M ι w b o xs)(j n:Nat):Cells M ι w b (o+j) ((xs.drop j).take n):=by
 intro i x a;rw[AN]at a;split at a;·rw[Fp]at a;obtain⟨u,d,c⟩:=h _ x a;exact⟨u,by rwa [show o+j+i=o+(j+i) by omega],c⟩
 cases a
def wR{P:Program}{t:TypeId}{f:Bool}{n:Nat}(i:dL P t=some f)(p:aA P t=some n){M ι w b o}{cs:List AV}{j:Nat}{y:AV}
 (g:Cells M ι w b o cs)
 (e:(if f then (if j+n<=cs.length/\0<n then some (AV.agg ((cs.drop j).take n)) else none) else cs[j]?)=some y) :
 ∃u,(loadVar t ⟨b,o+j,none⟩).run P w = .ok u w/\VR M ι y u:=by
 cases f with| false=>simp at e;obtain⟨u,hu,_,l⟩:=g j y e;exact⟨u,by simp[loadVar,BH i,hu],l⟩| true=>
  simp at e;obtain⟨⟨q,x⟩,rfl⟩:=e;obtain⟨us,c,_,a⟩:=(g.sub j n).values;have d:us.length=n:=by rw[<-c.1];simp;omega
  refine⟨.agg us.toArray,?_,VR.qA.2 (by simpa using c)⟩;have h:=run_loadCells_list (P:=P) w ⟨b,o+j,none⟩ us (λk v m=>by rw[gM];exact a k v m);rw[d]at h;simp[loadVar,BH i,run_sizeOf p,h]
def eW.cell{M ι w l k}(h:eW M ι w l k)(i:Nat){e:AV}(d:k.es[i]?=some e):Cells M (k.map ι) w l.b (i * k.esz) e.cells:=by
 obtain⟨arr,T,fz,a,_,_,c⟩:=h.heap;intro j x g;obtain⟨u,hu,f,m⟩:=c i j e x d g;exact⟨u,by rw[jK a];exact hu,f,m⟩
def aQ.map_le(k:aQ)(ι:Map) : ∀r l,k.map ι r=some l->ι r=some l:=by
 intro r l h;unfold aQ.map at h;split at h;·cases h
 exact h
def Rh{P:Program}{t:TypeId}{c:Bool}{n:Nat}(v:dL P t=some c)(o:aA P t=some n){M ι g w}(p:gA M ι g w)
 {r:Ref} {i j:Nat} {k:aQ} {y:AV} {a:Value} (z:VR M ι (.ptr r i j) a) (l:g r=some k) (b:bL k.es i j n c=some y) :
 ∃u,(Instr.loadAt t a).run P w = .ok u w/\VR M ι y u:=by
 cases z with | ptr m q=>
 have f:=p.at m q l;unfold bL at b;split at b;·cases b
 rename_i e x;obtain⟨u,d,A⟩:=wR v o (f.cell i x) b;refine⟨u,?_,A.mono (λ_ _ _ h=>h) ι (k.map_le ι)⟩;rw[<-f.esz]at d;simp[Instr.loadAt,Instr.sureAddr,d]
def Cells.abM{M:Mem}{w:World}(l : ∀b o x,M b o=some x->w.cell? ⟨b,o,none⟩=some x){esz b o i:Nat}{es:List AV}{cell:Nat->Nat->Value}
 (d : ∀i j,i<es.length->j<esz->M b (o+(i * esz+j))=some (cell i j)/\(cell i j).oneCell'=true)
 (k : ∀e∈es,e.cells.length=esz) (h : ∀(i j:Nat) e x,es[i]?=some e->e.cells[j]?=some x->VR M dq x (cell i j)) {e:AV} (c:es[i]?=some e):Cells M dq w b (o+i * esz) e.cells:=by
 intro j x f;have g:j<esz:=by
  rw[<-k e (dJ c)];exact(ew.1 f).1
 have a:i<es.length:=(ew.1 c).1;refine⟨cell i j,?_,(d i j a g).2,h i j e x c f⟩;rw[show o+i * esz+j=o+(i * esz+j) by omega];exact l _ _ _ (d i j a g).1
def Wx{P:Program}{t:TypeId}{d:Bool}{n:Nat}(l:dL P t=some d)(g:aA P t=some n){M ι w}(k : ∀b o x,M b o=some x->w.cell? ⟨b,o,none⟩=some x)
 {esz i j:Nat} {es:List AV} {y:AV} {a:Value} (p:VR M ι (.iptr esz es i j) a) (c:bL es i j n d=some y) :
 ∃u,(Instr.loadAt t a).run P w = .ok u w/\VR M ι y u:=by
 cases p with | iptr cell m he h=>
 rename_i b o;unfold bL at c;split at c;·cases c
 rename_i e v;obtain⟨u,f,q⟩:=wR l g (Cells.abM k m he h v) c;refine⟨u,?_,q.up ι⟩;rw[show o+i * esz+j=o+(i * esz+j) by omega]at f;simp[Instr.loadAt,Instr.sureAddr,f]
structure Ek (w w':World) (o:Obj):Prop where
 os:w'.os=w.os
 tape:w'.tape=w.tape
 output:w'.output=w.output
 heap:w'.heap=w.heap.push o
def Ek.cell{w w':World}{o:Obj}(h:Ek w w' o){a:Addr}{x:Value}(b:w.cell? a=some x):w'.cell? a=some x:=by
 have c:=iQm w a b;unfold World.cell? at b ⊢;rw[h.heap,Ft c,<-kJ c];exact b
def Ek.old{w w':World}{o:Obj}(h:Ek w w' o)(b:Nat)(a:b<w.heap.size):w'.heap[b]?=w.heap[b]?:=by
 rw[h.heap,Ft a,<-kJ a]
def k6(ι:Map)(q:Ref)(l:Loc):Map:=λr=>if r=q then some l else ι r
def ma(g:cF)(q:Ref)(k:aQ):cF:=λr=>if r=q then some k else g r
def Gf{ι:Map}{q:Ref}{l:Loc}(b:ι q=none) : ∀r a,ι r=some a->k6 ι q l r=some a:=by
 intro r a h;unfold k6;split;·subst_vars;rw[b]at h;cases h
 exact h
def gA.YN{M ι g w}(h:gA M ι g w){q:Ref}(c:ι q=none):g q=none:=by
 cases b:g q with| none=>rfl| some k=>obtain⟨l,a,_⟩:=h.live q k b;rw[c]at a;cases a
def eW.lt{M ι w l k}(h:eW M ι w l k):l.b<w.heap.size:=by
 obtain⟨arr,T,fz,a,_⟩:=h.heap;exact(iO.1 a).1
def oz.lt{M ι w l k}(h:oz M ι w l k):l.b<w.heap.size:=by
 rcases h.obj with ⟨_,a⟩ | ⟨_,_,a⟩ | ⟨_,_,_,_,_,_,a⟩
 ·exact(iO.1 a).1
 ·exact(iO.1 a).1
 exact(iO.1 a).1
def pz.lt{M ι w l k}(h:pz M ι w l k):l.b<w.heap.size:=by
 rcases Ex k.esz with e | e
 ·exact(h.objOk e).lt
 exact(h.cellsOk e).lt
def pz.W8{M ι w l k}(h:pz M ι w l k){arr:Array Value}{T:TypeId}{fz:Nat × Nat}(c:w.heap[l.b]?=some (.cells arr T fz)):eW M ι w l k/\0<k.esz:=by
 rcases Ex k.esz with e | e
 ·rcases(h.objOk e).obj with ⟨_,a⟩ | ⟨_,_,a⟩ | ⟨_,_,_,_,_,_,a⟩
  ·rw[c]at a;cases a
  ·rw[c]at a;cases a
  rw[c]at a;cases a
 exact⟨h.cellsOk e,e⟩
def eW.aX{M ι w l k M' ι' w'}(h:eW M ι w l k)(B : ∀b o x,M b o=some x->M' b o=some x)(d : ∀r l,ι r=some l->ι' r=some l)
 (v:w'.heap[l.b]?=w.heap[l.b]?) (m : ∀o x,M' l.b o=some x->k.gJ=true/\o<k.es.length * k.esz):eW M' ι' w' l k:=by
 obtain⟨arr,T,fz,f,q,z,y⟩:=h.heap;refine⟨h.esz,⟨arr,T,fz,v ▸ f,q,z,?_⟩,h.len,h.cells,m⟩;intro i j e x n t;obtain⟨u,hu,p,g⟩:=y i j e x n t;refine⟨u,hu,p,g.mono B _ ?_⟩;intro r A a;unfold aQ.map at a ⊢;split;·rename_i c;rw[if_pos c]at a;exact a
 rename_i c;rw[if_neg c]at a;exact d r A a
def pz.aX{M ι w l k M' ι' w'}(h:pz M ι w l k)(f : ∀b o x,M b o=some x->M' b o=some x)(a : ∀r l,ι r=some l->ι' r=some l)
 (c:w'.heap[l.b]?=w.heap[l.b]?) (d : ∀o x,M' l.b o=some x->k.gJ=true/\o<k.es.length * k.esz):pz M' ι' w' l k:=
 ⟨h.esz,λe=>(h.cellsOk e).aX f a c d,λe=>(h.objOk e).mono f a c,d⟩
def gA.alloc{M ι g w}(y:gA M ι g w){q:Ref}(W:ι q=none){w':World}{arr:Array Value}{T:TypeId}{fz:Nat × Nat}(p:Ek w w' (.cells arr T fz))
 (k:aQ) (R:0<k.esz) (n:Nat) (G:arr.size=n * k.esz) (H:CR k.esz arr.size fz) (C:k.es.length<=n) (d : ∀e∈k.es,e.cells.length=k.esz)
 (L : ∀(i j:Nat) e x,k.es[i]?=some e->e.cells[j]?=some x ->∃u,arr[i * k.esz+j]?=some u/\u.oneCell'=true/\VR M (k.map ι) x u) :
 gA M (k6 ι q ⟨w.heap.size,k.esz,n⟩) (ma g q k) w'/\uN M ι g w M (k6 ι q ⟨w.heap.size,k.esz,n⟩) (ma g q k) w':=by
 have c:=Gf (l:=⟨w.heap.size,k.esz,n⟩) W;have A : ∀b o x,M b o=some x->b<w.heap.size:=λb o x h=>iQm w ⟨b,o,none⟩ (y.mem b o x h);have z:w'.heap[w.heap.size]?=some (.cells arr T fz):=by rw[p.heap];simp
 refine⟨⟨λb o x h=>p.cell (y.mem b o x h),?_,?_⟩,⟨p.os,p.tape,p.output,by rw[p.heap];simp,λb f _=>p.old b f,λ_ _ _ h=>h,c,?_,λ_ _ _ h => .inl h⟩⟩
 ·intro r k' m;unfold ma at m;split at m
  ·rename_i e;subst e;cases m;refine⟨⟨w.heap.size,k.esz,n⟩,by simp[k6],eW.TG ⟨rfl,⟨arr,T,fz,z,G,H,?_⟩,C,d,?_⟩ R⟩
   ·intro i j e x U V;obtain⟨u,hu,P,N⟩:=L i j e x U V;refine⟨u,hu,P,N.mono (λ_ _ _ h=>h) _ ?_⟩;intro r' S a;unfold aQ.map at a ⊢;split;·rename_i J;rw[if_pos J]at a;exact a
    rename_i J;rw[if_neg J]at a;exact c r' S a
   intro o x h;exact absurd (A _ _ _ h) (AH _)
  obtain⟨l,a,f⟩:=y.live r k' m;exact⟨l,c r l a,f.aX (λ_ _ _ h=>h) c (p.old _ f.lt) f.frozen⟩
 ·intro r r' k1 K O Q B D t v I;unfold ma at B D;unfold k6 at t v;by_cases E:r=q<;>by_cases F:r'=q;·rw[E,F]
  ·rw[if_pos E]at t;rw[if_neg F]at D v;obtain⟨l,a,f⟩:=y.live r' K D;rw[a]at v;cases v;cases t;exact absurd f.lt (by rw[<-I];exact AH _)
  ·rw[if_neg E]at B t;rw[if_pos F]at v;obtain⟨l,a,f⟩:=y.live r k1 B;rw[a]at t;cases t;cases v;exact absurd f.lt (by rw[I];exact AH _)
  rw[if_neg E]at B t;rw[if_neg F]at D v;exact y.inj r r' k1 K O Q B D t v I
 intro r k' l m a;unfold ma at m;unfold k6 at a;split at m;·rename_i e;rw[if_pos e]at a;cases a;exact .inl (cH _)
 rename_i e;rw[if_neg e]at a;exact .inr ⟨r,k',l,m,a,rfl⟩
def bO(w:World)(b:Nat)(o:Obj):World := { w with heap:=w.heap.setIfInBounds b o}
def gE{w:World}{b:Nat}{o:Obj}(a:b<w.heap.size):(bO w b o).heap[b]?=some o:=by simp[bO,a]
def eO{w:World}{b b':Nat}{o:Obj}(h:b≠b'):(bO w b o).heap[b']?=w.heap[b']?:=by simp[bO,B5 h]
def cB(arr:Array Value)(o:Nat)(us:List Value):Array Value:=(arr.toList.take o++us++arr.toList.drop (o+us.length)).toArray
def iR{arr:Array Value}{o:Nat}{us:List Value}(h:o+us.length<=arr.size)(i:Nat) :
 (cB arr o us)[i]?=if o<=i/\i<o+us.length then us[i - o]? else arr[i]?:=by
 unfold cB;simp only[OY];have c:(arr.toList.take o).length=o:=by simp;omega
 rcases eC i o with a | a
 ·rw[AM,kA (by omega),AN,if_pos a,if_neg (by omega)];simp
 rcases eC i (o+us.length)with b | b
 ·rw[AM,jP (by omega),kA (by omega),if_pos ⟨a,b⟩,c]
 rw[jP (by simp;omega),Fp,if_neg (by omega)];simp only[mI,c,Gz];congr 1;omega
def jB{arr:Array Value}{o:Nat}{us:List Value}(h:o+us.length<=arr.size):(cB arr o us).size=arr.size:=by
 simp[cB];omega
def ny{P:Program}{b:Nat}{T:TypeId}{fz:Nat × Nat}(o:Nat) : ∀(us:List Value)(i:Nat)(arr:Array Value)(w:World),w.heap[b]?=some (.cells arr T fz) ->
 o+i+us.length<=arr.size->(∀j,j<arr.size ->¬(fz.1<=j/\(j<fz.2\/fz.2<fz.1)))->(∀u∈us,u.oneCell'=true) ->
 (storeCells ⟨b,o,none⟩ us i).run P w = .ok () (bO w b (.cells (cB arr (o+i) us) T fz)):=by
 intro us;induction us with
 | nil=>
  intro i arr w a q m p;have g:=(iO.1 a).1;have e:cB arr (o+i) []=arr:=by simp[cB]
  have z:bO w b (.cells arr T fz)=w:=by
   have:w.heap.setIfInBounds b (.cells arr T fz)=w.heap:=by
    apply Fo;intro k;by_cases c:b=k;·subst c;rw[a,GB g]
    rw[B5 c]
   unfold bO;rw[this]
  simp[storeCells,e,z]
 | cons u us C=>
  intro i arr w a q m p;have g:=(iO.1 a).1;simp only[qO]at q;have x:w.cell? ⟨b,o+i,none⟩=some arr[o+i]:=by rw[jK a];exact kJ (by omega)
  have l:w.frozen? ⟨b,o+i,none⟩=false:=by
   have:=m (o+i) (by omega);simp only[World.frozen?,a];simp only[OX,iQc];by_cases h:fz.1<=o+i;·exact .inr λA=>this ⟨h,.inl A⟩
   exact .inl h
  have f:w.setCell ⟨b,o+i,none⟩ u=bO w b (.cells (arr.setIfInBounds (o+i) u) T fz):=by
   unfold World.setCell bO;congr 1;apply Fo;intro k;rw[GW];by_cases c:b=k;·subst c;rw[a,GB g];simp
   simp[c,B5 c]
  have d:=p u (by simp);have n:=C (i+1) (arr.setIfInBounds (o+i) u) (bO w b (.cells (arr.setIfInBounds (o+i) u) T fz)) (gE g) (by simp;omega) (by simpa using m) (λv y=>p v (by simp[y]));simp only[storeCells,iQe,gM,run_store P w _ u _ d,x,l,f];simp only[mJ, ↓reduceIte,iQd];rw[n];congr 1;unfold bO;simp only[Array.setIfInBounds_setIfInBounds];congr 3;apply Fo;intro k;rw[iR (by simp;omega),iR (by simp;omega)];by_cases B:k=o+i;·subst B;rw[if_neg (by omega),if_pos ⟨cH _,by simp⟩];simp[show o+i<arr.size by omega]
  by_cases t:o+(i+1)<=k/\k<o+(i+1)+us.length;·rw[if_pos t,if_pos (by simp;omega)];rw[show k - (o+i)=(k - (o+(i+1)))+1 by omega];simp
  rw[if_neg t,if_neg (by simp;omega)];rw[B5 (by omega)]
def gA.mark{M ι g w}(n:gA M ι g w){r:Ref}{k:aQ}{l:Loc}(u:g r=some k)(A:ι r=some l){arr:Array Value}{T:TypeId}{C fz:Nat × Nat}{w':World}
 (y:w.heap[l.b]?=some (.cells arr T C)) (m:w'=bO w l.b (.cells arr T fz)) (F:CR k.esz arr.size fz):gA M ι g w'/\uN M ι g w M ι g w':=by
 obtain⟨S,p,O⟩:=n.live r k u;rw[A]at p;cases p;have B:=O.lt;have f:w'.heap[l.b]?=some (.cells arr T fz):=by rw[m];exact gE B
 have c : ∀b,l.b≠b->w'.heap[b]?=w.heap[b]?:=λb a=>by rw[m];exact eO a
 have j : ∀b o,w'.cell? ⟨b,o,none⟩=w.cell? ⟨b,o,none⟩:=by
  intro b o;by_cases a:l.b=b;·subst a;rw[jK f,jK y]
  exact iQi (c b a)
 refine⟨⟨λb o x h=>by rw[j];exact n.mem b o x h,?_,n.inj⟩,?_⟩
 ·intro r' k1 t;obtain⟨z,q,d⟩:=n.live r' k1 t;refine⟨z,q,?_⟩;by_cases a:l.b=z.b
  ·obtain⟨i,E⟩:=d.W8 (a ▸ y);obtain⟨H,U,L,v,I,R,Q⟩:=i.heap;rw[<-a,y]at v;injection v with v;injection v with K J V
   subst K;subst J;have D:k1=k:=by
    have e:=n.inj r r' k k1 l z u t A q a;subst e;rw[u]at t;exact(Option.some.inj t).symm
   exact eW.TG ⟨d.esz,⟨arr,T,fz,by rw[<-a];exact f,I,by rw[D];exact F,Q⟩,i.len,i.cells,d.frozen⟩ E
  exact d.aX (λ_ _ _ h=>h) (λ_ _ h=>h) (c _ a) d.frozen
 refine⟨by rw[m];rfl,by rw[m];rfl,by rw[m];rfl,by rw[m];simp[bO],λb N G=>c b (G r k l u A),λ_ _ _ h=>h,λ_ _ h=>h,λr k l h P => .inr ⟨r,k,l,h,P,rfl⟩,λ_ _ _ h => .inl h⟩
def gA.write{M ι g w}(v:gA M ι g w){r:Ref}{k k':aQ}{l:Loc}(t:g r=some k)(F:ι r=some l)(V:0<l.esz){arr:Array Value}{T:TypeId}{fz:Nat × Nat}{w':World}
 (p:w'=bO w l.b (.cells arr T fz)) (a:k'.esz=k.esz) (P:k'.arr=k.arr) (J:arr.size=l.n * k.esz) (K:CR k.esz arr.size fz)
 (D:k'.es.length<=l.n) (c : ∀e∈k'.es,e.cells.length=k.esz) (m : ∀o x,M l.b o=some x->False)
 (Q : ∀(i j:Nat) e x,k'.es[i]?=some e->e.cells[j]?=some x ->∃u,arr[i * k.esz+j]?=some u/\u.oneCell'=true/\VR M (k'.map ι) x u) :
 gA M ι (ma g r k') w'/\uN M ι g w M ι (ma g r k') w':=by
 obtain⟨Y,B,N⟩:=v.live r k t;rw[F]at B;cases B;have G:=N.lt;refine⟨⟨?_,?_,?_⟩,?_⟩;·intro b o x h;have q:l.b≠b:=λe=>m o x (e ▸ h);rw[iQi (w:=w) (by rw[p];exact eO q)];exact v.mem b o x h
 ·intro r' k1 A;unfold ma at A;split at A;·rename_i e;subst e;cases A;refine⟨l,F,eW.TG ⟨by rw[N.esz,a],⟨arr,T,fz,by rw[p];exact gE G,by rw[a];exact J,by rw[a];exact K,by rw[a];exact Q⟩,D,by rw[a];exact c,λo x h=>(m o x h).elim⟩ (by rw[a,<-N.esz];exact V)⟩
  rename_i q;obtain⟨d,C,z⟩:=v.live r' k1 A;have I:l.b≠d.b:=λe=>q (v.inj r' r k1 k d l A t C F e.symm);exact⟨d,C,z.aX (λ_ _ _ h=>h) (λ_ _ h=>h) (by rw[p];exact eO I) z.frozen⟩
 ·intro r1 r2 k1 X d R y E U W S;have f : ∀ {r1:Ref} {k1:aQ},ma g r k' r1=some k1 ->∃k,g r1=some k:=by
   intro r1 k1 h;unfold ma at h;split at h;·rename_i e;exact⟨k,e ▸ t⟩
   exact⟨k1,h⟩
  obtain⟨_,H⟩:=f y;obtain⟨_,O⟩:=f E;exact v.inj r1 r2 _ _ d R H O U W S
 refine⟨by rw[p];rfl,by rw[p];rfl,by rw[p];rfl,by rw[p];simp[bO],?_,λ_ _ _ h=>h,λ_ _ h=>h,?_,λ_ _ _ h => .inl h⟩;·intro b _ L;rw[p];exact eO (L r k l t F)
 intro r1 k1 d y E;unfold ma at y;split at y;·rename_i e;subst e;exact .inr ⟨r1,k,d,t,E,rfl⟩
 exact .inr ⟨r1,k1,d,y,E,rfl⟩
end Go.Ab
namespace Go.Ab
open Classical
def Uo(ι:Map)(g:cF)(R:List Ref)(b o:Nat):Prop :=∃r∈R,∃k l,g r=some k/\ι r=some l/\l.b=b/\o<k.es.length * k.esz
noncomputable def ly(M:Mem)(ι:Map)(g:cF)(w:World)(R:List Ref):Mem:=λb o=>
 match M b o with
 | some x=>some x
 | none=>if Uo ι g R b o then w.cell? ⟨b,o,none⟩ else none
def xb{M ι g w R} : ∀b o x,M b o=some x->ly M ι g w R b o=some x:=by
 intro b o x h;simp[ly,h]
def zX{M ι g w R}(c : ∀b o x,M b o=some x->w.cell? ⟨b,o,none⟩=some x) : ∀b o x,ly M ι g w R b o=some x->w.cell? ⟨b,o,none⟩=some x:=by
 intro b o x h;unfold ly at h;split at h;·rename_i y a;cases h;exact c b o _ a
 split at h;·exact h
 cases h
def zY{M ι g w R b o x}(h:ly M ι g w R b o=some x):M b o=some x\/Uo ι g R b o:=by
 unfold ly at h;split at h;·rename_i y c;cases h;exact .inl c
 split at h;·rename_i a;exact .inr a
 cases h
def E2{n esz i j:Nat}(a:i<n)(b:j<esz):i * esz+j<n * esz:=by
 have:(i+1) * esz<=n * esz:=ng _ a;rw[mw]at this;omega
def IY{M ι g w R}(p:gA M ι g w){r:Ref}{k:aQ}{l:Loc}(A:r∈R)(n:g r=some k)(o:ι r=some l){i j:Nat}(m:i<k.es.length)(D:j<k.esz) :
 ∃u,ly M ι g w R l.b (i * k.esz+j)=some u/\u.oneCell'=true/\w.cell? ⟨l.b,i * k.esz+j,none⟩=some u /\
  ∀e x,k.es[i]?=some e->e.cells[j]?=some x->VR M (k.map ι) x u:=by
 obtain⟨G,d,f⟩:=p.live r k n;rw[o]at d;cases d;replace f:=f.cellsOk (by omega);obtain⟨arr,T,fz,v,H,I,E⟩:=f.heap;have c:k.es[i]?=some k.es[i]:=dy m;have B:=f.cells k.es[i] (je m);have a:k.es[i].cells[j]?=some (k.es[i].cells[j]'(by omega)):=dy _;obtain⟨u,hu,C,z⟩:=E i j _ _ c a;have h:w.cell? ⟨l.b,i * k.esz+j,none⟩=some u:=by rw[jK v];exact hu
 refine⟨u,?_,C,h,?_⟩
 ·unfold ly;split;·rename_i y F;have:=p.mem _ _ _ F;rw[h]at this;cases this;rfl
  rw[if_pos ⟨r,A,k,l,n,o,rfl,E2 m D⟩];exact h
 intro e x q t;rw[c]at q;cases q;rw[a]at t;cases t;exact z
def L9{g:cF}{n:Nat}{x y:AV}(h:view g (n+1) x=some y)(c : ∀cs,x ≠ .agg cs):x.cells=[x]/\y.cells=[y]:=by
 refine⟨by cases x<;>first | rfl | exact absurd rfl (c _),?_⟩;cases x with
 | agg cs=>exact absurd rfl (c cs)
 | v x=>simp[view]at h;subst h;rfl
 | tup cs=>simp only[view,bG]at h;obtain⟨_,_,rfl⟩:=h;rfl
 | cC=>simp[view]at h;subst h;rfl
 | iptr=>simp[view]at h;subst h;rfl
 | fsl=>simp[view]at h
 | bN r off len cap=>
  simp only[view]at h;split at h
  ·split at h;·cases h;rfl
   cases h
  cases h
 | dsl r off len cap=>
  simp only[view]at h;split at h
  ·split at h;·simp only[bG]at h;obtain⟨_,_,rfl⟩:=h;rfl
   cases h
  cases h
 | nsl=>simp[view]at h
 | ptr r i j=>
  simp only[view]at h;split at h
  ·split at h;·cases h;rfl
   simp only[bG]at h;obtain⟨_,_,rfl⟩:=h;rfl
  cases h
 | fn f a b=>
  simp only[view]at h;split at h;·cases h;rfl
  cases h
 | ifc t x=>simp only[view,bG]at h;obtain⟨_,_,rfl⟩:=h;rfl
 | yld=>simp[view]at h
 | mp=>simp[view]at h
 | ch=>simp[view]at h
 | Bc=>simp[view]at h
 | lp=>simp[view]at h
def zg{g:cF}{n:Nat}{e i:AV}(h:view g (n+1) e=some i) :
 i.cells.length=e.cells.length /\∀(j:Nat) b,i.cells[j]?=some b ->∃m x,m<=n+1/\e.cells[j]?=some x/\view g m x=some b /\∀r∈ah g m x,r∈ah g (n+1) e:=by
 by_cases d : ∃cs,e = .agg cs;·obtain⟨cs,rfl⟩:=d;simp only[view,bG]at h;obtain⟨ys,c,rfl⟩:=h;refine⟨by simp[AV.cells,gH c],?_⟩;intro j b a;obtain⟨x,d,p⟩:=pf c j b (by simpa [AV.cells] using a);refine⟨n,x,by omega,by simpa [AV.cells] using d,p,?_⟩;intro r f;simp only[ah,fq];exact⟨x,dJ d,f⟩
 obtain⟨k,l⟩:=L9 h (λcs o=>d ⟨cs,o⟩);refine⟨by rw[k,l];rfl,?_⟩;intro j b a;rw[l]at a;cases j with
 | zero=>simp at a;subst a;exact⟨n+1,e,cH _,by rw[k];rfl,h,λr f=>f⟩
 | succ j=>simp at a
def C5{M ι g w R}(hS:gA M ι g w) : ∀(n:Nat)(x y:AV)(u:Value),view g n x=some y->(∀r∈ah g n x,r∈R)->VR M ι x u->VR (ly M ι g w R) dq y u:=by
 intro n;induction n using Nat.strongRecOn with | ind n ih=>
 intro x y u h N P;cases n with
 | zero=>simp[view]at h
 | succ n=>
  have F : ∀ {cs ys:List AV} {us:List Value},cs.mapM (view g n)=some ys->(∀r∈cs.flatMap (ah g n),r∈R)->mh M ι cs us->mh (ly M ι g w R) dq ys us:=(by intro cs ys us I N hvs;refine⟨by rw[gH I];exact hvs.1,λi y' u hy O=>?_⟩;obtain⟨x,E,hf⟩:=pf I i y' hy;exact ih n (by omega) x y' u hf (λr L=>N r (fq.2 ⟨x,dJ E,L⟩)) (hvs.2 i x u E O));cases x with
  | v x=>simp[view]at h;subst h;cases P with | v hs=>exact .v hs
  | agg cs=>
   simp only[view,bG]at h;obtain⟨ys,I,rfl⟩:=h;cases P with | agg hl W=>
   exact VR.qA.2 (F I (by simpa [ah] using N) (VR.qA.1 (.agg hl W)))
  | tup cs=>
   simp only[view,bG]at h;obtain⟨ys,I,rfl⟩:=h;cases P with | tup h0 hl W=>
   rename_i vs;have:=F (us:=vs.toList) I (by simpa [ah] using N) ⟨by simpa using hl,λi x u E O=>W i x u E (by simpa using O)⟩;refine .tup ?_ (by simpa using this.1) λi c u hc O=>this.2 i c u hc (by simpa using O);intro e;subst e;have G:=gH I;exact h0 (C4 (by simpa using G.symm))
  | cC esz es cap=>
   simp[view]at h;subst h;cases P with | cC cell hs hc Q hm H W=>
   exact(VR.cC (M:=M) (ι:=dq) cell hs hc Q hm H W).mono xb _ (λ_ _ h=>h)
  | iptr esz es i j=>
   simp[view]at h;subst h;cases P with | iptr cell hm H W=>
   exact(VR.iptr (M:=M) (ι:=dq) cell hm H W).mono xb _ (λ_ _ h=>h)
  | fsl=>simp[view]at h
  | bN r off len cap=>
   simp only[view]at h;split at h
   ·rename_i k Q;split at h
    ·rename_i W;cases h;obtain⟨B,D⟩:=W;cases P with | bN L hb hs ha hc hn hkk V=>
     rename_i l a c;have Y:r∈R:=N r (by simp[ah]);have q:=hS.at L V Q;have S:((k.es.drop off).take len).length=len:=by simp;omega
     have hat : ∀i,i<len->((k.es.drop off).take len)[i]?=k.es[off+i]?:=(by intro i d;rw[AN,if_pos d,Fp]);have J:0<len->a.off=off * k.esz:=by
      intro h0;rcases ha with h | h
      ·omega
      rw[h,q.esz]
     have key : ∀i j,i<len->j<k.esz ->∃u,ly M ι g w R a.block (a.off+(i * k.esz+j))=some u/\u.oneCell'=true /\∀e x,k.es[off+i]?=some e->e.cells[j]?=some x->VR M (k.map ι) x u:=(by intro i j d C;obtain⟨u,G,K,_,h3⟩:=IY hS Y Q L (i:=off+i) (j:=j) (by omega) C;refine⟨u,?_,K,h3⟩;rw[J (by omega),hb,show off * k.esz+(i * k.esz+j)=(off+i) * k.esz+j by rw[mw];omega];exact G);let cell:Nat->Nat->Value:=λi j=>(ly M ι g w R a.block (a.off+(i * k.esz+j))).getD undef
     have:=VR.cC (M:=ly M ι g w R) (ι:=dq) (esz:=k.esz) (es:=(k.es.drop off).take len) (cap:=cap) (a:=a) (c:=c) cell (.inl hs) (by omega) hkk
      (by
       intro i j d C;rw[S]at d;obtain⟨u,G,K,_⟩:=key i j d C;simp[cell,G,K])
      (by
       intro e H;exact q.cells e (Fq (ye H)))
      (by
       intro i j e x d E;have z:i<len:=by have:=(ew.1 d).1;omega
       rw[hat i z]at d;have C:j<k.esz:=(by rw[<-q.cells e (dJ d)];exact(ew.1 E).1);obtain⟨u,G,K,h3⟩:=key i j z C;have:=h3 e x d E;rw[aQ.map,if_pos B]at this;simp only[cell,G,cI];exact this.mono xb _ (λ_ _ h=>h))
     rw[S]at this;exact this
    cases h
   cases h
  | nsl=>simp[view]at h
  | dsl r off len cap=>
   simp only[view]at h;split at h
   ·rename_i k Q;split at h
    ·rename_i W;obtain⟨B,D⟩:=W;simp only[bG]at h;obtain⟨es',p,rfl⟩:=h;cases P with | dsl L hb hs ha hc hn hkk V=>
     rename_i l a c;have Y:r∈R:=N r (by simp[ah]);have q:=hS.at L V Q;have hel:=gH p;have S:((es'.drop off).take len).length=len:=by simp;omega
     have hat : ∀i,i<len->((es'.drop off).take len)[i]?=es'[off+i]?:=(by intro i d;rw[AN,if_pos d,Fp]);have J:0<len->a.off=off * k.esz:=by
      intro h0;rcases ha with h | h
      ·omega
      rw[h,q.esz]
     have key : ∀i j,i<len->j<k.esz ->∃u,ly M ι g w R a.block (a.off+(i * k.esz+j))=some u/\u.oneCell'=true /\∀e x,k.es[off+i]?=some e->e.cells[j]?=some x->VR M (k.map ι) x u:=(by intro i j d C;obtain⟨u,G,K,_,h3⟩:=IY hS Y Q L (i:=off+i) (j:=j) (by omega) C;refine⟨u,?_,K,h3⟩;rw[J (by omega),hb,show off * k.esz+(i * k.esz+j)=(off+i) * k.esz+j by rw[mw];omega];exact G);let cell:Nat->Nat->Value:=λi j=>(ly M ι g w R a.block (a.off+(i * k.esz+j))).getD undef
     cases n with
     | zero=>
      cases Z:k.es with| nil=>rw[Z]at p D;simp at p D;subst p;obtain⟨rfl,rfl⟩:=D;have:=VR.cC (M:=ly M ι g w R) (ι:=dq) (esz:=k.esz) (es:=[]) (cap:=cap) (a:=a) (c:=c) cell (.inr rfl) (by simp) hkk (by intro i j d;simp at d) (by simp) (by intro i j e x d;simp at d);simpa using this| cons e es=>rw[Z]at p;simp[view]at p
     | succ n=>
      have:=VR.cC (M:=ly M ι g w R) (ι:=dq) (esz:=k.esz) (es:=(es'.drop off).take len) (cap:=cap) (a:=a) (c:=c) cell (.inl hs) (by omega) hkk
       (by
        intro i j d C;rw[S]at d;obtain⟨u,G,K,_⟩:=key i j d C;simp[cell,G,K])
       (by
        intro e' he';have he'':=Fq (ye he');obtain⟨T,z,rfl⟩:=qP he'';obtain⟨e,H,hf⟩:=pf p T _ (dy z);rw[(zg hf).1];exact q.cells e (dJ H))
       (by
        intro T j' e' x' z hx';have hil:T<len:=by have:=(ew.1 z).1;omega
        rw[hat T hil]at z;obtain⟨e,H,hf⟩:=pf p (off+T) e' z;obtain⟨m,x,hm,E,hfx,X⟩:=(zg hf).2 j' x' hx';have C:j'<k.esz:=(by rw[<-q.cells e (dJ H)];exact(ew.1 E).1);obtain⟨u,G,K,h3⟩:=key T j' hil C;have U:=h3 e x H E;rw[aQ.map,if_neg (by simp[B])]at U;simp only[cell,G,cI];refine ih m (by omega) x x' _ hfx ?_ U;intro r' hr';refine N r' ?_;simp only[ah,Q,eD,fq];exact .inr ⟨e,dJ H,X r' hr'⟩)
      rw[S]at this;exact this
    cases h
   cases h
  | ptr r i j=>
   cases P with | ptr L V=>
   rename_i l;simp only[view]at h;split at h
   ·rename_i k Q;have Y:r∈R:=N r (by simp[ah]);have q:=hS.at L V Q;let cell:Nat->Nat->Value:=λi j=>(ly M ι g w R l.b (0+(i * k.esz+j))).getD undef
    have A : ∀i j,i<k.es.length->j<k.esz->ly M ι g w R l.b (0+(i * k.esz+j))=some (cell i j)/\(cell i j).oneCell'=true /\∀e x,k.es[i]?=some e->e.cells[j]?=some x->VR M (k.map ι) x (cell i j):=(by intro i j d C;obtain⟨u,G,K,_,h3⟩:=IY hS Y Q L d C;rw[uR]at *;simp only[cell,uR,G,cI];exact⟨trivial,K,h3⟩);split at h
    ·rename_i B;cases h;have:=VR.iptr (M:=ly M ι g w R) (ι:=dq) (esz:=k.esz) (es:=k.es) (i:=i) (j:=j) (b:=l.b) (o:=0) cell (λi j d C=>⟨(A i j d C).1,(A i j d C).2.1⟩) q.cells
      (by
       intro i j e x d E;have z:=(ew.1 d).1;have C:j<k.esz:=by
        rw[<-q.cells e (dJ d)];exact(ew.1 E).1
       have:=(A i j z C).2.2 e x d E;rw[aQ.map,if_pos B]at this;exact this.mono xb _ (λ_ _ h=>h))
     rw[uR]at this;rw[q.esz];exact this
    rename_i B;simp only[bG]at h;obtain⟨es',p,rfl⟩:=h;cases n with
    | zero=>
     cases Z:k.es with| nil=>rw[Z]at p;simp at p;subst p;have:=VR.iptr (M:=ly M ι g w R) (ι:=dq) (esz:=k.esz) (es:=[]) (i:=i) (j:=j) (b:=l.b) (o:=0) cell (by intro i j d;simp at d) (by simp) (by intro i j e x d;simp at d);rw[uR]at this;rw[q.esz];exact this| cons e es=>rw[Z]at p;simp[view]at p
    | succ n=>
     have D:=gH p;have:=VR.iptr (M:=ly M ι g w R) (ι:=dq) (esz:=k.esz) (es:=es') (i:=i) (j:=j) (b:=l.b) (o:=0) cell
      (λi j d C=>⟨(A i j (D ▸ d) C).1,(A i j (D ▸ d) C).2.1⟩)
      (by
       intro e' he';obtain⟨T,z,rfl⟩:=qP he';obtain⟨e,H,hf⟩:=pf p T _ (dy z);rw[(zg hf).1];exact q.cells e (dJ H))
      (by
       intro T j' e' x' z hx';obtain⟨e,H,hf⟩:=pf p T e' z;obtain⟨m,x,hm,E,hfx,X⟩:=(zg hf).2 j' x' hx';have hlt:=(ew.1 H).1;have C:j'<k.esz:=by
        rw[<-q.cells e (dJ H)];exact(ew.1 E).1
       have U:=(A T j' hlt C).2.2 e x H E;rw[aQ.map,if_neg B]at U;refine ih m (by omega) x x' _ hfx ?_ U;intro r' hr';refine N r' ?_;simp only[ah,Q,if_neg B,eD,fq];exact .inr ⟨e,dJ H,X r' hr'⟩)
     rw[uR]at this;rw[q.esz];exact this
   cases h
  | fn f a b=>
   simp only[view]at h;split at h
   ·rename_i a' b' ha' hb';cases h;cases P with | fn hla hlb hha hhb=>
    rename_i va vb;simp only[ah,iN]at N;have G:=F (us:=va.toList) ha' (λr L=>N r (.inl L)) ⟨by simpa using hla,λi x u E O=>hha i x u E (by simpa using O)⟩;have K:=F (us:=vb.toList) hb' (λr L=>N r (.inr L)) ⟨by simpa using hlb,λi x u E O=>hhb i x u E (by simpa using O)⟩;exact .fn (by simpa using G.1) (by simpa using K.1) (λi c u hc O=>G.2 i c u hc (by simpa using O)) (λi c u hc O=>K.2 i c u hc (by simpa using O))
   cases h
  | ifc t x=>
   simp only[view,bG]at h;obtain⟨y,hy,rfl⟩:=h;cases P with | ifc P=>
   exact .ifc (ih n (by omega) x y _ hy (by simpa [ah] using N) P)
  | yld=>simp[view]at h
  | mp=>simp[view]at h
  | ch=>simp[view]at h
  | Bc=>simp[view]at h
  | lp=>simp[view]at h
def uK(g:cF)(R:List Ref):cF:=λr=>if r∈R then (g r).map λk => { k with gJ:=true} else g r
def Bm{M ι g w R}(D:gA M ι g w):gA (ly M ι g w R) ι (uK g R) w/\uN M ι g w (ly M ι g w R) ι (uK g R) w:=by
 have c : ∀ {r k},uK g R r=some k ->∃a,g r=some a/\k = { a with gJ:=k.gJ}/\(r∈R->k.gJ=true)/\(a.gJ=true->k.gJ=true):=by
  intro r k h;unfold uK at h;split at h;·simp only[bG]at h;obtain⟨a,G,rfl⟩:=h;exact⟨a,G,rfl,λ_=>rfl,λ_=>rfl⟩
  rename_i E;exact⟨k,h,rfl,λI=>absurd I E,λh=>h⟩
 refine⟨⟨zX D.mem,?_,?_⟩,⟨rfl,rfl,rfl,cH _,λ_ _ _=>rfl,xb,λ_ _ h=>h,?_,?_⟩⟩
 ·intro r k h;obtain⟨a,q,F,E,hm⟩:=c h;obtain⟨l,y,d⟩:=D.live r a q;refine⟨l,y,?_⟩;have v:k.es=a.es:=by rw[F]
  have n:k.esz=a.esz:=(by rw[F]);have K:k.arr=a.arr:=(by rw[F]);have p : ∀o x,ly M ι g w R l.b o=some x->k.gJ=true/\o<k.es.length * k.esz:=by
   intro o x B;rw[v,n];rcases zY B with h | ⟨r',z,k',A,f,m,t,C⟩
   ·exact⟨hm (d.frozen o x h).1,(d.frozen o x h).2⟩
   have e:=D.inj r' r k' a A l f q m y t;subst e;rw[q]at f;cases f;exact⟨E z,C⟩
  refine⟨by rw[n];exact d.esz,λH=>?_,λH=>?_,p⟩
  ·replace d:=d.cellsOk (by rw[<-n];exact H);obtain⟨arr,T,fz,L,Q,O,P⟩:=d.heap;refine⟨by rw[n];exact d.esz,⟨arr,T,fz,L,by rw[n];exact Q,by rw[n];exact O,?_⟩,by rw[v];exact d.len,by rw[v,n];exact d.cells,p⟩;intro i j e x J B;rw[v]at J;rw[n];obtain⟨u,hu,C,N⟩:=P i j e x J B;refine⟨u,hu,C,?_⟩;have:k.map ι=a.map ι:=by unfold aQ.map;rw[K]
   rw[this];exact N.mono xb _ (λ_ _ h=>h)
  exact((d.objOk (by rw[<-n];exact H)).mono (M':=ly M ι g w R) xb (λ_ _ h=>h) rfl).same n K v
 ·intro r r' k k' l A h I y m d;obtain⟨a,q,_⟩:=c h;obtain⟨k1,v,_⟩:=c I;exact D.inj r r' _ _ l A q v y m d
 ·intro r k l h y;obtain⟨a,q,_⟩:=c h;exact .inr ⟨r,a,l,q,y,rfl⟩
 intro b o x B;rcases zY B with h | ⟨r',z,k',A,f,m,t,C⟩
 ·exact .inl h
 exact .inr (.inr ⟨r',k',A,f,m,t⟩)
def NQ{g:cF}{R:List Ref}(h:kO g R=true):uK g R=g:=by
 funext r;unfold uK;split
 ·rename_i a;simp only[kO,gx]at h;have:=h r a;cases b:g r with
  | none=>rfl
  | some k=>rw[b]at this;simp at this;simp[<-this]
 rfl
end Go.Ab
