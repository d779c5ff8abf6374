/-
  The abstract machine: a deterministic evaluator of the model's code over data, in which a slice that nobody writes is a list. No statement of a seat is proved here.
-/
import Derived.WalkKit
import Derived.RangeFuncIn
import Derived.RangeFuncRecord
import Derived.RangeFuncLeaves
import Derived.OrdersIn
set_option linter.unusedVariables false
set_option linter.unusedSimpArgs false
set_option linter.unusedSectionVars false
set_option linter.unnecessarySimpa false
set_option linter.defProp false
namespace Go.Ab
set_option linter.defProp false
def iQa:=@Go.IntWalk.i64_in
def iQb:=@decide_eq_true_eq
def iQc:=@decide_eq_false_iff_not
def iQd:=@Go.Result.andThen_ok
def iQe:=@if_false
def iQf:=@congrArg
def iQg:=@Go.Sem.run_bind
def iQh:=@decide_eq_false
def iQi:=@decide_eq_true
def iQj:=@Go.Sem.run_pure
def iQk:=@Go.World.cell?_of_block
def iQl:=@beq_iff_eq
def iQm:=@Go.World.block_lt_of_cell?
def iQn:=@Go.Steps.trans
def iQo:=@Go.step_lone_go
def iQp:=@cond_true
def iQq:=@Go.Frame.finish_atR
def iQr:=@and_true
def iQs:=@true_and
def iQt:=@cond_false
def iQu:=@or_false
def iQv:=@Go.IntKind.wrap_i32
def iQw:=@Go.mem_ready
def iQx:=@Go.StepsIn.steps
def iQy:=@List.takeWhile_cons_of_pos
def iQz:=@List.takeWhile_cons_of_neg
def iQA:=@List.exists_cons_of_ne_nil
def iQB:=@List.getD_eq_getElem?_getD
def iQC:=@of_decide_eq_true
def iQD:=@Go.run_convert_bytes_string
def iQE:=@Go.World.putObj_heap_other
def iQF:=@List.getElem_cons_succ
def iQG:=@decide_true
def iQH:=@UInt32.toNat_ofBitVec
def iQI:=@UInt8.lt_iff_toNat_lt
def iQJ:=@UInt8.le_iff_toNat_le
def iQK:=@List.countP_le_length
def iQL:=@Nat.div_lt_iff_lt_mul
def iQM:=@Go.run_sliceBound
def iQN:=@Go.size_zeroCells
def iQO:=@UInt8.toNat_ofBitVec
def iQP:=@BitVec.ofInt_natCast
def iQQ:=@List.drop_one
def iQR:=@Array.toList_zipIdx
def iQS:=@List.Sublist.append
def iQT:=@Bool.true_or
def iQU:=@List.map_nil
def iQV:=@Int.zero_mul
def iQW:=@Int.le_refl
def bU := @Option.map_eq_some_iff
def bI := @Bool.and_eq_true
def eu := @List.getElem?_eq_getElem
def dM := @List.take_of_length_le
def fP := @Option.ite_none_right_eq_some
def fg := @List.getElem?_eq_some_iff
def jb := @Option.bind_eq_some_iff
def fe := @Option.bind_some
def kY := @Array.getElem?_eq_getElem
def ja := @List.mem_of_getElem?
def cU := @Option.getD_some
def bM := @Nat.le_refl
def jx := @Array.getElem?_eq_some_iff
def iB := @Option.isSome_iff_exists
def eS := @Option.some.injEq
def kj := @List.getElem?_append_right
def fj := @List.getElem_mem
def gB := @Bool.false_eq_true
def kR := @List.getElem?_append_left
def ij := @Bool.not_eq_true'
def iX := @List.length_append
def gP := @List.all_eq_true
def lF := @Nat.eq_of_beq_eq_true
def kQ := @List.mem_cons_of_mem
def j1 := @List.mem_cons_self
def fR := @List.mem_cons
def jP := @List.length_cons
def jO := @List.mem_flatMap
def fQ := @Nat.lt_or_ge
def jf := @Bool.or_eq_true
def ig := @Bool.true_and
def mW := @Nat.mul_le_mul_right
def lX := @List.mem_singleton
def lE := @List.length_nil
def jw := @Nat.le_of_lt
def nM := @List.getElem?_map
def nL := @List.flatMap_cons
def si := @List.length_eq_zero_iff
def mS := @List.mem_append
def qC := @List.getElem_of_mem
def pO := @Bool.not_eq_false'
def oM := @List.length_take
def oZ := @List.length_drop
def oo := @List.mapM_cons
def Ak := @List.eq_nil_of_length_eq_zero
def mo := @List.mem_map
def uu := @Option.bind_eq_bind
def sh := @List.append_assoc
def oY := @Bool.false_and
def Aj := @Int.tmod_eq_emod_of_nonneg
def Ch := @Array.getElem?_setIfInBounds_ne
def mR := @Nat.add_mul
def pN := @List.drop_drop
def sg := @Nat.lt_succ_self
def sf := @List.nil_append
def GN := @Array.getElem?_setIfInBounds_self_of_lt
def yf := @List.getElem?_eq_none
def th := @Option.pure_def
def tg := @List.append_nil
def ye := @Bool.and_eq_true_iff
def yd := @List.length_pos_iff
def Du := @Array.getD_eq_getD_getElem?
def Ai := @List.mem_of_mem_take
def vQ := @Option.getD_none
def wV := @Classical.not_not
def tf := @Prod.mk.injEq
def Ah := @Nat.pos_of_ne_zero
def wU := @List.foldl_cons
def AF := @List.getElem?_take
def AE := @Nat.lt_of_lt_of_le
def yc := @List.cons.injEq
def Cg := @Array.length_toList
def Dt := @List.take_append_drop
def Ds := @List.length_replicate
def xZ := @List.mem_range
def Ag := @UInt8.toNat_inj
def vP := @Nat.zero_add
def Cf := @List.getElem?_drop
def vO := @Nat.sub_self
def Af := @List.take_left'
def FA := @Array.getElem?_push_lt
def Fz := @List.drop_of_length_le
def Dr := @Int.toNat_of_nonneg
def wT := @Nat.le_trans
def Fy := @List.mem_of_mem_drop
def Ce := @List.take_length
def Fx := @List.getElem?_range
def Mt := @Array.eq_empty_of_size_eq_zero
def GM := @Array.getElem?_toList
def GL := @Bool.and_eq_false_iff
def Fw := @Array.ext_getElem?
def Dq := @List.not_mem_nil
def Dp := @Int.natCast_zero
def JZ := @Int.eq_ofNat_of_zero_le
def Dn := @List.drop_left'
def AD := @Nat.add_zero
def Ae := @Nat.zero_le
def AB := @Int.pow_succ
def Cd := @Nat.lt_irrefl
def Cc := @Bool.false_or
def G6 := @Int.tdiv_eq_ediv_of_nonneg
def EF := @List.length_singleton
def EE := @List.set_append_right
def zm := @Bool.not_false
def AN := @Option.map_none
def AM := @List.length_map
def AL := @List.map_append
def AK := @List.nodup_cons
def CO := @Nat.lt_succ_of_lt
def zl := @Sum.inr.injEq
def zk := @List.all_cons
def zj := @List.map_cons
def ED := @List.flatMap_append
def G5 := @List.getElem?_set_self
def EC := @Nat.eq_zero_or_pos
def EB := @List.set_cons_zero
def G4 := @Nat.le_of_ble_eq_true
def G3 := @Array.getElem?_modify
def AJ := @Sum.inl.injEq
def AI := @Bool.not_true
def EA := @Nat.lt_trichotomy
def Ez := @List.take_add_one
def K9 := @List.drop_eq_getElem_cons
def G2 := @List.getElem?_set_ne
def G1 := @Bool.or_eq_false_iff
def CN := @Bool.and_false
def AH := @Bool.or_self
def Ey := @List.flatMap_nil
def AG := @Int.add_zero
def Ex := @List.drop_length
def G0 := @Bool.or_eq_true_iff
def K8 := @List.getElem?_cons_zero
def K7 := @Nat.add_sub_cancel_left
def tC := @Ne.symm
def GZ := @BitVec.toNat_ofInt
def Ew := @Nat.min_eq_left
def K6 := @UInt32.toNat_shiftLeft
def O5 := @Option.ite_none_left_eq_some
def K5 := @List.contains_iff_mem
def Ev := @List.drop_zero
def K4 := @List.mem_append_left
def GY := @Option.bind_none
def O4 := @Array.getElem?_append_left
def Eu := @Bool.and_self
def K3 := @List.mem_map_of_mem
def K2 := @List.replicate_zero
def O3 := @List.extract_eq_take_drop
def O2 := @List.mem_or_eq_of_mem_set
def O1 := @Array.getElem?_replicate
def O0 := @List.filter_cons_of_neg
def OZ := @List.getElem?_cons_succ
def K1 := @List.ext_getElem?
def K0 := @Int.toNat_natCast
def KZ := @List.nodup_append
def Et := @Nat.le_succ
def GX := @Nat.add_assoc
def GW := @Bool.and_true
def KY := @Nat.shiftLeft_eq
def KX := @List.any_eq_true
def KW := @Array.toList_inj
def KV := @Nat.mod_eq_of_lt
def Uk := @List.take_succ_eq_append_getElem
def KU := @List.cons_append
def OY := @List.getElem?_toArray
def Uj := @List.replicate_append_replicate
def KT := @Option.some.inj
def KS := @List.mem_filter
def Ui := @List.eq_nil_iff_forall_not_mem
def OX := @Array.toList_extract
def GV := @Nat.succ_mul
def GU := @List.map_map
def OW := @List.range_eq_range'
def KR := @Int.natCast_pow
def GS := @Int.lt_or_le
def OV := @List.replicate_succ
def Uh := @List.dropLast_concat_getLast
def GR := @Nat.le_zero
def GQ := @Nat.sub_mul
def OU := @Nat.lt_or_gt_of_ne
def OT := @Array.foldl_toList
def Ug := @Nat.two_pow_add_eq_or_of_lt
def OS := @List.zip_cons_cons
def KQ := @List.mapM_nil
def KP := @List.any_cons
def OR := @Int.emod_eq_of_lt
def GP := @Array.ext'
def GO := @Nat.not_lt
def OQ := @UInt32.toNat_inj
def KO := @List.map_set
def KN := @Nat.mul_comm
def KM := @List.all_nil
def OP := @Nat.min_eq_right
def KL := @Int.zero_add
structure Ref where
 d:Nat
 t:Nat
 g:Nat
 k:Nat:=0
deriving DecidableEq,Inhabited
inductive AV where
 | v (x:Value)
 | agg (cs:List AV)
 | tup (vs:List AV)
 | bE (esz:Nat) (es:List AV) (cap:Option Nat)
 | ct (r:Ref) (off len:Nat) (cap:Option Nat)
 | dsl (r:Ref) (off len:Nat) (cap:Option Nat)
 | nsl (esz:Nat) (es:List AV) (cap:Option Nat)
 | fsl (esz:Nat) (es:List AV) (cap:Option Nat)
 | ptr (r:Ref) (i j:Nat)
 | iptr (esz:Nat) (es:List AV) (i j:Nat)
 | fn (f:Fn) (first captured:List AV)
 | ifc (t:TypeId) (x:AV)
 | yld (r:Ref)
 | mp (r:Ref)
 | ch (r:Ref)
 | Az (u:Value)
 | lp (f:FuncId) (nt:Nat) (ps:List Tmp) (assign body:Code) (tm:List AV)
def AV.undef:AV := .v Go.undef
instance:Inhabited AV:=⟨AV.undef⟩
def AV.cells:AV->List AV
 | .agg cs=>cs
 | x=>[x]
def AV.one:AV->Bool
 | .v (.tuple _) | .v (.agg _) | .agg _ | .tup _ | .fsl .. | .nsl .. | .lp .. => false
 | _=>true
structure bC where
 esz:Nat
 es:List AV
 arr:Bool
 jq:Bool
deriving Inhabited
def scalar:Value->Bool
 | .bool _ | .int _ _ | .float _ _ | .complex _ _ _ | .string _=>true
 | .pointer none | .slice none 0 0 | .map none | .chan none | .nilFunc | .nilIface=>true
 | .tuple a=>a.isEmpty
 | _=>false
def jj(x:Value):Option AV:=if scalar x then some (.v x) else none
def ofValue:Value->Option AV
 | .agg cs=>(cs.toList.mapM jj).map .agg
 | .func f first captured=>if first.isEmpty&&captured.isEmpty then some (.fn f [] []) else none
 | .tuple a=>if a.isEmpty then some (.v (.tuple #[])) else (a.toList.mapM jj).map .tup
 | .iface t x=>(jj x).map (.ifc t)
 | x=>jj x
def J2:AV->Option Value
 | .v x=>some x
 | _=>none
def k7:AV->Option Value
 | .v x=>some x
 | .agg cs=>(cs.mapM J2).map λl => .agg l.toArray
 | _=>none
def bO{b:Type}(P:Program):Sem b->Option b
 | .pure a=>some a
 | .program k=>bO P (k P)
 | .mark _ k=>bO P k
 | _=>none
abbrev aa:=List (Ref × Option bC)
abbrev dv:=Ref->Option bC
def aa.get:aa->Ref->Option bC
 | [],_=>none
 | (r',b) :: h,r=>if r'=r then b else aa.get h r
def aa.gen:aa->Nat->Nat->Nat
 | [],_,_=>0
 | (r',_) :: h,d,t=>if r'.d=d/\r'.t=t then r'.g+1 else aa.gen h d t
def aa.put:aa->Ref->Option bC->aa
 | [],r,b=>[(r,b)]
 | (r',a) :: h,r,b=>if r'=r then (r,b) :: h else (r',a) :: aa.put h r b
def dE:List AV->Nat->AV
 | [],_=>AV.undef
 | x :: _,0=>x
 | _ :: l,n+1=>dE l n
def CV:List AV->Nat->AV->List AV
 | [],0,v=>[v]
 | [],n+1,v=>AV.undef :: CV [] n v
 | _ :: l,0,v=>v :: l
 | x :: l,n+1,v=>x :: CV l n v
structure St where
 tm:List AV
 hp:aa
def aV(P:Program)(t:TypeId):Option Nat:=(P.info? t).map (·.size)
def nT(P:Program)(t:TypeId):Option Nat:=(P.info? t).map (·.bytes)
def fk(P:Program)(t:TypeId):Option AV:=((P.info? t).bind (·.zero)).bind ofValue
def fK(P:Program)(t:TypeId):Option Bool:=(P.underlying t).map fun | .struct _ | .array _ _=>true | _=>false
def tJ(P:Program)(t:TypeId)(f:Nat):Option (Nat × TypeId):=
 match P.underlying t with
 | some (.struct a)=>(a[f]?).map λx=>(x.offset,x.type)
 | _=>none
def eK(P:Program)(t:TypeId):Option TypeId:=
 match P.underlying t with
 | some (.slice e)=>some e
 | _=>none
def mf(P:Program)(t:TypeId):Option (Nat × TypeId):=
 match P.underlying t with
 | some (.array n e)=>some (n,e)
 | _=>none
def bP(es:List AV)(i j n:Nat)(a:Bool):Option AV:=
 match es[i]? with
 | none=>none
 | some e=>
  if a then (if j+n<=e.cells.length/\0<n then some (.agg ((e.cells.drop j).take n)) else none) else e.cells[j]?
def patch(cs:List AV)(j:Nat)(new:List AV):List AV:=cs.take j++new++cs.drop (j+new.length)
def oF(e:AV)(j:Nat)(new:List AV):Option AV:=
 match e with
 | .agg cs=>if j+new.length<=cs.length then some (.agg (patch cs j new)) else none
 | _=>match j,new with
  | 0,[x]=>some x
  | _,_=>none
def fS(es:List AV)(i j:Nat)(new:List AV):Option (List AV):=
 match es[i]? with
 | none=>none
 | some e=>(oF e j new).map λa=>es.set i a
def view(g:dv):Nat->AV->Option AV
 | 0,_=>none
 | n+1,x=>
  match x with
  | .v x=>some (.v x)
  | .agg cs=>(cs.mapM (view g n)).map .agg
  | .tup cs=>(cs.mapM (view g n)).map .tup
  | .bE esz es cap=>some (.bE esz es cap)
  | .fsl .. => none
  | .iptr esz es i j=>some (.iptr esz es i j)
  | .ct r off len cap=>
   match g r with
   | some b=>if b.arr=true/\off+len<=b.es.length then some (.bE b.esz ((b.es.drop off).take len) cap) else none
   | none=>none
  | .nsl .. => none
  | .dsl r off len cap=>
   match g r with
   | some b=>if b.arr=false/\off+len<=b.es.length then (b.es.mapM (view g n)).map λes => .bE b.esz ((es.drop off).take len) cap else none
   | none=>none
  | .ptr r i j=>
   match g r with
   | some b=>if b.arr then some (.iptr b.esz b.es i j) else (b.es.mapM (view g n)).map λes => .iptr b.esz es i j
   | none=>none
  | .fn f a b=>match a.mapM (view g n),b.mapM (view g n) with
   | some a,some b=>some (.fn f a b)
   | _,_=>none
  | .ifc t x=>(view g n x).map (.ifc t)
  | .yld _ | .mp _ | .ch _ | .Az _ | .lp .. => none
def aj(g:dv):Nat->AV->List Ref
 | 0,_=>[]
 | n+1,x=>
  match x with
  | .agg cs | .tup cs=>cs.flatMap (aj g n)
  | .ct r _ _ _=>[r]
  | .dsl r _ _ _=>r :: (match g r with | some b=>b.es.flatMap (aj g n) | none=>[])
  | .ptr r _ _=>r :: (match g r with | some b=>if b.arr then [] else b.es.flatMap (aj g n) | none=>[])
  | .fn _ a b=>a.flatMap (aj g n)++b.flatMap (aj g n)
  | .ifc _ x=>aj g n x
  | .mp r=>[r]
  | .ch r=>[r]
  | _=>[]
def flat:Nat->AV->Bool
 | 0,_=>false
 | n+1,x=>
  match x with
  | .v _=>true
  | .agg cs | .tup cs=>cs.all (flat n)
  | .ifc _ x=>flat n x
  | .fn _ a b=>a.all (flat n)&&b.all (flat n)
  | _=>false
def cL(H:aa):List Ref->aa
 | []=>H
 | r :: rs=>match H.get r with
  | some b=>cL (H.put r (some { b with jq:=true})) rs
  | none=>cL H rs
def kB(g:dv)(a:List Ref):Bool:=a.all λr=>match g r with | some b=>b.jq | none=>false
def depth:Nat:=8
def aW(tm:List AV):Operand->Option AV
 | .tmp t=>some (dE tm t)
 | .const v=>ofValue v
 | .func f=>some (.fn (.func f) [] [])
 | .global _=>none
def uJ:AV->Option Int
 | .v (.int _ n)=>some n
 | _=>none
def Fl:AV->Option Bool
 | .v (.bool b)=>some b
 | _=>none
def aX:Nat:=140737488355328
def dt(g:dv):AV->Option (Nat × List AV)
 | .v (.string s)=>some (1,s.data.toList.map λb => .v (.int .u8 b.toNat))
 | .bE esz es _=>some (esz,es)
 | .ct r off len _=>match g r with
  | some b=>if b.arr=true/\off+len<=b.es.length then some (b.esz,(b.es.drop off).take len) else none
  | none=>none
 | _=>none
def bounds(len:Nat)(cap:Option Nat)(lo hi a:Option Int):Option (Nat × Nat × Option Nat):=
 match a with
 | some m=>
  match hi with
  | some h=>if 0<=lo.getD 0/\lo.getD 0<=h/\h<=m/\m<=cap.getD len/\h<=len then some ((lo.getD 0).toNat,h.toNat,some (m.toNat - (lo.getD 0).toNat)) else none
  | none=>none
 | none=>if 0<=lo.getD 0/\lo.getD 0<=hi.getD len/\hi.getD len<=len then some ((lo.getD 0).toNat,(hi.getD len).toNat,cap.map (· - (lo.getD 0).toNat)) else none
def nc(tm:List AV):Option Operand->Option (Option Int)
 | none=>some none
 | some o=>match (aW tm o).bind uJ with
  | some n=>some (some n)
  | none=>none
def AZ(P:Program)(t:TypeId)(cs:List AV)(a:Nat):Option AV:=
 match fK P t,aV P t with
 | some true,some n=>if a+n<=cs.length then some (.agg ((cs.drop a).take n)) else none
 | some false,_=>cs[a]?
 | _,_=>none
def wu(a:Nat->Option (Nat × Nat))(cells:List AV):List (Nat × AV)->Option (List AV)
 | []=>some cells
 | (i,v) :: rest=>
  match a i with
  | none=>none
  | some (off,size)=>
   if v.cells.length=size/\off+size<=cells.length then wu a (patch cells off v.cells) rest else none
def aL(P:Program)(t:TypeId)(i:Nat):Option (Nat × Nat):=
 match tJ P t i with
 | some (off,a)=>(aV P a).map λn=>(off,n)
 | none=>none
def iF(P:Program)(t:TypeId):Option (List (Nat × Nat)):=
 match P.underlying t with
 | some (.struct a)=>a.toList.mapM λf=>(P.info? f.type).map λi=>(f.offset,i.size)
 | _=>none
def iI(es:List AV):List (Nat × AV)->Option (List AV)
 | []=>some es
 | (i,v) :: rest=>if i<es.length then iI (es.set i v) rest else none
def iJ(tm:List AV)(ps:List (Nat × Operand)):Option (List (Nat × AV)):=
 ps.mapM λ(i,o)=>(aW tm o).map λx=>(i,x)
def xg(P:Program)(a:BinOp)(t:TypeId)(xo yo:Operand)(x y:Value):Option Value:=
 bO P (do eqGuard a t xo yo x y;binOp a t x y)
def tu:AV->Option Nat
 | .v (.slice none 0 0)=>some 0
 | .bE _ es _=>some es.length
 | .ct _ _ n _=>some n
 | .dsl _ _ n _=>some n
 | _=>none
def LU(f:Value->Value->Sem Value)(P:Program)(args:List AV):Option AV:=
 match args.mapM J2 with
 | some (x :: rest)=>(bO P (rest.foldlM f x)).bind jj
 | _=>none
def byteOf:AV->Option UInt8
 | .v (.int .u8 n)=>some (UInt8.ofNat n.toNat)
 | _=>none
abbrev jT:=Option (AV × List bC)
def ku(x:Option AV):jT:=x.map (·,[])
def Ig(d:Operand->Option AV)(c a b:Operand):jT:=
 match (d c).bind Fl with
 | some true=>ku (d a)
 | some false=>ku (d b)
 | none=>none
def wc(P:Program)(r:Ref)(e:TypeId):jT:=
 match fk P e,aV P e with
 | some z,some n=>if z.cells.length=n/\z.cells.all AV.one/\0<n then some (.ptr r 0 0,[⟨n,[z],false,false⟩]) else none
 | _,_=>none
def JD(P:Program)(r:Ref)(e:TypeId)(x:Option AV):jT:=
 match x,aV P e with
 | some x,some n=>if x.cells.length=n/\x.cells.all AV.one/\0<n then some (.ptr r 0 0,[⟨n,[x],false,false⟩]) else none
 | _,_=>none
def oK(P:Program)(t:TypeId)(a:Option (List (Nat × AV))):jT:=
 match fk P t,a with
 | some (.agg z),some a=>
  match mf P t with
  | some (_,e)=>match aV P e with
   | some n=>(wu (λi=>some (i * n,n)) z a).map λcs=>(.agg cs,[])
   | none=>none
  | none=>match iF P t with
   | some ps=>(wu (ps[·]?) z a).map λcs=>(.agg cs,[])
   | none=>none
 | _,_=>none
def dG(g:dv)(a:List (Nat × AV)):Option (List (Nat × AV)):=a.mapM λ(i,x)=>(view g depth x).map (i,·)
def cO(g:dv)(a:List AV):List Ref:=a.flatMap (aj g depth)
def mkSlice(P:Program)(g:dv)(t:TypeId)(n:Nat)(a:List (Nat × AV)):Option bC:=
 match eK P t with
 | none=>none
 | some e=>match dG g a,fk P e,aV P e with
  | some ws,some z,some s=>
   if 0<s/\n * s<=16777216/\z.cells.length=s/\z.cells.all AV.one/\ws.all (λp=>p.2.cells.length=s&&p.2.cells.all AV.one) then
    (iI (List.replicate n z) ws).map λes=>⟨s,es,true,false⟩
   else none
  | _,_,_=>none
def gY(P:Program)(a:Bool)(g:dv)(r:Ref)(t:TypeId)(n:Nat)(c:Option (List (Nat × AV))):jT:=
 match c with
 | none=>none
 | some c=>if kB g (cO g (c.map (·.2))) then (mkSlice P g t n c).map λb=>(if a then (.bE b.esz b.es (some n),[]) else (.ct r 0 n (some n),[b])) else none
def oT(P:Program)(g:dv)(t:TypeId)(a:Option AV):jT:=
 match a,fK P t,aV P t with
 | some (.ptr r' i j),some c,some n=>match g r' with
  | some b=>ku (bP b.es i j n c)
  | none=>none
 | some (.iptr _ es i j),some c,some n=>ku (bP es i j n c)
 | _,_,_=>none
def No(x:Option AV):jT:=
 match x with
 | some (.ptr r' i j)=>some (.ptr r' i j,[])
 | some (.iptr n es i j)=>some (.iptr n es i j,[])
 | some (.fn (.func f) a b)=>some (.fn (.func f) a b,[])
 | _=>none
def Gg:AV->Bool
 | .bE .. | .ct .. | .dsl .. => true
 | _=>false
def jR:AV->Bool
 | .v (.slice none 0 0)=>true
 | _=>false
def bZ(P:Program)(a:BinOp)(t:TypeId)(xo yo:Operand)(x y:Option AV):jT:=
 match x,y with
 | some x,some y=>
  if Gg x&&jR y||Gg y&&jR x then
   match P.underlying t,a with
   | some (.slice _),.eql=>some (.v (.bool false),[])
   | some (.slice _),.neq=>some (.v (.bool true),[])
   | _,_=>none
  else
   match k7 x,k7 y with
   | some x,some y=>ku ((xg P a t xo yo x y).bind jj)
   | _,_=>none
 | _,_=>none
def qUn(P:Program)(a:UnOp)(x:Option AV):jT:=
 ku (((x.bind J2).bind λx=>bO P (Op.unary a x)).bind jj)
def eE(P:Program)(t:TypeId):Bool:=
 match P.underlying t with
 | some (.slice e)=>(match P.underlying e with | some (.int .u8)=>true | _=>false)
 | _=>false
def isStr(P:Program)(t:TypeId):Bool:=match P.underlying t with | some .string=>true | _=>false
def cE(P:Program)(g:dv)(r:Ref)(src dst:TypeId)(x:Option AV):jT:=
 match x with
 | some (.v (.slice none 0 0))=>if eE P src&&isStr P dst then some (.v (.string .empty),[]) else none
 | some (.v (.string s))=>
  if isStr P src&&isStr P dst then some (.v (.string s),[])
  else if isStr P src&&eE P dst then
   (if s.size<=aX then some (.ct r 0 s.size none,[⟨1,s.data.toList.map λb => .v (.int .u8 b.toNat),true,false⟩]) else none)
  else none
 | some (.v x)=>ku ((bO P (Go.convert src dst x)).bind jj)
 | some x=>if eE P src&&isStr P dst then
  match dt g x with
  | some (_,es)=>(es.mapM byteOf).map λl=>(.v (.string ⟨l.toArray⟩),[])
  | none=>none
  else if src == dst&&eE P src then
   match x with
   | .ct r' _ _ _=>(match g r' with
    | some b=>if b.esz=1 then some (x,[]) else none
    | none=>none)
   | _=>none
  else none
 | none=>none
def zN(P:Program)(t:TypeId)(x:Option AV):jT:=
 match P.underlying t with
 | some (.interface _)=>none
 | some _=>x.map λx=>(.ifc t x,[])
 | none=>none
def yR(f:Fn)(first captured:Option (List AV)):jT:=
 match first,captured with
 | some a,some b=>some (.fn f a b,[])
 | _,_=>none
def yQ(P:Program)(r:Ref)(t:TypeId)(l c:Option AV):jT:=
 match eK P t,l.bind uJ,c.bind uJ with
 | some e,some l,some c=>match fk P e,aV P e,nT P e with
  | some z,some s,some b=>
   if 0<=l/\l<=c/\c * b<=aX/\c<=9223372036854775807/\0<s/\z.cells.length=s/\z.cells.all AV.one then some (.ct r 0 l.toNat none,[⟨s,List.replicate l.toNat z,true,false⟩]) else none
  | _,_,_=>none
 | _,_,_=>none
def dx(P:Program)(g:dv)(t:TypeId)(x:Option AV)(lo hi a:Option (Option Int)):jT:=
 match lo,hi,a with
 | some lo,some hi,some a=>
  match x with
  | some (.v (.slice none 0 0))=>if ((eK P t).bind (aV P)).isSome then (bounds 0 (some 0) lo hi a).map λ_=>(.v (.slice none 0 0),[]) else none
  | some (.v (.string s))=>if isStr P t&&a.isNone then (bounds s.size none lo hi none).map λ(l,h,_)=>(.v (.string (s.extract l h)),[]) else none
  | some (.bE esz es cap)=>if (eK P t).bind (aV P)=some esz then (bounds es.length cap lo hi a).map λ(l,h,c)=>(.bE esz ((es.drop l).take (h - l)) c,[]) else none
  | some (.ct r' off len cap)=>(match g r' with
   | some b=>if (eK P t).bind (aV P)=some b.esz then (bounds len cap lo hi a).map λ(l,h,c)=>(.ct r' (off+l) (h - l) c,[]) else none
   | none=>none)
  | some (.dsl r' off len cap)=>(match g r' with
   | some b=>if (eK P t).bind (aV P)=some b.esz then (bounds len cap lo hi a).map λ(l,h,c)=>(.dsl r' (off+l) (h - l) c,[]) else none
   | none=>none)
  | _=>none
 | _,_,_=>none
def xc(P:Program)(g:dv)(t:TypeId)(x:Option AV)(lo hi a:Option (Option Int)):jT:=
 match lo,hi,a,x with
 | some lo,some hi,some none,some (.ct r' off len cap)=>(match g r' with
  | some b=>if (eK P t).bind (aV P)=some b.esz/\0<=lo.getD 0/\lo.getD 0<=hi.getD len/\hi.getD len<=cap.getD len then
   some (.ct r' (off+(lo.getD 0).toNat) ((hi.getD len).toNat - (lo.getD 0).toNat) (cap.map (· - (lo.getD 0).toNat)),[]) else none
  | none=>none)
 | _,_,_,_=>none
def Nn(P:Program)(g:dv)(t:TypeId)(args:List AV):jT:=
 match args,eK P t with
 | [.ct r _ _ _,.ct r' _ _ _],some e=>(match g r,g r',aV P e with
  | some b,some a,some z=>if r≠r'/\1<b.esz/\b.esz=z/\a.esz=z then some (.v (.bool false),[]) else none
  | _,_,_=>none)
 | _,_=>none
def FJ(su:FuncId->Option TypeId)(a:Bool)(f:Operand):Option TypeId:=match a,f with
 | false,.func b=>su b
 | _,_=>none
@[simp] def zP(su:FuncId->Option TypeId)(f:Operand):FJ su true f=none:=by cases f<;>rfl
def kM(P:Program)(t:TypeId)(x:Option AV)(f:Nat):jT:=
 match aL P t f with
 | some (off,s)=>if 0<s then
  match x with
  | some (.ptr r' i j)=>some (.ptr r' i (j+off),[])
  | some (.iptr n es i j)=>some (.iptr n es i (j+off),[])
  | _=>none
  else none
 | none=>none
def uV(P:Program)(t:TypeId)(x:Option AV)(f:Nat):jT:=
 match tJ P t f,x with
 | some (off,a),some (.agg cs)=>ku (AZ P a cs off)
 | _,_=>none
def cb(P:Program)(g:dv)(t:TypeId)(x a:Option AV):jT:=
 match a.bind uJ with
 | some k=>
  match eK P t with
  | some e=>match x,aV P e with
   | some (.bE esz es _),some s=>if 0<=k/\k<es.length/\s=esz then some (.iptr esz es k.toNat 0,[]) else none
   | some (.ct r' off len _),some s=>(match g r' with
    | some b=>if 0<=k/\k<len/\s=b.esz then some (.ptr r' (off+k.toNat) 0,[]) else none
    | none=>none)
   | some (.dsl r' off len _),some s=>(match g r' with
    | some b=>if 0<=k/\k<len/\s=b.esz then some (.ptr r' (off+k.toNat) 0,[]) else none
    | none=>none)
   | _,_=>none
  | none=>match mf P t with
   | some (n,e)=>match x,aV P e with
    | some (.ptr r' i j),some s=>if 0<=k/\k<n then some (.ptr r' i (j+k.toNat * s),[]) else none
    | some (.iptr esz es i j),some s=>if 0<=k/\k<n then some (.iptr esz es i (j+k.toNat * s),[]) else none
    | _,_=>none
   | none=>none
 | none=>none
def xG(P:Program)(t:TypeId)(x a:Option AV):jT:=
 match a.bind uJ,x with
 | some k,some (.agg cs)=>(match mf P t with
  | some (n,e)=>(match aV P e with
   | some s=>if 0<=k/\k<n then ku (AZ P e cs (k.toNat * s)) else none
   | none=>none)
  | none=>none)
 | some k,some (.v (.string s))=>if isStr P t/\0<=k then ku ((s[k.toNat]?).map λb => .v (.int .u8 b.toNat)) else none
 | _,_=>none
def BK(P:Program)(x:Option AV)(a:TypeId)(ok:Bool):jT:=
 match P.underlying a,x with
 | some (.interface _),_=>none
 | some _,some (.ifc t y)=>
  if t=a then some ((if ok then .tup [y,.v (.bool true)] else y),[])
  else if ok then (fk P a).map λz=>(.tup [z,.v (.bool false)],[]) else none
 | some _,some (.v .nilIface)=>if ok then (fk P a).map λz=>(.tup [z,.v (.bool false)],[]) else none
 | _,_=>none
def uE(x:Option AV)(i:Nat):jT:=
 match x with
 | some (.tup a)=>ku (a[i]?)
 | _=>none
def qv(a:List AV):bC:=⟨0,.v (.bool true) :: a,false,false⟩
def oz(g:dv)(r:Ref):Option (List AV):=match g r with
 | some ⟨0,.v (.bool true) :: a,false,_⟩=>some a
 | _=>none
def IW(cap:Nat)(b:Bool)(a:List AV):bC:=⟨0,.v (.bool false) :: .v (.int .i64 cap) :: .v (.bool b) :: a,false,false⟩
def W3(g:dv)(r:Ref):Option (Nat × Bool × List AV):=match g r with
 | some ⟨0,.v (.bool false) :: .v (.int .i64 cap) :: .v (.bool a) :: buf,false,_⟩=>some (cap.toNat,a,buf)
 | _=>none
def MU(P:Program)(t:TypeId):Option TypeId:=match P.underlying t with
 | some (.chan _ e)=>some e
 | _=>none
def Pf(P:Program)(t:TypeId):Option (TypeId × TypeId):=match P.underlying t with
 | some (.map k e)=>some (k,e)
 | _=>none
def IP:AV->Option Value
 | .tup [k,_]=>k7 k
 | _=>none
def L1:AV->Option AV
 | .tup [_,v]=>some v
 | _=>none
def DV(P:Program)(a:Bool)(b:TypeId)(k:Value)(c:List Value):Option (Option Nat):=
 match bO P (Instr.checkKey a 10000 b k) with
 | some _=>(bO P (Instr.findKey b k (c.map λx=>⟨x,Go.undef,0⟩))).map λo=>o.map (·.1)
 | none=>none
def pB(P:Program)(g:dv)(t:TypeId)(x k:Option AV)(ok:Bool):jT:=
 match Pf P t,x,k.bind k7 with
 | some (e,d),some (.mp r),some c=>(match oz g r with
  | some a=>(match a.mapM IP with
   | some b=>(match DV P b.isEmpty e c b with
    | some (some i)=>(a[i]?.bind L1).map λv=>((if ok then .tup [v,.v (.bool true)] else v),[])
    | some none=>(fk P d).map λz=>((if ok then .tup [z,.v (.bool false)] else z),[])
    | none=>none)
   | none=>none)
  | none=>none)
 | _,_,_=>none
def BJ(P:Program)(g:dv)(t:Option TypeId)(r:Ref):jT:=
 match t.bind (Pf P),oz g r with
 | some _,some a=>some (.v (.int .i64 a.length),[])
 | _,_=>none
def QX:Value->Value->Bool
 | .bool a,.bool b=>a == b
 | .int k n,.int k' c=>decide (k=k')&&decide (n=c)
 | .string s,.string t=>decide (s=t)
 | .slice none a b,.slice none d e=>Nat.beq a d&&Nat.beq b e
 | .nilFunc,.nilFunc=>true
 | .nilIface,.nilIface=>true
 | _,_=>false
def KH:Nat->AV->AV->Bool
 | 0,_,_=>false
 | n+1,x,y=>
  match x,y with
  | .v u,.v v=>QX u v
  | .agg cs,.agg ds=>Nat.beq cs.length ds.length&&(cs.zip ds).all λp=>KH n p.1 p.2
  | .bE z es c,.bE b es' a=>Nat.beq z b&&decide (c=a)&&Nat.beq es.length es'.length&&(es.zip es').all λp=>KH n p.1 p.2
  | _,_=>false
def HY(r r':Ref):Bool:=Nat.beq r.t r'.t&&Nat.beq r.g r'.g&&Nat.beq r.d r'.d&&Nat.beq r.k r'.k
def CB:Nat->AV->AV->Bool
 | 0,_,_=>false
 | n+1,x,y=>
  match x,y with
  | .v u,.v v=>QX u v
  | .agg cs,.agg ds=>Nat.beq cs.length ds.length&&(cs.zip ds).all λp=>CB n p.1 p.2
  | .tup cs,.tup ds=>Nat.beq cs.length ds.length&&(cs.zip ds).all λp=>CB n p.1 p.2
  | .bE z es c,.bE m es' g=>Nat.beq z m&&decide (c=g)&&Nat.beq es.length es'.length&&(es.zip es').all λp=>CB n p.1 p.2
  | .ct r a b c,.ct r' e d g=>HY r r'&&Nat.beq a e&&Nat.beq b d&&decide (c=g)
  | .dsl r a b c,.dsl r' e d g=>HY r r'&&Nat.beq a e&&Nat.beq b d&&decide (c=g)
  | .ptr r i j,.ptr r' k o=>HY r r'&&Nat.beq i k&&Nat.beq j o
  | .mp r,.mp r'=>HY r r'
  | .ch r,.ch r'=>HY r r'
  | .fn (.func f) a b,.fn (.func h) e d=>Nat.beq f h&&(Nat.beq a.length e.length&&(a.zip e).all λp=>CB n p.1 p.2)&&(Nat.beq b.length d.length&&(b.zip d).all λp=>CB n p.1 p.2)
  | .ifc t x,.ifc t' l=>Nat.beq t t'&&CB n x l
  | _,_=>false
def Md(k k':bC):Bool:=Nat.beq k.esz k'.esz&&k.arr == k'.arr&&k.jq == k'.jq&&Nat.beq k.es.length k'.es.length&&(k.es.zip k'.es).all λp=>CB 8 p.1 p.2
def IC(H a:aa):Bool:=H.all λp=>match H.get p.1 with
 | none=>true
 | some k=>match a.get p.1 with
  | none=>false
  | some k'=>Md k k'
def Wl(b a:List AV):Bool:=Nat.beq b.length a.length&&(b.zip a).all λp=>KH 8 p.1 p.2
def LV:List (FuncId × List AV × AV)->FuncId->List AV->Option AV
 | [],_,_=>none
 | (g,xs,y) :: T,f,args=>if Nat.beq g f&&Wl xs args then some y else LV T f args
def aw(r:Ref):Nat->AV->List bC->AV × List bC
 | 0,x,bs=>(x,bs)
 | n+1,x,bs=>
  match x with
  | .fsl esz es cap=>if esz=0 then (.mp { r with k:=bs.length},bs++[⟨0,es,false,false⟩]) else (.ct { r with k:=bs.length} 0 es.length cap,bs++[⟨esz,es,true,false⟩])
  | .nsl esz es cap=>let (ys,bs):=es.foldl (λ(p:List AV × List bC) c=>let (y,bs):=aw r n c p.2;(p.1++[y],bs)) ([],bs);(.dsl { r with k:=bs.length} 0 es.length cap,bs++[⟨esz,ys,false,false⟩])
  | .agg cs=>let (ys,bs):=cs.foldl (λ(p:List AV × List bC) c=>let (y,bs):=aw r n c p.2;(p.1++[y],bs)) ([],bs);(.agg ys,bs)
  | .tup cs=>let (ys,bs):=cs.foldl (λ(p:List AV × List bC) c=>let (y,bs):=aw r n c p.2;(p.1++[y],bs)) ([],bs);(.tup ys,bs)
  | .ifc t x=>let (y,bs):=aw r n x bs;(.ifc t y,bs)
  | x=>(x,bs)
inductive vl where
 | fn (f:FuncId)
 | yld (r:Ref)
def uW(m:Nat):Bool:=m == 1||m == 3
def DM:Nat->AV->Bool
 | 0,_=>false
 | n+1,x=>
  match x with
  | .v _=>true
  | .agg cs | .tup cs=>cs.all (DM n)
  | .fsl z es _=>z != 0&&es.all (flat depth)
  | .bE _ es _=>es.isEmpty
  | .ifc _ x=>DM n x
  | _=>false
structure OE where
 f:aa->aa->Bool
 ok : ∀H H',f H H'=true ->∀q k,H.get q=some k->H'.get q=some k
def P1:OE:=⟨λ_ _=>false,λ_ _ h=>by cases h⟩
structure Env where
 P:Program
 strict:Oper->Bool
 apart:Array Oper->List (Tmp × Tmp)
 mode:FuncId->Nat
 allowed:FuncId->Bool
 spec:FuncId->List AV->Option AV
 ok:Array Oper->Bool:=λ_=>true
 jq:Oper->Bool:=λ_=>false
 wide:Oper->Bool:=λ_=>false
 su:FuncId->Option TypeId:=λ_=>none
 thrSpec:FuncId->List AV->aa->Option (AV × aa):=λ_ _ _=>none
 sm:OE:=P1
 deep:Oper->Bool:=λ_=>false
def lY(E:Env)(pc:FuncId->List AV->Option AV)(g:dv)(r:Ref)(f:Option AV)(args:List AV):jT:=
 match f with
 | some (.fn (.func a) first captured)=>
  if E.mode a=2 then none else
  match (first++args++captured).mapM (view g depth) with
  | some xs=>match pc a xs with
   | some y=>if flat depth y||kB g (cO g (first++args++captured))||(E.mode a == 3&&DM depth y) then some (aw r depth y []) else none
   | none=>none
  | none=>none
 | _=>none
def JA(P:Program)(t:Option TypeId)(x:AV):jT:=
 match t with
 | none=>none
 | some t=>match mf P t with
  | some (n,_)=>some (.v (.int .i64 n),[])
  | none=>if isStr P t then (match x with | .v (.string s)=>some (.v (.int .i64 s.size),[]) | _=>none)
   else if (eK P t).isSome then (tu x).map λn=>(.v (.int .i64 n),[]) else none
def nP(P:Program)(g:dv)(e:TypeId)(x:AV):Option (Nat × List AV):=
 match x with
 | .v (.slice none 0 0)=>(aV P e).map λz=>(z,[])
 | .v (.int _ n)=>match fk P e,aV P e with
  | some w,some z=>if 0<=n/\n<=aX/\w.cells.length=z/\w.cells.all AV.one then some (z,List.replicate n.toNat w) else none
  | _,_=>none
 | x=>dt g x
def isNum:AV->Bool
 | .v (.int _ _)=>true
 | _=>false
def isInt(P:Program)(t:TypeId):Bool:=match P.underlying t with | some (.int _)=>true | _=>false
def fx(P:Program)(g:dv)(r:Ref)(t t':Option TypeId)(s x:AV):jT:=
 match t.bind (eK P) with
 | none=>none
 | some e=>
  if (t'.bind P.underlying).isNone\/(t'.map (isInt P)).getD false≠isNum x then none else
  match aV P e,nT P e,fk P e,nP P g e x with
  | some z,some by',some zz,some (a,new)=>
   if a≠z\/z=0\/by'=0\/zz.cells.length≠z then none else
   match s with
   | .v (.slice none 0 0)=>if new=[] then some (s,[]) else if new.length * by'<=aX then some (.ct r 0 new.length none,[⟨z,new,true,false⟩]) else none
   | .bE n es cap=>if n≠z then none else if new=[] then some (s,[]) else
    match cap with
    | some k=>if k<es.length+new.length/\(es.length+new.length) * by'<=aX then some (.ct r 0 (es.length+new.length) none,[⟨z,es++new,true,false⟩]) else none
    | none=>none
   | .ct r' off len cap=>(match g r' with
    | some b=>if b.esz≠z\/b.arr=false then none else if new=[] then some (s,[]) else
     (match cap with
     | some k=>if off+len<=b.es.length/\k<len+new.length/\(len+new.length) * by'<=aX then
      some (.ct r 0 (len+new.length) none,[⟨z,(b.es.drop off).take len++new,true,false⟩]) else none
     | none=>none)
    | none=>none)
   | _=>none
  | _,_,_,_=>none
def acv(P:Program)(t:Option TypeId)(x:AV):jT:=
 match t.bind (eK P),x with
 | some _,.v (.slice none 0 0)=>some (.v (.int .i64 0),[])
 | some _,.bE _ _ (some k)=>some (.v (.int .i64 k),[])
 | some _,.ct _ _ _ (some k)=>some (.v (.int .i64 k),[])
 | _,_=>none
def eD(P:Program)(c:Bool)(g:dv)(r:Ref)(b:Builtin)(a:Array TypeId)(args:List AV):jT:=
 match b,args with
 | .len,[.mp r']=>if c then none else BJ P g a[0]? r'
 | .len,[x]=>JA P a[0]? x
 | .min,args=>ku (LU Builtin.min2 P args)
 | .max,args=>ku (LU Builtin.max2 P args)
 | .append,[s,x]=>fx P g r a[0]? a[1]? s x
 | .cap,[x]=>acv P a[0]? x
 | _,_=>none
def Qk(b:Bool)(bs:List bC):List bC:=if b then bs.map (λk => { k with jq:=true}) else bs
def dq(E:Env)(pc:FuncId->List AV->Option AV)(d:Bool)(g:dv)(tm:List AV)(r:Ref)(o:Oper):jT:=
 match o.op with
 | .move x | .assign x=>ku (aW tm x)
 | .pick c a b=>Ig (aW tm) c a b
 | .alloc e=>wc E.P r e
 | .box e x=>JD E.P r e (aW tm x)
 | .build t ps=>oK E.P t (iJ tm ps.toList)
 | .buildSlice t n ps=>gY E.P (d && !E.strict o) g r t n (iJ tm ps.toList)
 | .load t a=>oT E.P g t (aW tm a)
 | .nilCheck x=>No (aW tm x)
 | .binOp op t xo yo _=>bZ E.P op t xo yo (aW tm xo) (aW tm yo)
 | .unOp op _ x=>qUn E.P op (aW tm x)
 | .convert src dst x=>cE E.P g r src dst (aW tm x)
 | .makeInterface t x=>zN E.P t (aW tm x)
 | .makeFunc f first captured=>yR f (first.toList.mapM (aW tm)) (captured.toList.mapM (aW tm))
 | .makeSlice t l c=>yQ E.P r t (aW tm l) (aW tm c)
 | .makeMap _ none=>some (.mp r,[qv []])
 | .lookup t x k ok=>pB E.P g t (aW tm x) (aW tm k) ok
 | .slice t x lo hi j=>cond (E.wide o && !d) (xc E.P g t (aW tm x) (nc tm lo) (nc tm hi) (nc tm j)) (dx E.P g t (aW tm x) (nc tm lo) (nc tm hi) (nc tm j))
 | .fieldAddr t x f=>kM E.P t (aW tm x) f
 | .field t x f=>uV E.P t (aW tm x) f
 | .indexAddr t x ix=>cb E.P g t (aW tm x) (aW tm ix)
 | .index t x ix=>xG E.P t (aW tm x) (aW tm ix)
 | .typeAssert x _ h ok=>BK E.P (aW tm x) h ok
 | .extract x i=>uE (aW tm x) i
 | .call c=>
  match c.args.toList.mapM (aW tm) with
  | none=>none
  | some args=>
   match c.callee with
   | .value f=>(match FJ E.su d f with
    | some t=>Nn E.P g t args
    | none=>(lY E pc g r (aW tm f) args).map λp=>(p.1,Qk (E.jq o) p.2))
   | .invoke _ _=>none
   | .builtin b=>eD E.P (d&&(E.strict o || !(match c.args.toList with | [.tmp _]=>true | _=>false))) g r b c.argTypes args
 | _=>none
def keyed(r:Ref):Nat->List bC->aa->aa
 | _,[],g=>g
 | k,b :: bs,g=>keyed r (k+1) bs (({ r with k:=k},some b) :: g)
abbrev dA:=Option (AV × aa)
def kn(P:Program)(H:aa)(t:TypeId)(a x:Option AV):dA:=
 match a,x,aV P t with
 | some (.ptr r' i j),some x,some n=>
  match H.get r' with
  | some b=>
   if x.cells.length=n/\x.cells.all AV.one/\b.jq=false then
    (if b.arr=true then
     match view H.get depth x with
     | some y=>if r'∈aj H.get depth x then none else if y.cells.all AV.one=true then (fS b.es i j y.cells).map λes=>(AV.undef,(cL H (aj H.get depth x)).put r' (some { b with es})) else none
     | none=>none
    else (fS b.es i j x.cells).map λes=>(AV.undef,H.put r' (some { b with es})))
   else none
  | none=>none
 | _,_,_=>none
def ko(P:Program)(H:aa)(r:Ref)(t:TypeId)(n:Nat)(a:Option (List (Nat × AV))):dA:=
 match a with
 | none=>none
 | some a=>(mkSlice P H.get t n a).map λb=>(.ct r 0 n (some n),(r,some b) :: cL H (cO H.get (a.map (·.2))))
def ot(E:Env)(pc:FuncId->List AV->Option AV)(tc:vl->List AV->aa->dA)(H:aa)(r:Ref)(f:Option AV)(args:List AV):dA:=
 match f with
 | some (.fn (.func g) first captured)=>
  if E.mode g=2 then tc (.fn g) (first++args++captured) H else
  match (first++args++captured).mapM (view H.get depth) with
  | some xs=>(pc g xs).map λy=>((aw r depth y []).1,keyed r 0 (aw r depth y []).2 (cL H (cO H.get (first++args++captured))))
  | none=>none
 | some (.yld q)=>tc (.yld q) args H
 | _=>none
def ti(b:Bool)(sm:OE)(H:aa)(x:dA):dA:=match b,x with
 | true,some (y,a)=>if flat depth y&&(IC H a||sm.f H a) then some (y,H) else none
 | _,x=>x
def kG(P:Program)(H:aa)(t t':Option TypeId)(s x:AV):dA:=
 match t.bind (eK P) with
 | none=>none
 | some e=>
  if (t'.bind P.underlying).isNone\/(t'.map (isInt P)).getD false≠isNum x then none else
  match aV P e,nT P e,fk P e,nP P H.get e x with
  | some z,some by',some zz,some (a,new)=>
   if a≠z\/z=0\/by'=0\/new=[]\/zz.cells.length≠z then none else
   match s with
   | .ct r' off len none=>(match H.get r' with
    | some b=>if off=0/\b.arr=true/\b.esz=z/\len=b.es.length/\(len+new.length) * by'<=aX then
     some (.ct ⟨r'.d,r'.t,H.gen r'.d r'.t,0⟩ 0 (len+new.length) none,(⟨r'.d,r'.t,H.gen r'.d r'.t,0⟩,some ⟨z,b.es++new,true,b.jq⟩) :: H.put r' none) else none
    | none=>none)
   | _=>none
  | _,_,_,_=>none
def yg(P:Program)(H:aa)(t:Option TypeId)(dst x:AV):dA:=
 match t.bind (eK P) with
 | none=>none
 | some e=>match aV P e with
  | none=>none
  | some z=>match (if jR x then some (z,[]) else dt H.get x) with
   | none=>none
   | some (a,src)=>if a≠z\/z=0 then none else
    match dst with
    | .v (.slice none 0 0)=>some (.v (.int .i64 0),H)
    | .ct r' off len _=>(match H.get r' with
     | some b=>
      if b.arr=true/\b.esz=z/\b.jq=false/\off+len<=b.es.length then
       some (.v (.int .i64 (Nat.min src.length len:Nat)),H.put r' (some { b with es:=b.es.take off++src.take (Nat.min src.length len)++b.es.drop (off+Nat.min src.length len)})) else none
     | none=>none)
    | _=>none
def Hg(P:Program)(H:aa)(t:Option TypeId)(dst x:AV):dA:=
 match (t.bind (eK P)).bind (aV P),dst,x with
 | some z,.ct r off len _,.ct r2 a wM _=>(match H.get r,H.get r2 with
  | some b,some b2=>
   if b.arr=true/\b2.arr=true/\b.esz=z/\b2.esz=z/\0<z/\b.jq=false/\off<=b.es.length/\a+Nat.min wM len<=b2.es.length then
    some (.v (.int .i64 (Nat.min wM len:Nat)),H.put r (some { b with es:=b.es.take off++(b2.es.drop a).take (Nat.min wM len)++b.es.drop (off+Nat.min wM len)})) else none
  | _,_=>none)
 | _,_,_=>none
def jU(P:Program)(H:aa)(t:TypeId)(m k x:Option AV):dA:=
 match Pf P t,m,k,x with
 | some (e,_),some (.mp r),some k,some x=>(match k7 k,oz H.get r with
  | some b,some a=>(match a.mapM IP with
   | some c=>(match DV P false e b c with
    | some (some i)=>if ((c[i]?).map λd=>Instr.sameBits 10000 d b)=some true then some (AV.undef,H.put r (some (qv (a.set i (.tup [k,x]))))) else none
    | some none=>some (AV.undef,H.put r (some (qv (a++[.tup [k,x]]))))
    | none=>none)
   | none=>none)
  | _,_=>none)
 | _,_,_,_=>none
def ru(P:Program)(H:aa)(t:TypeId)(m k:Option AV):dA:=
 match Pf P t,m,k with
 | some (f,e),some (.mp r),some k=>(match k7 k,oz H.get r with
  | some b,some a=>(match a.mapM IP with
   | some c=>(match DV P false f b c with
    | some (some i)=>if ((c[i]?).map λd=>Instr.sameBits 10000 d b)=some true then (a[i]?.bind L1).map λv=>(.tup [v,.v (.int .i64 i)],H.put r (some (qv (a.set i (.tup [k,v]))))) else none
    | some none=>(fk P e).map λz=>(.tup [z,.v (.int .i64 a.length)],H.put r (some (qv (a++[.tup [k,z]]))))
    | none=>none)
   | none=>none)
  | _,_=>none)
 | _,_,_=>none
def mq(H:aa)(m s x:Option AV):dA:=
 match m,s,x with
 | some (.mp r),some (.v (.int _ n)),some x=>(match oz H.get r with
  | some a=>if 0<=n then (match a[n.toNat]? with
   | some (.tup [k,_])=>some (AV.undef,H.put r (some (qv (a.set n.toNat (.tup [k,x])))))
   | _=>none) else none
  | none=>none)
 | _,_,_=>none
def Bx(P:Program)(H:aa)(r:Ref)(t:TypeId)(n:Option AV):dA:=
 match n,(MU P t).bind (nT P) with
 | some (.v (.int _ n)),some b=>if 0<=n/\n<=1000000/\b<=1000000 then some (.ch r,keyed r 0 [IW n.toNat false []] H) else none
 | _,_=>none
def Hc(H:aa)(c x:Option AV):dA:=
 match c,x with
 | some (.ch r),some x=>(match W3 H.get r with
  | some (cap,false,buf)=>if buf.length<cap/\flat depth x=true then some (AV.undef,H.put r (some (IW cap false (buf++[x])))) else none
  | _=>none)
 | _,_=>none
def ac5(ok:Bool)(x:AV)(b:Bool):AV:=if ok then .tup [x,.v (.bool b)] else x
def J0(P:Program)(H:aa)(t:TypeId)(c:Option AV)(ok:Bool):dA:=
 match c,(MU P t).bind (fk P) with
 | some (.ch r),some z=>(match W3 H.get r with
  | some (cap,a,x :: buf)=>some (ac5 ok x true,H.put r (some (IW cap a buf)))
  | some (_,true,[])=>some (ac5 ok z false,H)
  | _=>none)
 | _,_=>none
def Dv(P:Program)(H:aa)(r:Ref)(t:TypeId)(n:Nat)(a:Option (List (Nat × AV))):dA:=
 match a,eK P t with
 | some [(0,.agg cs)],some e=>(match fk P e,aV P e with
  | some z,some s=>if n=1/\0<s/\s<=16777216/\z.cells.length=s/\z.cells.all AV.one=true/\cs.length=s/\cs.all AV.one=true then some (.dsl r 0 1 (some 1),(r,some ⟨s,[.agg cs],false,false⟩) :: H) else none
  | _,_=>none)
 | _,_=>none
def QW(P:Program)(H:aa)(r:Ref)(t t':Option TypeId)(s x:AV):dA:=
 match t.bind (eK P),x with
 | some e,.dsl rx 0 m _=>
  if (t'.bind P.underlying).isNone\/(t'.map (isInt P)).getD false≠false then none else
  (match aV P e,nT P e,fk P e,H.get rx with
  | some z,some by',some zz,some a=>
   if a.arr=true\/a.esz≠z\/z=0\/by'=0\/a.es=[]\/zz.cells.length≠z\/m≠a.es.length then none else
   (match s with
   | .v (.slice none 0 0)=>if m * by'<=aX then some (.dsl r 0 m none,(r,some ⟨z,a.es,false,false⟩) :: H.put rx none) else none
   | .dsl r' 0 len none=>(match H.get r' with
    | some b=>if b.arr=false/\b.esz=z/\len=b.es.length/\r'≠rx/\(len+m) * by'<=aX then
     some (.dsl ⟨r'.d,r'.t,H.gen r'.d r'.t,0⟩ 0 (len+m) none,(⟨r'.d,r'.t,H.gen r'.d r'.t,0⟩,some ⟨z,b.es++a.es,false,b.jq⟩) :: (H.put rx none).put r' none) else none
    | none=>none)
   | _=>none)
  | _,_,_,_=>none)
 | _,_=>none
def FU(E:Env)(a:Bool)(H:aa)(tm:List AV)(r:Ref)(o:Oper):Option dA:=
 if a || !E.deep o then none else
 match o.op with
 | .buildSlice t n ps=>some (Dv E.P H r t n (iJ tm ps.toList))
 | .call c=>(match c.callee with
  | .builtin .append=>some (match c.args.toList.mapM (aW tm) with
   | some [s,x]=>QW E.P H r c.argTypes[0]? c.argTypes[1]? s x
   | _=>none)
  | _=>none)
 | _=>none
def RR:Op->Bool
 | .send .. | .recv .. => true
 | _=>false
def evalW(E:Env)(pc:FuncId->List AV->Option AV)(tc:vl->List AV->aa->dA)(H:aa)(tm:List AV)(r:Ref)(o:Oper):dA:=
 match o.op with
 | .store t a x=>kn E.P H t (aW tm a) (aW tm x)
 | .mapUpdate t m k x | .insert t m k x=>jU E.P H t (aW tm m) (aW tm k) (aW tm x)
 | .mapEntry t m k=>ru E.P H t (aW tm m) (aW tm k)
 | .entryStore _ m s x=>mq H (aW tm m) (aW tm s) (aW tm x)
 | .buildSlice t n ps=>ko E.P H r t n (iJ tm ps.toList)
 | .makeChan t n=>Bx E.P H r t (aW tm n)
 | .send c x=>Hc H (aW tm c) (aW tm x)
 | .recv t c ok=>J0 E.P H t (aW tm c) ok
 | .call c=>
  match c.args.toList.mapM (aW tm) with
  | none=>none
  | some args=>
   match c.callee with
   | .value f=>ti (E.jq o) E.sm H (ot E pc tc H r (aW tm f) args)
   | .invoke _ _=>none
   | .builtin b=>
    match b,args with
    | .append,[s,x]=>kG E.P H c.argTypes[0]? c.argTypes[1]? s x
    | .copy,[dst,x]=>cond (E.wide o) (Hg E.P H c.argTypes[0]? dst x) (yg E.P H c.argTypes[0]? dst x)
    | _,_=>none
 | _=>none
def wanted(ops:Array Oper)(tm:List AV)(o:Oper):Option Bool:=
 match o.guard with
 | none=>some true
 | some (j,a)=>
  match (ops[j]?).bind (·.dst) with
  | some t=>(match dE tm t with
   | .v (.bool b)=>some (b == a)
   | .v (.tuple c)=>if c.isEmpty then some false else none
   | _=>none)
  | none=>some false
def wOp(E:Env):Op->Bool
 | .store .. | .mapUpdate .. | .insert .. | .mapEntry .. | .entryStore .. => true
 | .call c=>match c.callee with
  | .builtin .append | .builtin .copy=>true
  | .value (.func g)=>E.mode g == 2
  | .value (.tmp _)=>true
  | _=>false
 | _=>false
def B9:Op->Bool
 | .buildSlice .. => true
 | _=>false
def jQ(E:Env)(o:Oper):Bool:=(!E.strict o&&wOp E o.op)||(E.jq o&&B9 o.op)
def dP(nt:Nat)(tm:List AV)(dst:Option Tmp)(x:AV):Option (List AV):=
 match dst with
 | none=>some tm
 | some d=>if d<nt then some (CV tm d x) else none
def evalOp(E:Env)(pc:FuncId->List AV->Option AV)(tc:vl->List AV->aa->dA)(nt dep:Nat)(a:Bool)(ops:Array Oper)(o:Oper)(st:St):Option St:=
 match wanted ops st.tm o with
 | none=>none
 | some false=>(dP nt st.tm o.dst AV.undef).map λtm => { st with tm}
 | some true=>
  match dq E pc a st.hp.get st.tm ⟨dep,o.dst.getD 0,st.hp.gen dep (o.dst.getD 0),0⟩ o with
  | some (x,bs)=>(dP nt st.tm o.dst x).map λtm=>⟨tm,keyed ⟨dep,o.dst.getD 0,st.hp.gen dep (o.dst.getD 0),0⟩ 0 bs st.hp⟩
  | none=>
   if a && !jQ E o then none else
   match evalW E pc tc st.hp st.tm ⟨dep,o.dst.getD 0,st.hp.gen dep (o.dst.getD 0),0⟩ o with
   | some (x,H)=>(dP nt st.tm o.dst x).map λtm=>⟨tm,H⟩
   | none=>none
def Ap(E:Env)(pc:FuncId->List AV->Option AV)(tc:vl->List AV->aa->dA)(nt dep:Nat)(a:Bool)(ops:Array Oper)(o:Oper)(st:St):Option St:=
 match FU E a st.hp st.tm ⟨dep,o.dst.getD 0,st.hp.gen dep (o.dst.getD 0),0⟩ o with
 | none=>evalOp E pc tc nt dep a ops o st
 | some w=>(match wanted ops st.tm o with
  | none=>none
  | some false=>(dP nt st.tm o.dst AV.undef).map λtm => { st with tm}
  | some true=>(match w with
   | some (x,H)=>(dP nt st.tm o.dst x).map λtm=>⟨tm,H⟩
   | none=>none))
def Qn{E:Env}{pc:FuncId->List AV->Option AV}{tc:vl->List AV->aa->dA}{nt dep:Nat}{ops:Array Oper}{o:Oper}{st:St}:Ap E pc tc nt dep true ops o st=evalOp E pc tc nt dep true ops o st:=rfl
def oI(E:Env)(pc:FuncId->List AV->Option AV)(tc:vl->List AV->aa->dA)(nt dep:Nat)(a:Bool)(ops:Array Oper):List Oper->St->Option St
 | [],st=>some st
 | o :: rest,st=>match Ap E pc tc nt dep a ops o st with
  | some st'=>oI E pc tc nt dep a ops rest st'
  | none=>none
def mG(P:Program)(st:St):ResultVar->Option AV
 | .tmp t=>some (dE st.tm t)
 | .cell a t=>match dE st.tm a,fK P t,aV P t with
  | .ptr r i j,some g,some n=>match st.hp.get r with
   | some b=>bP b.es i j n g
   | none=>none
  | _,_,_=>none
def yN(P:Program)(fn:Func)(st:St):Option AV:=
 match fn.results.toList.mapM (mG P st) with
 | some []=>some (.v (.tuple #[]))
 | some [x]=>some x
 | some xs=>some (.tup xs)
 | none=>none
def codeOk(ok:Array Oper->Bool):Code->Bool
 | .region _ ops draw => !draw||ok ops
 | .seq a b | .cond _ a b=>codeOk ok a&&codeOk ok b
 | .block _ c | .loop c | .scope c=>codeOk ok c
 | .rangeFunc _ _ a b=>codeOk ok a&&codeOk ok b
 | _=>true
def pj(ok:Array Oper->Bool):Item->Bool
 | .code c | .inLoop c=>codeOk ok c
 | _=>true
def wy(E:Env)(run:Option Ref->Nat->Nat->List Item->St->Option St)(dep:Nat)(f:FuncId)(args:List AV)(H:aa):Option (AV × aa):=
 if E.allowed f then
  match E.P.funcs[f]? with
  | some fn=>match fn.body with
   | some c=>if args.length<=fn.ntmps then
    match run none fn.ntmps dep [.code c] ⟨args,H⟩ with
    | some st=>(yN E.P fn st).map (·,st.hp)
    | none=>none
    else none
   | none=>none
  | none=>none
 else none
def ca(g:dv):Nat->AV->Option AV
 | 0,_=>none
 | n+1,x=>
  match x with
  | .agg cs=>(cs.mapM (ca g n)).map .agg
  | .tup cs=>(cs.mapM (ca g n)).map .tup
  | .ifc t x=>(ca g n x).map (.ifc t)
  | .ct r 0 len cap=>
   match g r with
   | some b=>if b.arr=true/\len<=b.es.length then some (if b.jq then .bE b.esz (b.es.take len) cap else .fsl b.esz (b.es.take len) cap) else none
   | none=>none
  | .dsl r 0 len cap=>
   match g r with
   | some b=>if b.arr=false/\len=b.es.length then (if b.jq then (b.es.mapM (view g n)).map λes => .bE b.esz es cap else (b.es.mapM (ca g n)).map λes => .nsl b.esz es cap) else none
   | none=>none
  | .mp r=>
   match oz g r with
   | some a=>if a.all (flat depth) then some (.fsl 0 (.v (.bool true) :: a) none) else none
   | none=>none
  | x=>view g (n+1) x
def dO(E:Env)(run:Option Ref->Nat->Nat->List Item->St->Option St)(f:FuncId)(args:List AV):Option AV:=
 match E.spec f args with
 | some y=>some y
 | none=>match wy E run 0 f args [] with
  | some (x,H)=>if uW (E.mode f)=true then (if (aj H.get depth x).Nodup then ca H.get depth x else none) else view H.get depth x
  | none=>none
def eU(st:Nat)(a:AV):bC:=⟨0,[.v (.int .i64 st),a],false,false⟩
def yW(H:aa)(r:Ref):Option (Nat × AV):=match H.get r with
 | some ⟨0,[.v (.int .i64 st),inf],_,_⟩=>some (st.toNat,inf)
 | _=>none
def vZ(tm:List AV):List Tmp->List AV->List AV
 | t :: a,x :: xs=>vZ (CV tm t x) a xs
 | _,_=>tm
def BI(E:Env)(run:Option Ref->Nat->Nat->List Item->St->Option St)(dep:Nat)(r:Ref)(args:List AV)(H:aa):Option (AV × aa):=
 match yW H r with
 | some (0,.lp f nt ps assign body tm)=>
  if args.length=ps.length/\ps.all (· < nt)=true/\codeOk E.ok assign=true/\codeOk E.ok body=true then
   (match run (some r) nt dep [.code assign,.beginRound,.code body] ⟨vZ tm ps args,H⟩ with
   | some st=>(match yW st.hp r with
    | some (0,_)=>some (.v (.bool true),st.hp)
    | some (n+2,_)=>some (.v (.bool false),st.hp)
    | _=>none)
   | none=>none)
  else none
 | _=>none
def fJ(E:Env)(run:Option Ref->Nat->Nat->List Item->St->Option St)(dep:Nat)(t:vl)(args:List AV)(H:aa):Option (AV × aa):=
 match t with
 | .fn f=>(match E.thrSpec f args H with
  | some z=>some z
  | none=>if E.mode f=2 then wy E run (dep+1) f args H else none)
 | .yld r=>BI E run (dep+1) r args H
def xL(rd:Option Ref)(st:St)(n:Nat):Option St:=match rd with
 | none=>if n=2 then some st else none
 | some r=>match yW st.hp r with
  | some (1,inf)=>some { st with hp:=st.hp.put r (some (eU n inf))}
  | _=>none
def sK(E:Env)(ops:Array Oper):List (Tmp × Tmp):=E.apart ops
def lT:AV->Option Ref
 | .ptr r _ _=>some r
 | .ct r _ _ _=>some r
 | .dsl r _ _ _=>some r
 | .mp r=>some r
 | .ch r=>some r
 | _=>none
def FG(tm:List AV)(p:Tmp × Tmp):Bool:=match lT (dE tm p.1),lT (dE tm p.2) with
 | some r,some r'=>decide (r≠r')
 | _,_=>true
def yJ(st:St)(o:Oper):Bool:=match o.op with
 | .store _ (.tmp t) _=>(match dE st.tm t with
  | .ptr r _ _=>(match st.hp.get r with
   | some b => !b.arr
   | none=>false)
  | _=>true)
 | _=>true
def bsT:Op->Option Tmp
 | .buildSlice _ _ ps=>(match ps.toList with
  | [(_,.tmp t)]=>some t
  | _=>none)
 | _=>none
def I0(E:Env)(st:St)(o:Oper):Bool := !(E.jq o&&B9 o.op)||(match bsT o.op with
 | some t=>(match dE st.tm t with
  | .ct .. => true
  | .v _=>true
  | _=>false)
 | none=>false)
def uh(E:Env)(ops:Array Oper)(st:St):Bool:=(sK E ops).isEmpty||((sK E ops).all (FG st.tm)&&(ops.toList.all (yJ st)&&ops.toList.all (I0 E st)))
def cR(E:Env):Nat->(rd:Option Ref)->(nt dep:Nat)->List Item->St->Option St
 | 0,_,_,_,_,_=>none
 | n+1,rd,nt,dep,items,st=>
  match items with
  | []=>(match rd with
   | none=>some st
   | some _=>xL rd st 0)
  | .beginRound :: k=>(match rd with
   | none=>none
   | some r=>match yW st.hp r with
    | some (0,inf)=>cR E n rd nt dep k { st with hp:=st.hp.put r (some (eU 1 inf))}
    | _=>none)
  | .code c :: k=>
   (match c with
   | .skip | .label _=>cR E n rd nt dep k st
   | .ret=>xL rd st 2
   | .seq a b=>cR E n rd nt dep (.code a :: .code b :: k) st
   | .cond c a b=>
    (match (aW st.tm c).bind Fl with
    | some true=>cR E n rd nt dep (.code a :: k) st
    | some false=>cR E n rd nt dep (.code b :: k) st
    | none=>none)
   | .block id b=>cR E n rd nt dep (.code b :: .inBlock id :: k) st
   | .scope b=>cR E n rd nt dep (.code b :: .inScope b :: k) st
   | .loop b=>cR E n rd nt dep (.code b :: .inLoop b :: k) st
   | .exit id=>(match exitTo id k with
    | some k'=>cR E n rd nt dep k' st
    | none=>if rd.isSome then xL rd st (id+3) else none)
   | .region _ ops draw=>(match oI E (dO E (cR E n)) (fJ E (cR E n) dep) nt dep draw ops ops.toList st with
    | some st'=>if draw && !uh E ops st' then none else cR E n rd nt dep k st'
    | none=>none)
   | .rangeFunc g ps assign body=>(match rd,aW st.tm g with
    | none,some (.fn (.func gi) first captured)=>
     (match fJ E (cR E n) dep (.fn gi) (first++[.yld ⟨dep,nt,st.hp.gen dep nt,0⟩]++captured)
      ((⟨dep,nt,st.hp.gen dep nt,0⟩,some (eU 0 (.lp 0 nt ps.toList assign body st.tm))) :: st.hp) with
     | some (_,d)=>(match yW d ⟨dep,nt,st.hp.gen dep nt,0⟩ with
      | some (0,_)=>cR E n rd nt dep k ⟨st.tm,d.put ⟨dep,nt,st.hp.gen dep nt,0⟩ none⟩
      | some (2,_)=>some ⟨st.tm,d.put ⟨dep,nt,st.hp.gen dep nt,0⟩ none⟩
      | some (id+3,_)=>(match exitTo id k with
       | some k'=>cR E n rd nt dep k' ⟨st.tm,d.put ⟨dep,nt,st.hp.gen dep nt,0⟩ none⟩
       | none=>none)
      | _=>none)
     | none=>none)
    | _,_=>none)
   | _=>none)
  | .inLoop b :: k=>cR E n rd nt dep (.code b :: .inLoop b :: k) st
  | .inBlock _ :: k | .inScope _ :: k=>cR E n rd nt dep k st
  | _=>none
def gf(o:Oper):List Nat:=(o.after.toList.filter (Region.binds .any)).map (·.on)
def C5(a:List Nat):List Nat->Nat
 | []=>0
 | j :: b=>(2 ^ j ||| a.getD j 0) ||| C5 a b
def eG:List Oper->List Nat->List Nat
 | [],acc=>acc
 | o :: os,acc=>eG os (acc++[C5 acc (gf o)])
def P4(c:Call):Bool:=match c.args.toList with
 | [.tmp _]=>true
 | _=>false
def k8:Op->Bool
 | .move _ | .assign _ | .pick .. | .binOp .. | .unOp .. | .makeInterface .. | .makeFunc .. | .fieldAddr .. | .field .. | .index .. | .typeAssert .. | .extract .. | .nilCheck _ | .build .. => false
 | .call c=>match c.callee with
  | .builtin .len=>P4 c
  | .builtin .min | .builtin .max=>false
  | _=>true
 | _=>true
def NM:Op->Bool
 | .call c=>(match c.callee with
  | .builtin .len=>true
  | _=>false)
 | _=>false
def xU(E:Env)(o:Oper):Bool:=k8 o.op && !(E.strict o&&NM o.op)
def j2(ops:Array Oper)(i:Nat):Option Tmp:=(ops[i]?).bind (·.dst)
def lk(E:Env)(ops:Array Oper)(i:Nat):Bool:=(List.range (i+1)).any λj=>match ops[j]? with
 | some o=>jQ E o
 | none=>false
def ze(ops:Array Oper)(A:List Nat)(oi a:Oper)(i j:Nat):Bool:=
 (a.dst.isNone||oi.dst != a.dst) &&
 (match a.dst with | some d => !(oi.looksAt ops).contains d||(A.getD i 0).testBit j | none=>true) &&
 (match oi.dst with | some d => !(a.looksAt ops).contains d||(A.getD i 0).testBit j | none=>true)
def PX(E:Env)(ops:Array Oper)(A:List Nat)(oi a:Oper)(i j:Nat):Bool:=
 ze ops A oi a i j &&
 (!(xU E oi&&xU E a&&lk E ops i)||(A.getD i 0).testBit j)
def DI(E:Env)(ops:Array Oper):Bool:=
 (List.range ops.size).all λi=>match ops[i]? with
  | some oi=>(gf oi).all (· < i)&&(!xU E oi||jQ E oi||oi.dst.isSome) &&
   (List.range i).all λj=>match ops[j]? with
    | some a=>PX E ops (eG ops.toList []) oi a i j
    | none=>true
  | none=>true
def Cx(P:Program):Op->Option Tmp
 | .load _ (.tmp t)=>some t
 | .indexAddr _ (.tmp t) _=>some t
 | .slice _ (.tmp t) _ _ _=>some t
 | .convert _ dst (.tmp t)=>if eE P dst then none else some t
 | .lookup _ (.tmp t) _ _=>some t
 | .call c=>match c.callee with
  | .builtin .len=>(match c.args.toList with
   | [.tmp t]=>some t
   | _=>none)
  | _=>none
 | _=>none
def storeT:Op->Option Tmp
 | .store _ (.tmp t) _=>some t
 | _=>none
def I4:Op->Option Tmp
 | .call c=>match c.callee with
  | .builtin .append=>(match c.args.toList with
   | .tmp t :: _=>some t
   | _=>none)
  | _=>none
 | _=>none
def Th:Op->Option Tmp
 | .mapUpdate _ (.tmp t) _ _=>some t
 | .insert _ (.tmp t) _ _=>some t
 | .mapEntry _ (.tmp t) _=>some t
 | .entryStore _ (.tmp t) _ _=>some t
 | _=>none
def HC(o:Op):Option Tmp:=match Th o with
 | some t=>some t
 | none=>I4 o
def rk(E:Env)(o:Oper):Bool:=E.jq o && !E.strict o&&(match o.op with
 | .call c=>(match c.callee with
  | .value (.func g)=>E.mode g == 2
  | _=>false)
 | _=>false)
def cls(E:Env)(o:Oper):Nat:=
 if xU E o then (if (storeT o.op).isSome then 2 else if (Cx E.P o.op).isSome then 1 else if jQ E o then 4 else 3) else 0
def nO(E:Env)(o:Oper):Option Tmp:=match storeT o.op with
 | some t=>some t
 | none=>match Cx E.P o.op with
  | some t=>some t
  | none=>if B9 o.op then bsT o.op else HC o.op
def settled(E:Env)(ops:Array Oper)(oi c:Oper):Bool:=match nO E oi,nO E c with
 | some a,some b=>(sK E ops).contains (a,b)||(sK E ops).contains (b,a)
 | _,_=>false
def blind(E:Env)(o:Oper):Bool:=cls E o == 3&&(match o.op with
 | .alloc _ | .makeMap _ none=>true
 | .call c=>c.args.toList.isEmpty&&(match c.callee with
  | .value (.func _)=>true
  | _=>false)
 | _=>false)
def Qa(E:Env)(o:Oper):Bool:=cls E o == 3&&(match o.op with
 | .alloc _ | .makeMap _ none=>true
 | _=>false)
def pH(E:Env)(oi a:Oper):Bool:=Qa E oi&&((I4 a.op).isSome&&a.dst.isSome)
def rE(E:Env)(oi a:Oper):Bool:=(cls E oi == 2&&Nat.ble 3 (cls E a) && !blind E a)||(cls E a == 2&&Nat.ble 3 (cls E oi) && !blind E oi)||(Nat.ble 3 (cls E oi)&&Nat.ble 3 (cls E a)&&(cls E oi == 4||cls E a == 4) && !pH E oi a && !pH E a oi)
def DT(b a:Nat):Bool:=(b == 2&&(a == 1||a == 2))||(a == 2&&b == 1)||(b == 1&&a == 4)||(b == 4&&a == 1)
def P3(E:Env)(ops:Array Oper)(A:List Nat)(oi a:Oper)(i j:Nat):Bool:=
 ze ops A oi a i j &&
 (!rE E oi a||(A.getD i 0).testBit j) &&
 (!DT (cls E oi) (cls E a)||rk E oi||rk E a||(A.getD i 0).testBit j||settled E ops oi a)
def Pl(ops:Array Oper)(i:Nat)(t:Option Tmp):Bool:=match t with
 | some t=>(List.range ops.size).all λk=>j2 ops k != some t||decide (k<i)
 | none=>false
def Rw(E:Env)(ops:Array Oper)(i:Nat)(o:Oper):Bool:=match cls E o with
 | 0=>true
 | 3=>o.dst.isSome
 | _=>rk E o||Pl ops i (nO E o)
def Wm(E:Env)(ops:Array Oper):Bool := !(sK E ops).isEmpty &&
 (List.range ops.size).all λi=>match ops[i]? with
  | some oi=>(gf oi).all (· < i)&&Rw E ops i oi &&
   (List.range i).all λj=>match ops[j]? with
    | some a=>P3 E ops (eG ops.toList []) oi a i j
    | none=>true
  | none=>true
def Da(E:Env)(ops:Array Oper):Bool:=DI E ops||Wm E ops
def pd{d:Type}{P:Program}{s:Sem d} : ∀ {a:d},bO P s=some a ->∀w,s.run P w = .ok a w:=by
 induction s with| pure a=>intro b h w;simp[bO]at h;subst h;rfl| program k c=>intro a h w;exact c P h w| mark m k c=>intro a h w;exact c h w| _=>intro a h;simp[bO]at h
def iG{g i:Type}{f:g->Option i} : ∀ {l:List g} {c:List i},l.mapM f=some c->c.length=l.length:=by
 intro l;induction l with
 | nil=>intro c h;simp at h;subst h;rfl
 | cons a l j=>intro c h;simp only[oo,th,uu,jb]at h;obtain⟨b,_,bs,d,e⟩:=h;simp at e;subst e;simp[j d]
def pD{k g:Type}{f:k->Option g} : ∀ {l:List k} {d:List g},l.mapM f=some d ->∀(i:Nat)(y:g),d[i]?=some y ->∃x,l[i]?=some x/\f x=some y:=by
 intro l;induction l with
 | nil=>intro d h i y c;simp at h;subst h;simp at c
 | cons a l m=>
  intro d h i y c;simp only[oo,th,uu,jb]at h;obtain⟨b,n,bs,e,j⟩:=h;simp at j;subst j;cases i with
  | zero=>simp at c;subst c;exact⟨a,rfl,n⟩
  | succ i=>simp at c;simpa using m e i y c
def mB{c e:Type}{f:c->Option e}{l:List c}{b:List e}(h:l.mapM f=some b)(i:Nat)(x:c)(d:l[i]?=some x) : ∃y,b[i]?=some y/\f x=some y:=by
 have j:=iG h;have hi:i<b.length:=by rw[j];exact(fg.1 d).1
 obtain⟨k,a,g⟩:=pD h i b[i] (eu hi);rw[d]at a;cases a;exact⟨_,eu hi,g⟩
abbrev Mem:=Nat->Nat->Option Value
structure Loc where
 b:Nat
 esz:Nat
 n:Nat
abbrev Map:=Ref->Option Loc
def eM:Map:=λ_=>none
inductive VR (M:Mem):Map->AV->Value->Prop
 | v {ι x} (h:scalar x=true):VR M ι (.v x) x
 | agg {ι cs vs} (hl:cs.length=vs.size) (h : ∀(i:Nat) c u,cs[i]?=some c->vs[i]?=some u->VR M ι c u):VR M ι (.agg cs) (.agg vs)
 | tup {ι cs vs} (h0:cs≠[]) (hl:cs.length=vs.size) (h : ∀(i:Nat) c u,cs[i]?=some c->vs[i]?=some u->VR M ι c u):VR M ι (.tup cs) (.tuple vs)
 | bE {ι esz es cap a c} (cell:Nat->Nat->Value) (hs:a.spot=none\/es=[]) (hc:es.length<=c) (hk : ∀k,cap=some k->c=k)
  (hm : ∀i j,i<es.length->j<esz->M a.block (a.off+(i * esz+j))=some (cell i j)/\(cell i j).oneCell'=true)
  (he : ∀e∈es,e.cells.length=esz)
  (h : ∀(i j:Nat) e x,es[i]?=some e->e.cells[j]?=some x->VR M eM x (cell i j)):VR M ι (.bE esz es cap) (.slice (some a) es.length c)
 | ct {ι r off len cap l a c} (hr:ι r=some l) (hb:a.block=l.b) (hs:a.spot=none) (ha:c=0\/a.off=off * l.esz) (hc:len<=c) (hn:c=0\/off+c<=l.n)
  (hk : ∀k,cap=some k->c=k) (hz:0<l.esz):VR M ι (.ct r off len cap) (.slice (some a) len c)
 | dsl {ι r off len cap l a c} (hr:ι r=some l) (hb:a.block=l.b) (hs:a.spot=none) (ha:c=0\/a.off=off * l.esz) (hc:len<=c) (hn:c=0\/off+c<=l.n)
  (hk : ∀k,cap=some k->c=k) (hz:0<l.esz):VR M ι (.dsl r off len cap) (.slice (some a) len c)
 | ptr {ι r i j l} (hr:ι r=some l) (hz:0<l.esz):VR M ι (.ptr r i j) (.pointer (some ⟨l.b,i * l.esz+j,none⟩))
 | iptr {ι esz es i j b o} (cell:Nat->Nat->Value)
  (hm : ∀i j,i<es.length->j<esz->M b (o+(i * esz+j))=some (cell i j)/\(cell i j).oneCell'=true)
  (he : ∀e∈es,e.cells.length=esz)
  (h : ∀(i j:Nat) e x,es[i]?=some e->e.cells[j]?=some x->VR M eM x (cell i j)):VR M ι (.iptr esz es i j) (.pointer (some ⟨b,o+(i * esz+j),none⟩))
 | fn {ι f a b a' b'} (ha:a.length=a'.size) (hb:b.length=b'.size) (h : ∀(i:Nat) c u,a[i]?=some c->a'[i]?=some u->VR M ι c u)
  (h' : ∀(i:Nat) c u,b[i]?=some c->b'[i]?=some u->VR M ι c u):VR M ι (.fn f a b) (.func f a' b')
 | ifc {ι t x u} (h:VR M ι x u):VR M ι (.ifc t x) (.iface t u)
 | yld {ι r l} (hr:ι r=some l) (hz:l.esz=0):VR M ι (.yld r) (.func (.yield l.b) #[] #[])
 | mp {ι r l} (hr:ι r=some l) (hz:l.esz=0):VR M ι (.mp r) (.map (some l.b))
 | ch {ι r l} (hr:ι r=some l) (hz:l.esz=0):VR M ι (.ch r) (.chan (some l.b))
 | Az {ι u} (h:u.oneCell'=true):VR M ι (.Az u) u
def VR.mono{M M':Mem}(B : ∀b o x,M b o=some x->M' b o=some x){ι:Map}{x:AV}{u:Value}(h:VR M ι x u) :
 ∀a:Map,(∀r l,ι r=some l->a r=some l)->VR M' a x u:=by
 induction h with| v h=>intro a _;exact .v h| agg y _ k=>intro a hi;exact .agg y λi c u d p=>k i c u d p a hi| tup C y _ k=>intro a hi;exact .tup C y λi c u d p=>k i c u d p a hi| bE cell t d w hm he _ k=>intro a hi;exact .bE cell t d w (λi j n m=>⟨B _ _ _ (hm i j n m).1,(hm i j n m).2⟩) he λi j e x n m=>k i j e x n m eM (λ_ _ h=>h)| ct g q t s d z w f=>intro a hi;exact .ct (hi _ _ g) q t s d z w f| dsl g q t s d z w f=>intro a hi;exact .dsl (hi _ _ g) q t s d z w f| ptr g f=>intro a hi;exact .ptr (hi _ _ g) f| yld g f=>intro a hi;exact .yld (hi _ _ g) f| mp g f=>intro a hi;exact .mp (hi _ _ g) f| ch g f=>intro a hi;exact .ch (hi _ _ g) f| Az h=>intro a _;exact .Az h| iptr cell hm he _ k=>intro a hi;exact .iptr cell (λi j n m=>⟨B _ _ _ (hm i j n m).1,(hm i j n m).2⟩) he λi j e x n m=>k i j e x n m eM (λ_ _ h=>h)| fn s q _ _ k A=>intro a hi;exact .fn s q (λi c u d p=>k i c u d p a hi) λi c u d p=>A i c u d p a hi| ifc _ k=>intro a hi;exact .ifc (k a hi)
def VR.up{M:Mem}{x:AV}{u:Value}(h:VR M eM x u)(ι:Map):VR M ι x u:=h.mono (λ_ _ _ h=>h) ι (λ_ _ h=>by cases h)
def mM(M:Mem)(ι:Map)(a:List AV)(us:List Value):Prop:=a.length=us.length /\∀(i:Nat) x u,a[i]?=some x->us[i]?=some u->VR M ι x u
def mM.nil{M:Mem}{ι:Map}:mM M ι [] []:=⟨rfl,λi x u h=>by simp at h⟩
def mM.cons{M:Mem}{ι:Map}{x:AV}{u:Value}{d:List AV}{us:List Value}(h:VR M ι x u)(c:mM M ι d us):mM M ι (x :: d) (u :: us):=
 ⟨by simp[c.1],λi y v a b=>by
  cases i with| zero=>simp at a b;subst a;subst b;exact h| succ i=>simp at a b;exact c.2 i y v a b⟩
def mM.append{M:Mem}{ι:Map}{c f:List AV}{us e:List Value}(h:mM M ι c us)(d:mM M ι f e):mM M ι (c++f) (us++e):=
 ⟨by simp[h.1,d.1],λi y v b a=>by
  rcases fQ i c.length with hi | hi
  ·rw[kR hi]at b;rw[kR (h.1 ▸ hi)]at a;exact h.2 i y v b a
  rw[kj hi]at b;rw[kj (h.1 ▸ hi)]at a;rw[<-h.1]at a;exact d.2 _ y v b a⟩
def mM.mono{M M':Mem}{ι a:Map}{d:List AV}{us:List Value}(h:mM M ι d us)(e : ∀b o x,M b o=some x->M' b o=some x)(c : ∀r l,ι r=some l->a r=some l):mM M' a d us:=
 ⟨h.1,λi x u g f=>(h.2 i x u g f).mono e a c⟩
def mM.take{M:Mem}{ι:Map}{d:List AV}{us:List Value}(h:mM M ι d us)(n:Nat):mM M ι (d.take n) (us.take n):=
 ⟨by simp[h.1],λi x u a c=>by
  rw[AF]at a c;split at a;·rename_i b;rw[if_pos b]at c;exact h.2 i x u a c
  cases a⟩
def mM.drop{M:Mem}{ι:Map}{a:List AV}{us:List Value}(h:mM M ι a us)(n:Nat):mM M ι (a.drop n) (us.drop n):=
 ⟨by simp[h.1],λi x u c b=>by
  rw[Cf]at c b;exact h.2 _ x u c b⟩
def VR.rh{M:Mem}{ι:Map}{cs:List AV}{b:Array Value}:VR M ι (.agg cs) (.agg b)↔mM M ι cs b.toList:=
 ⟨λh=>by cases h with | agg d h=>exact⟨by simpa using d,λi x u e a=>h i x u e (by simpa using a)⟩,
  λh => .agg (by simpa using h.1) λi c u f a=>h.2 i c u f (by simpa using a)⟩
def VR.cells{M:Mem}{ι:Map}{x:AV}{u:Value}(h:VR M ι x u):mM M ι x.cells u.cells.toList:=by
 have one : ∀ {x:AV} {u:Value},VR M ι x u->x.cells=[x]->u.cells = #[u]->mM M ι x.cells u.cells.toList:=by
  intro x u h m j;rw[m,j];exact mM.cons h mM.nil
 cases h with
 | agg k h=>exact⟨by simpa [AV.cells,Value.cells] using k,λi x u m j=>h i x u (by simpa [AV.cells] using m) (by simpa [Value.cells] using j)⟩
 | v h=>refine one (.v h) rfl ?_;cases u<;>first | rfl | (simp[scalar]at h)
 | tup o k h=>exact one (.tup o k h) rfl rfl
 | bE cell e g f hm he h=>exact one (.bE cell e g f hm he h) rfl rfl
 | ct b c e d g l f a=>exact one (.ct b c e d g l f a) rfl rfl
 | dsl b c e d g l f a=>exact one (.dsl b c e d g l f a) rfl rfl
 | ptr b a=>exact one (.ptr b a) rfl rfl
 | yld b a=>exact one (.yld b a) rfl rfl
 | mp b a=>exact one (.mp b a) rfl rfl
 | ch b a=>exact one (.ch b a) rfl rfl
 | Az h=>exact one (.Az h) rfl (by cases u<;>first | rfl | (cases h))
 | iptr cell hm he h=>exact one (.iptr cell hm he h) rfl rfl
 | fn d c h n=>exact one (.fn d c h n) rfl rfl
 | ifc h=>exact one (.ifc h) rfl rfl
def VR.one{M:Mem}{ι:Map}{x:AV}{u:Value}(h:VR M ι x u)(a:x.one=true):u.oneCell'=true:=by
 cases h with
 | v h=>cases u<;>first | rfl | (simp[AV.one]at a)
 | agg b h=>simp[AV.one]at a
 | tup c b h=>simp[AV.one]at a
 | bE=>rfl
 | ct=>rfl
 | dsl=>rfl
 | ptr=>rfl
 | iptr=>rfl
 | fn=>rfl
 | ifc=>rfl
 | yld=>rfl
 | mp=>rfl
 | ch=>rfl
 | Az h=>exact h
def pe{M:Mem}{ι:Map}{u:Value}{x:AV}(h:jj u=some x):VR M ι x u:=by
 unfold jj at h;split at h;·cases h;exact .v (by assumption)
 cases h
def DP{M:Mem}{ι:Map}{us:List Value}{b:List AV}(h:us.mapM jj=some b):mM M ι b us:=
 ⟨iG h,λi x u e d=>by
  obtain⟨f,a,c⟩:=pD h i x e;rw[d]at a;cases a;exact pe c⟩
def jV{M:Mem}{ι:Map}{u:Value}{x:AV}(h:ofValue u=some x):VR M ι x u:=by
 cases u with
 | agg cs=>simp only[ofValue,bU]at h;obtain⟨xs,d,rfl⟩:=h;exact VR.rh.2 (DP d)
 | func f a b=>
  simp only[ofValue]at h;split at h;·rename_i g;cases h;simp at g;obtain⟨rfl,rfl⟩:=g;exact .fn rfl rfl (λi c u j=>by simp at j) (λi c u j=>by simp at j)
  cases h
 | tuple o=>
  simp only[ofValue]at h;split at h;·rename_i k;simp at k;subst k;cases h;exact .v rfl
  rename_i k;simp only[bU]at h;obtain⟨xs,d,rfl⟩:=h;have l:=DP (M:=M) (ι:=ι) d;refine .tup ?_ (by simpa using l.1) λi c u j n=>l.2 i c u j (by simpa using n);intro e;subst e;have:=l.1;simp at this;exact k (by simpa using Mt this.symm)
 | iface t x=>simp only[ofValue,bU]at h;obtain⟨y,m,rfl⟩:=h;exact .ifc (pe m)
 | _=>exact pe (by simpa [ofValue] using h)
def Pe{M:Mem}{ι:Map}{x:AV}{u v:Value}(h:VR M ι x u)(a:J2 x=some v):u=v:=by
 cases h<;>simp[J2]at a;exact a
def vX{M:Mem}{ι:Map}{x:AV}{u v:Value}(h:VR M ι x u)(e:k7 x=some v):u=v:=by
 cases h<;>simp[k7]at e;·exact e
 rename_i cs f m g;obtain⟨l,a,rfl⟩:=e;congr 1;apply Fw;intro i;rcases fQ i f.size with hi | hi
 ·have b:=iG a;have d:i<l.length:=by omega
  obtain⟨c,k,j⟩:=pD a i l[i] (eu d);have:=Pe (g i c f[i] k (kY hi)) j;simp[this,kY hi,eu d]
 have b:=iG a;rw[Array.getElem?_eq_none hi];simp;omega
def bC.map(k:bC)(ι:Map):Map:=if k.arr then eM else ι
def Di(z a:Nat)(fz:Nat × Nat):Prop:=(∀o,o<a ->¬(fz.1<=o/\(o<fz.2\/fz.2<fz.1)))/\(1<z ->¬(fz.1<=a/\a<fz.2))
def Di.zero(z n:Nat):Di z n (0,0):=⟨λo _ h=>by simp at h,λ_ h=>by simp at h⟩
structure gm (M:Mem) (ι:Map) (w:World) (l:Loc) (k:bC):Prop where
 esz:l.esz=k.esz
 heap : ∃arr T fz,w.heap[l.b]?=some (.cells arr T fz)/\arr.size=l.n * k.esz/\Di k.esz arr.size fz /\
  ∀(i j:Nat) e x,k.es[i]?=some e->e.cells[j]?=some x ->∃u,arr[i * k.esz+j]?=some u/\u.oneCell'=true/\VR M (k.map ι) x u
 len:k.es.length<=l.n
 cells : ∀e∈k.es,e.cells.length=k.esz
 frozen : ∀o x,M l.b o=some x->k.jq=true/\o<k.es.length * k.esz
def DB(n:Nat)(r:Loop):Prop:=match n with
 | 0=>r.state = .ready/\r.pending=none
 | 1=>r.state = .busy
 | 2=>r.state = .done/\r.pending=some .ret
 | id+3=>r.state = .done/\r.pending=some (.exit id)
def Ja(M:Mem)(ι:Map)(w:World)(l:Loc)(k:bC):Prop:=
 ∃(n nt:Nat) (ps:List Tmp) (assign body:Code) (tm:List AV) (r:Loop),k.esz=0/\k.arr=false/\k.es=[.v (.int .i64 n),.lp 0 nt ps assign body tm]/\w.heap[l.b]?=some (.loop r)/\r.params=ps.toArray/\r.assign=assign/\r.body=body /\
  r.tmps.size=nt/\(∀t,VR M ι (dE tm t) (r.tmps.getD t undef))/\DB n r
def OG(M:Mem)(ι:Map)(w:World)(l:Loc)(k:bC):Prop:=
 ∃(c:List AV) (a:Array MapEntry),k.esz=0/\k.arr=false/\k.es = .v (.bool true) :: c/\w.heap[l.b]?=some (.map a a.size)/\a.size=c.length /\
  ∀(i:Nat) ent e,c[i]?=some ent->a[i]?=some e ->∃d f,ent = .tup [d,f]/\k7 d=some e.key/\VR M ι f e.val/\e.born=i
def Je(M:Mem)(ι:Map)(w:World)(l:Loc)(k:bC):Prop:=
 ∃(cap s r:Nat) (c:Bool) (a:List AV) (arr:Array Value),k.esz=0/\k.arr=false/\k.es = .v (.bool false) :: .v (.int .i64 cap) :: .v (.bool c) :: a/\w.heap[l.b]?=some (.chan cap arr c s r false) /\
  arr.size=a.length /\∀(i:Nat) x u,a[i]?=some x->arr[i]?=some u->VR M ι x u
def oW(M:Mem)(ι:Map)(w:World)(l:Loc)(k:bC):Prop:=Ja M ι w l k\/OG M ι w l k\/Je M ι w l k
structure qp (M:Mem) (ι:Map) (w:World) (l:Loc) (k:bC):Prop where
 esz:l.esz=k.esz
 cellsOk:0<k.esz->gm M ι w l k
 objOk:k.esz=0->oW M ι w l k
 frozen : ∀o x,M l.b o=some x->k.jq=true/\o<k.es.length * k.esz
def gm.TN{M:Mem}{ι:Map}{w:World}{l:Loc}{k:bC}(h:gm M ι w l k)(a:0<k.esz):qp M ι w l k:=⟨h.esz,λ_=>h,λe=>by omega,h.frozen⟩
def oW.zero{M:Mem}{ι:Map}{w:World}{l:Loc}{k:bC}(h:oW M ι w l k):k.esz=0/\k.arr=false:=by
 rcases h with ⟨n,nt,ps,as,d,tm,r,b,a,_⟩ | ⟨c,entries,b,a,_⟩ | ⟨_,_,_,_,_,_,b,a,_⟩
 ·exact⟨b,a⟩
 ·exact⟨b,a⟩
 exact⟨b,a⟩
def oW.obj{M:Mem}{ι:Map}{w:World}{l:Loc}{k:bC}(h:oW M ι w l k):(∃r,w.heap[l.b]?=some (.loop r))\/(∃es c,w.heap[l.b]?=some (.map es c)) \/∃a b c d e f,w.heap[l.b]?=some (.chan a b c d e f):=by
 rcases h with ⟨n,nt,ps,as,i,tm,r,_,_,_,h,_⟩ | ⟨g,entries,_,_,_,h,_⟩ | ⟨_,_,_,_,_,_,_,_,_,h,_⟩
 ·exact .inl ⟨_,h⟩
 ·exact .inr (.inl ⟨_,_,h⟩)
 exact .inr (.inr ⟨_,_,_,_,_,_,h⟩)
def oW.same{M:Mem}{ι:Map}{w:World}{l:Loc}{k k':bC}(h:oW M ι w l k)(i:k'.esz=k.esz)(f:k'.arr=k.arr)(g:k'.es=k.es):oW M ι w l k':=by
 rcases h with ⟨n,nt,ps,as,m,tm,r,g1,b,e,d⟩ | ⟨a,entries,g1,b,e,d⟩ | ⟨c,s,r,j,buf,arr,g1,b,e,d⟩
 ·exact .inl ⟨n,nt,ps,as,m,tm,r,i.trans g1,f.trans b,g.trans e,d⟩
 ·exact .inr (.inl ⟨a,entries,i.trans g1,f.trans b,g.trans e,d⟩)
 exact .inr (.inr ⟨c,s,r,j,buf,arr,i.trans g1,f.trans b,g.trans e,d⟩)
def oW.TN{M:Mem}{ι:Map}{w:World}{l:Loc}{k:bC}(h:oW M ι w l k)(c:l.esz=0)(a : ∀o x,M l.b o=some x->False):qp M ι w l k:=
 ⟨by rw[c,h.zero.1],λe=>by have:=h.zero.1;omega,λ_=>h,λo x d=>(a o x d).elim⟩
def qp.pos{M:Mem}{ι:Map}{w:World}{l:Loc}{k:bC}(h:qp M ι w l k)(a:k.arr=true):0<k.esz:=by
 rcases EC k.esz with e | e
 ·have:=(h.objOk e).zero.2;rw[a]at this;cases this
 exact e
structure iA (M:Mem) (ι:Map) (g:dv) (w:World):Prop where
 mem : ∀b o x,M b o=some x->w.cell? ⟨b,o,none⟩=some x
 live : ∀r k,g r=some k ->∃l,ι r=some l/\qp M ι w l k
 inj : ∀r r' k k' l l',g r=some k->g r'=some k'->ι r=some l->ι r'=some l'->l.b=l'.b->r=r'
def iA.at{M:Mem}{ι:Map}{g:dv}{w:World}(d:iA M ι g w){r:Ref}{b:bC}{l:Loc}(f:ι r=some l)(i:0<l.esz)(e:g r=some b):gm M ι w l b:=by
 obtain⟨h,a,c⟩:=d.live r b e;rw[f]at a;cases a;exact c.cellsOk (by have:=c.esz;omega)
def oW.mono{M M':Mem}{ι d:Map}{w w':World}{l:Loc}{k:bC}(h:oW M ι w l k)(z : ∀b o x,M b o=some x->M' b o=some x)(f : ∀r l,ι r=some l->d r=some l)(B:w'.heap[l.b]?=w.heap[l.b]?):oW M' d w' l k:=by
 rcases h with ⟨n,nt,ps,as,N,tm,r,q,A,v,g,p,y,j,G,J,L⟩ | ⟨m,entries,q,v,g,p,y,j⟩ | ⟨c,s,r,E,buf,arr,q,v,g,p,y,j⟩
 ·exact .inl ⟨n,nt,ps,as,N,tm,r,q,A,v,by rw[B];exact g,p,y,j,G,λt=>(J t).mono z d f,L⟩
 ·exact .inr (.inl ⟨m,entries,q,v,g,by rw[B];exact p,y,λi C e a b=>by obtain⟨K,H,I,F,D⟩:=j i C e a b;exact⟨K,H,I,F,D.1.mono z d f,D.2⟩⟩)
 exact .inr (.inr ⟨c,s,r,E,buf,arr,q,v,g,by rw[B];exact p,y,λi x u a b=>(j i x u a b).mono z d f⟩)
structure vg (M:Mem) (ι:Map) (g:dv) (w:World) (M':Mem) (ι':Map) (g':dv) (w':World):Prop where
 os:w'.os=w.os
 tape:w'.tape=w.tape
 output:w'.output=w.output
 size:w.heap.size<=w'.heap.size
 chg : ∀b,b<w.heap.size->(∀r k l,g r=some k->ι r=some l->l.b≠b)->w'.heap[b]?=w.heap[b]?
 mem : ∀b o x,M b o=some x->M' b o=some x
 map : ∀r l,ι r=some l->ι' r=some l
 live : ∀r k l,g' r=some k->ι' r=some l->w.heap.size<=l.b \/∃r0 k0 l0,g r0=some k0/\ι r0=some l0/\l0.b=l.b
 new : ∀b o x,M' b o=some x->M b o=some x\/w.heap.size<=b \/∃r0 k0 l0,g r0=some k0/\ι r0=some l0/\l0.b=b
def vg.refl{M:Mem}{ι:Map}{g:dv}{w:World}:vg M ι g w M ι g w:=
 ⟨rfl,rfl,rfl,bM _,λ_ _ _=>rfl,λ_ _ _ h=>h,λ_ _ h=>h,λr k l h a => .inr ⟨r,k,l,h,a,rfl⟩,λ_ _ _ h => .inl h⟩
def vg.trans{M ι g w M' ι' g' w' M'' ι'' g'' w''}(h:vg M ι g w M' ι' g' w')(d:vg M' ι' g' w' M'' ι'' g'' w''):vg M ι g w M'' ι'' g'' w'':=by
 have i : ∀b,b<w.heap.size->(∀r k l,g r=some k->ι r=some l->l.b≠b) ->∀r k l,g' r=some k->ι' r=some l->l.b≠b:=by
  intro b t c r k l z s e;rcases h.live r k l z s with a | ⟨q,m,p,a,n,f⟩
  ·omega
  exact c q m p a n (f.trans e)
 refine⟨d.os.trans h.os,d.tape.trans h.tape,d.output.trans h.output,wT h.size d.size,?_,λb o x A=>d.mem b o x (h.mem b o x A),
  λr l s=>d.map r l (h.map r l s),?_,?_⟩
 ·intro b t c;rw[d.chg b (AE t h.size) (i b t c),h.chg b t c]
 ·intro r k l z s;rcases d.live r k l z s with a | ⟨q,m,p,a,n,f⟩
  ·exact .inl (wT h.size a)
  rcases h.live q m p a n with j | ⟨r1,k1,y,j,v,u⟩
  ·exact .inl (f ▸ j)
  exact .inr ⟨r1,k1,y,j,v,u.trans f⟩
 intro b o x A;rcases d.new b o x A with a | a | ⟨q,m,p,a,n,f⟩
 ·exact h.new b o x a
 ·exact .inr (.inl (wT h.size a))
 rcases h.live q m p a n with j | ⟨r1,k1,y,j,v,u⟩
 ·exact .inr (.inl (f ▸ j))
 exact .inr (.inr ⟨r1,k1,y,j,v,u.trans f⟩)
def j7{w:World}{b o:Nat}{arr:Array Value}{T:TypeId}{fz:Nat × Nat}(h:w.heap[b]?=some (.cells arr T fz)):w.cell? ⟨b,o,none⟩=arr[o]?:=by
 simp[World.cell?,h]
def iM(b o n:Nat):(⟨b,o,none⟩:Addr).add n=⟨b,o+n,none⟩:=by
 unfold Addr.add;split<;>simp_all
def kV{a:Addr}(h:a.spot=none):a=⟨a.block,a.off,none⟩:=by cases a;simp_all
def vW{P:Program}{t:TypeId}{n:Nat}(h:aV P t=some n) : ∃i,P.info? t=some i/\i.size=n:=by
 simpa [aV] using h
def dm{P:Program}{t:TypeId}{n:Nat}(h:aV P t=some n)(w:World):(sizeOf t).run P w = .ok n w:=by
 obtain⟨i,hi,rfl⟩:=vW h;simp[sizeOf,typeInfo,hi]
def bL{P:Program}{t:TypeId}{d:TypeDesc}(h:P.underlying t=some d)(w:World):(underlying t).run P w = .ok d w:=by
 simp[underlying,h]
def BG{P:Program}{t:TypeId}{b:Bool}(h:fK P t=some b)(w:World):(isAgg t).run P w = .ok b w:=by
 simp only[fK,bU]at h;obtain⟨d,hd,rfl⟩:=h;simp only[isAgg,iQg,bL hd,iQd];cases d<;>rfl
def yL{P:Program}{t:TypeId}{z:AV}(h:fk P t=some z)(w:World) : ∃u,(zeroValue t).run P w = .ok u w/\ofValue u=some z:=by
 simp only[fk,jb]at h;obtain⟨u,⟨i,hi,b⟩,a⟩:=h;exact⟨u,by simp[zeroValue,typeInfo,hi,b],a⟩
def CL(M:Mem)(ι:Map)(w:World)(b o:Nat)(a:List AV):Prop:=
 ∀(j:Nat) x,a[j]?=some x ->∃u,w.cell? ⟨b,o+j,none⟩=some u/\u.oneCell'=true/\VR M ι x u
def CL.values{M ι w b o}{c:List AV}(h:CL M ι w b o c) : ∃us:List Value,mM M ι c us/\(∀u∈us,u.oneCell'=true) /\∀(j:Nat) u,us[j]?=some u->w.cell? ⟨b,o+j,none⟩=some u:=by
 induction c generalizing o with| nil=>exact⟨[],mM.nil,by simp,by simp⟩| cons x c g=>
  obtain⟨u,i,k,m⟩:=h 0 x rfl;obtain⟨us,f,e,l⟩:=g (o:=o+1) λj y d=>by
   have:=h (j+1) y (by simpa using d);rwa [show o+(j+1)=o+1+j by omega]at this
  refine⟨u :: us,mM.cons m f,by simpa [k] using e,?_⟩;intro j v a;cases j with
  | zero=>simp at a;subst a;exact i
  | succ j=>simp at a;have:=l j v a;rwa [show o+(j+1)=o+1+j by omega]
def CL.sub{M ι w b o}{c:List AV}(h:CL M ι w b o c)(j n:Nat):CL M ι w b (o+j) ((c.drop j).take n):=by
 intro i x a;rw[AF]at a;split at a;·rw[Cf]at a;obtain⟨u,e,d⟩:=h _ x a;exact⟨u,by rwa [show o+j+i=o+(j+i) by omega],d⟩
 cases a
def wY{P:Program}{t:TypeId}{f:Bool}{n:Nat}(h:fK P t=some f)(p:aV P t=some n){M ι w b o}{cs:List AV}{j:Nat}{y:AV}
 (i:CL M ι w b o cs)
 (e:(if f then (if j+n<=cs.length/\0<n then some (AV.agg ((cs.drop j).take n)) else none) else cs[j]?)=some y) :
 ∃u,(loadVar t ⟨b,o+j,none⟩).run P w = .ok u w/\VR M ι y u:=by
 cases f with| false=>simp at e;obtain⟨u,m,_,l⟩:=i j y e;exact⟨u,by simp[loadVar,BG h,m],l⟩| true=>
  simp at e;obtain⟨⟨x,s⟩,rfl⟩:=e;obtain⟨us,d,_,a⟩:=(i.sub j n).values;have c:us.length=n:=by rw[<-d.1];simp;omega
  refine⟨.agg us.toArray,?_,VR.rh.2 (by simpa using d)⟩;have g:=run_loadCells_list (P:=P) w ⟨b,o+j,none⟩ us (λk v q=>by rw[iM];exact a k v q);rw[c]at g;simp[loadVar,BG h,dm p,g]
def gm.cell{M ι w l k}(h:gm M ι w l k)(i:Nat){e:AV}(f:k.es[i]?=some e):CL M (k.map ι) w l.b (i * k.esz) e.cells:=by
 obtain⟨arr,T,fz,a,_,_,n⟩:=h.heap;intro j x m;obtain⟨u,d,g,c⟩:=n i j e x f m;exact⟨u,by rw[j7 a];exact d,g,c⟩
def bC.map_le(k:bC)(ι:Map) : ∀r l,k.map ι r=some l->ι r=some l:=by
 intro r l h;unfold bC.map at h;split at h;·cases h
 exact h
def Rx{P:Program}{t:TypeId}{f:Bool}{n:Nat}(z:fK P t=some f)(s:aV P t=some n){M ι g w}(l:iA M ι g w)
 {r:Ref} {i j:Nat} {k:bC} {y:AV} {a:Value} (q:VR M ι (.ptr r i j) a) (x:g r=some k) (b:bP k.es i j n f=some y) :
 ∃u,(Instr.loadAt t a).run P w = .ok u w/\VR M ι y u:=by
 cases q with | ptr p o=>
 have c:=l.at p o x;unfold bP at b;split at b;·cases b
 rename_i e v;obtain⟨u,d,m⟩:=wY z s (c.cell i v) b;refine⟨u,?_,m.mono (λ_ _ _ h=>h) ι (k.map_le ι)⟩;rw[<-c.esz]at d;simp[Instr.loadAt,Instr.sureAddr,d]
def CL.acH{M:Mem}{w:World}(g : ∀b o x,M b o=some x->w.cell? ⟨b,o,none⟩=some x){esz b o i:Nat}{es:List AV}{cell:Nat->Nat->Value}
 (d : ∀i j,i<es.length->j<esz->M b (o+(i * esz+j))=some (cell i j)/\(cell i j).oneCell'=true)
 (k : ∀e∈es,e.cells.length=esz) (h : ∀(i j:Nat) e x,es[i]?=some e->e.cells[j]?=some x->VR M eM x (cell i j)) {e:AV} (hi:es[i]?=some e):CL M eM w b (o+i * esz) e.cells:=by
 intro j x f;have c:j<esz:=by
  rw[<-k e (ja hi)];exact(fg.1 f).1
 have a:i<es.length:=(fg.1 hi).1;refine⟨cell i j,?_,(d i j a c).2,h i j e x hi f⟩;rw[show o+i * esz+j=o+(i * esz+j) by omega];exact g _ _ _ (d i j a c).1
def WA{P:Program}{t:TypeId}{f:Bool}{n:Nat}(p:fK P t=some f)(m:aV P t=some n){M ι w}(l : ∀b o x,M b o=some x->w.cell? ⟨b,o,none⟩=some x)
 {esz i j:Nat} {es:List AV} {y:AV} {a:Value} (g:VR M ι (.iptr esz es i j) a) (c:bP es i j n f=some y) :
 ∃u,(Instr.loadAt t a).run P w = .ok u w/\VR M ι y u:=by
 cases g with | iptr cell q he h=>
 rename_i b o;unfold bP at c;split at c;·cases c
 rename_i e hi;obtain⟨u,d,k⟩:=wY p m (CL.acH l q he h hi) c;refine⟨u,?_,k.up ι⟩;rw[show o+i * esz+j=o+(i * esz+j) by omega]at d;simp[Instr.loadAt,Instr.sureAddr,d]
structure Er (w w':World) (o:Obj):Prop where
 os:w'.os=w.os
 tape:w'.tape=w.tape
 output:w'.output=w.output
 heap:w'.heap=w.heap.push o
def Er.cell{w w':World}{o:Obj}(h:Er w w' o){a:Addr}{x:Value}(b:w.cell? a=some x):w'.cell? a=some x:=by
 have c:=iQm w a b;unfold World.cell? at b ⊢;rw[h.heap,FA c,<-kY c];exact b
def Er.old{w w':World}{o:Obj}(h:Er w w' o)(b:Nat)(a:b<w.heap.size):w'.heap[b]?=w.heap[b]?:=by
 rw[h.heap,FA a,<-kY a]
def lQ(ι:Map)(q:Ref)(l:Loc):Map:=λr=>if r=q then some l else ι r
def mF(g:dv)(q:Ref)(k:bC):dv:=λr=>if r=q then some k else g r
def Gm{ι:Map}{q:Ref}{l:Loc}(b:ι q=none) : ∀r a,ι r=some a->lQ ι q l r=some a:=by
 intro r a h;unfold lQ;split;·subst_vars;rw[b]at h;cases h
 exact h
def iA.Zh{M ι g w}(h:iA M ι g w){q:Ref}(c:ι q=none):g q=none:=by
 cases b:g q with| none=>rfl| some k=>obtain⟨l,a,_⟩:=h.live q k b;rw[c]at a;cases a
def gm.lt{M ι w l k}(h:gm M ι w l k):l.b<w.heap.size:=by
 obtain⟨arr,T,fz,a,_⟩:=h.heap;exact(jx.1 a).1
def oW.lt{M ι w l k}(h:oW M ι w l k):l.b<w.heap.size:=by
 rcases h.obj with ⟨_,a⟩ | ⟨_,_,a⟩ | ⟨_,_,_,_,_,_,a⟩
 ·exact(jx.1 a).1
 ·exact(jx.1 a).1
 exact(jx.1 a).1
def qp.lt{M ι w l k}(h:qp M ι w l k):l.b<w.heap.size:=by
 rcases EC k.esz with e | e
 ·exact(h.objOk e).lt
 exact(h.cellsOk e).lt
def qp.W4{M ι w l k}(h:qp M ι w l k){arr:Array Value}{T:TypeId}{fz:Nat × Nat}(c:w.heap[l.b]?=some (.cells arr T fz)):gm M ι w l k/\0<k.esz:=by
 rcases EC k.esz with e | e
 ·rcases(h.objOk e).obj with ⟨_,a⟩ | ⟨_,_,a⟩ | ⟨_,_,_,_,_,_,a⟩
  ·rw[c]at a;cases a
  ·rw[c]at a;cases a
  rw[c]at a;cases a
 exact⟨h.cellsOk e,e⟩
def gm.bT{M ι w l k M' ι' w'}(h:gm M ι w l k)(f : ∀b o x,M b o=some x->M' b o=some x)(d : ∀r l,ι r=some l->ι' r=some l)
 (z:w'.heap[l.b]?=w.heap[l.b]?) (s : ∀o x,M' l.b o=some x->k.jq=true/\o<k.es.length * k.esz):gm M' ι' w' l k:=by
 obtain⟨arr,T,fz,m,A,p,g⟩:=h.heap;refine⟨h.esz,⟨arr,T,fz,z ▸ m,A,p,?_⟩,h.len,h.cells,s⟩;intro i j e x y B;obtain⟨u,t,v,n⟩:=g i j e x y B;refine⟨u,t,v,n.mono f _ ?_⟩;intro r q a;unfold bC.map at a ⊢;split;·rename_i c;rw[if_pos c]at a;exact a
 rename_i c;rw[if_neg c]at a;exact d r q a
def qp.bT{M ι w l k M' ι' w'}(h:qp M ι w l k)(c : ∀b o x,M b o=some x->M' b o=some x)(a : ∀r l,ι r=some l->ι' r=some l)
 (d:w'.heap[l.b]?=w.heap[l.b]?) (f : ∀o x,M' l.b o=some x->k.jq=true/\o<k.es.length * k.esz):qp M' ι' w' l k:=
 ⟨h.esz,λe=>(h.cellsOk e).bT c a d f,λe=>(h.objOk e).mono c a d,f⟩
def iA.alloc{M ι g w}(v:iA M ι g w){q:Ref}(R:ι q=none){w':World}{arr:Array Value}{T:TypeId}{fz:Nat × Nat}(m:Er w w' (.cells arr T fz))
 (k:bC) (O:0<k.esz) (n:Nat) (I:arr.size=n * k.esz) (G:Di k.esz arr.size fz) (z:k.es.length<=n) (c : ∀e∈k.es,e.cells.length=k.esz)
 (W : ∀(i j:Nat) e x,k.es[i]?=some e->e.cells[j]?=some x ->∃u,arr[i * k.esz+j]?=some u/\u.oneCell'=true/\VR M (k.map ι) x u) :
 iA M (lQ ι q ⟨w.heap.size,k.esz,n⟩) (mF g q k) w'/\vg M ι g w M (lQ ι q ⟨w.heap.size,k.esz,n⟩) (mF g q k) w':=by
 have d:=Gm (l:=⟨w.heap.size,k.esz,n⟩) R;have A : ∀b o x,M b o=some x->b<w.heap.size:=λb o x h=>iQm w ⟨b,o,none⟩ (v.mem b o x h);have B:w'.heap[w.heap.size]?=some (.cells arr T fz):=by rw[m.heap];simp
 refine⟨⟨λb o x h=>m.cell (v.mem b o x h),?_,?_⟩,⟨m.os,m.tape,m.output,by rw[m.heap];simp,λb f _=>m.old b f,λ_ _ _ h=>h,d,?_,λ_ _ _ h => .inl h⟩⟩
 ·intro r k' p;unfold mF at p;split at p
  ·rename_i e;subst e;cases p;refine⟨⟨w.heap.size,k.esz,n⟩,by simp[lQ],gm.TN ⟨rfl,⟨arr,T,fz,B,I,G,?_⟩,z,c,?_⟩ O⟩
   ·intro i j e x U V;obtain⟨u,L,N,K⟩:=W i j e x U V;refine⟨u,L,N,K.mono (λ_ _ _ h=>h) _ ?_⟩;intro r' Q a;unfold bC.map at a ⊢;split;·rename_i H;rw[if_pos H]at a;exact a
    rename_i H;rw[if_neg H]at a;exact d r' Q a
   intro o x h;exact absurd (A _ _ _ h) (Cd _)
  obtain⟨l,a,f⟩:=v.live r k' p;exact⟨l,d r l a,f.bT (λ_ _ _ h=>h) d (m.old _ f.lt) f.frozen⟩
 ·intro r r' k1 J P S C y s t F;unfold mF at C y;unfold lQ at s t;by_cases D:r=q<;>by_cases E:r'=q;·rw[D,E]
  ·rw[if_pos D]at s;rw[if_neg E]at y t;obtain⟨l,a,f⟩:=v.live r' J y;rw[a]at t;cases t;cases s;exact absurd f.lt (by rw[<-F];exact Cd _)
  ·rw[if_neg D]at C s;rw[if_pos E]at t;obtain⟨l,a,f⟩:=v.live r k1 C;rw[a]at s;cases s;cases t;exact absurd f.lt (by rw[F];exact Cd _)
  rw[if_neg D]at C s;rw[if_neg E]at y t;exact v.inj r r' k1 J P S C y s t F
 intro r k' l p a;unfold mF at p;unfold lQ at a;split at p;·rename_i e;rw[if_pos e]at a;cases a;exact .inl (bM _)
 rename_i e;rw[if_neg e]at a;exact .inr ⟨r,k',l,p,a,rfl⟩
def cM(w:World)(b:Nat)(o:Obj):World := { w with heap:=w.heap.setIfInBounds b o}
def iE{w:World}{b:Nat}{o:Obj}(a:b<w.heap.size):(cM w b o).heap[b]?=some o:=by simp[cM,a]
def fV{w:World}{b a:Nat}{o:Obj}(h:b≠a):(cM w b o).heap[a]?=w.heap[a]?:=by simp[cM,Ch h]
def dp(arr:Array Value)(o:Nat)(us:List Value):Array Value:=(arr.toList.take o++us++arr.toList.drop (o+us.length)).toArray
def jy{arr:Array Value}{o:Nat}{us:List Value}(h:o+us.length<=arr.size)(i:Nat) :
 (dp arr o us)[i]?=if o<=i/\i<o+us.length then us[i - o]? else arr[i]?:=by
 unfold dp;simp only[OY];have b:(arr.toList.take o).length=o:=by simp;omega
 rcases fQ i o with a | a
 ·rw[sh,kR (by omega),AF,if_pos a,if_neg (by omega)];simp
 rcases fQ i (o+us.length)with c | c
 ·rw[sh,kj (by omega),kR (by omega),if_pos ⟨a,c⟩,b]
 rw[kj (by simp;omega),Cf,if_neg (by omega)];simp only[iX,b,GM];congr 1;omega
def j5{arr:Array Value}{o:Nat}{us:List Value}(h:o+us.length<=arr.size):(dp arr o us).size=arr.size:=by
 simp[dp];omega
def nV{P:Program}{b:Nat}{T:TypeId}{fz:Nat × Nat}(o:Nat) : ∀(us:List Value)(i:Nat)(arr:Array Value)(w:World),w.heap[b]?=some (.cells arr T fz) ->
 o+i+us.length<=arr.size->(∀j,j<arr.size ->¬(fz.1<=j/\(j<fz.2\/fz.2<fz.1)))->(∀u∈us,u.oneCell'=true) ->
 (storeCells ⟨b,o,none⟩ us i).run P w = .ok () (cM w b (.cells (dp arr (o+i) us) T fz)):=by
 intro us;induction us with
 | nil=>
  intro i arr w a s l p;have g:=(jx.1 a).1;have e:dp arr (o+i) []=arr:=by simp[dp]
  have A:cM w b (.cells arr T fz)=w:=by
   have:w.heap.setIfInBounds b (.cells arr T fz)=w.heap:=by
    apply Fw;intro k;by_cases c:b=k;·subst c;rw[a,GN g]
    rw[Ch c]
   unfold cM;rw[this]
  simp[storeCells,e,A]
 | cons u us z=>
  intro i arr w a s l p;have g:=(jx.1 a).1;simp only[jP]at s;have B:w.cell? ⟨b,o+i,none⟩=some arr[o+i]:=by rw[j7 a];exact kY (by omega)
  have m:w.frozen? ⟨b,o+i,none⟩=false:=by
   have:=l (o+i) (by omega);simp only[World.frozen?,a];simp only[GL,iQc];by_cases h:fz.1<=o+i;·exact .inr λt=>this ⟨h,.inl t⟩
   exact .inl h
  have d:w.setCell ⟨b,o+i,none⟩ u=cM w b (.cells (arr.setIfInBounds (o+i) u) T fz):=by
   unfold World.setCell cM;congr 1;apply Fw;intro k;rw[G3];by_cases c:b=k;·subst c;rw[a,GN g];simp
   simp[c,Ch c]
  have f:=p u (by simp);have n:=z (i+1) (arr.setIfInBounds (o+i) u) (cM w b (.cells (arr.setIfInBounds (o+i) u) T fz)) (iE g) (by simp;omega) (by simpa using l) (λv x=>p v (by simp[x]));simp only[storeCells,iQg,iM,run_store P w _ u _ f,B,m,d];simp only[gB, ↓reduceIte,iQd];rw[n];congr 1;unfold cM;simp only[Array.setIfInBounds_setIfInBounds];congr 3;apply Fw;intro k;rw[jy (by simp;omega),jy (by simp;omega)];by_cases y:k=o+i;·subst y;rw[if_neg (by omega),if_pos ⟨bM _,by simp⟩];simp[show o+i<arr.size by omega]
  by_cases q:o+(i+1)<=k/\k<o+(i+1)+us.length;·rw[if_pos q,if_pos (by simp;omega)];rw[show k - (o+i)=(k - (o+(i+1)))+1 by omega];simp
  rw[if_neg q,if_neg (by simp;omega)];rw[Ch (by omega)]
def iA.mark{M ι g w}(n:iA M ι g w){r:Ref}{k:bC}{l:Loc}(t:g r=some k)(y:ι r=some l){arr:Array Value}{T:TypeId}{E fz:Nat × Nat}{w':World}
 (B:w.heap[l.b]?=some (.cells arr T E)) (m:w'=cM w l.b (.cells arr T fz)) (u:Di k.esz arr.size fz):iA M ι g w'/\vg M ι g w M ι g w':=by
 obtain⟨P,q,I⟩:=n.live r k t;rw[y]at q;cases q;have A:=I.lt;have f:w'.heap[l.b]?=some (.cells arr T fz):=by rw[m];exact iE A
 have c : ∀b,l.b≠b->w'.heap[b]?=w.heap[b]?:=λb a=>by rw[m];exact fV a
 have i : ∀b o,w'.cell? ⟨b,o,none⟩=w.cell? ⟨b,o,none⟩:=by
  intro b o;by_cases a:l.b=b;·subst a;rw[j7 f,j7 B]
  exact iQk (c b a)
 refine⟨⟨λb o x h=>by rw[i];exact n.mem b o x h,?_,n.inj⟩,?_⟩
 ·intro r' k1 s;obtain⟨v,p,d⟩:=n.live r' k1 s;refine⟨v,p,?_⟩;by_cases a:l.b=v.b
  ·obtain⟨j,z⟩:=d.W4 (a ▸ B);obtain⟨F,R,L,g1,K,S,N⟩:=j.heap;rw[<-a,B]at g1;injection g1 with g1;injection g1 with G O Q
   subst G;subst O;have D:k1=k:=by
    have e:=n.inj r r' k k1 l v t s y p a;subst e;rw[t]at s;exact(KT s).symm
   exact gm.TN ⟨d.esz,⟨arr,T,fz,by rw[<-a];exact f,K,by rw[D];exact u,N⟩,j.len,j.cells,d.frozen⟩ z
  exact d.bT (λ_ _ _ h=>h) (λ_ _ h=>h) (c _ a) d.frozen
 refine⟨by rw[m];rfl,by rw[m];rfl,by rw[m];rfl,by rw[m];simp[cM],λb J C=>c b (C r k l t y),λ_ _ _ h=>h,λ_ _ h=>h,λr k l h H => .inr ⟨r,k,l,h,H,rfl⟩,λ_ _ _ h => .inl h⟩
def iA.write{M ι g w}(s:iA M ι g w){r:Ref}{k k':bC}{l:Loc}(z:g r=some k)(E:ι r=some l)(Q:0<l.esz){arr:Array Value}{T:TypeId}{fz:Nat × Nat}{w':World}
 (p:w'=cM w l.b (.cells arr T fz)) (a:k'.esz=k.esz) (O:k'.arr=k.arr) (H:arr.size=l.n * k.esz) (K:Di k.esz arr.size fz)
 (B:k'.es.length<=l.n) (c : ∀e∈k'.es,e.cells.length=k.esz) (d : ∀o x,M l.b o=some x->False)
 (V : ∀(i j:Nat) e x,k'.es[i]?=some e->e.cells[j]?=some x ->∃u,arr[i * k.esz+j]?=some u/\u.oneCell'=true/\VR M (k'.map ι) x u) :
 iA M ι (mF g r k') w'/\vg M ι g w M ι (mF g r k') w':=by
 obtain⟨X,v,F⟩:=s.live r k z;rw[E]at v;cases v;have L:=F.lt;refine⟨⟨?_,?_,?_⟩,?_⟩;·intro b o x h;have q:l.b≠b:=λe=>d o x (e ▸ h);rw[iQk (w:=w) (by rw[p];exact fV q)];exact s.mem b o x h
 ·intro r' k1 y;unfold mF at y;split at y;·rename_i e;subst e;cases y;refine⟨l,E,gm.TN ⟨by rw[F.esz,a],⟨arr,T,fz,by rw[p];exact iE L,by rw[a];exact H,by rw[a];exact K,by rw[a];exact V⟩,B,by rw[a];exact c,λo x h=>(d o x h).elim⟩ (by rw[a,<-F.esz];exact Q)⟩
  rename_i q;obtain⟨f,t,C⟩:=s.live r' k1 y;have G:l.b≠f.b:=λe=>q (s.inj r' r k1 k f l y z t E e.symm);exact⟨f,t,C.bT (λ_ _ _ h=>h) (λ_ _ h=>h) (by rw[p];exact fV G) C.frozen⟩
 ·intro r1 r2 k1 W f U A D R S P;have m : ∀ {r1:Ref} {k1:bC},mF g r k' r1=some k1 ->∃k,g r1=some k:=by
   intro r1 k1 h;unfold mF at h;split at h;·rename_i e;exact⟨k,e ▸ z⟩
   exact⟨k1,h⟩
  obtain⟨_,I⟩:=m A;obtain⟨_,J⟩:=m D;exact s.inj r1 r2 _ _ f U I J R S P
 refine⟨by rw[p];rfl,by rw[p];rfl,by rw[p];rfl,by rw[p];simp[cM],?_,λ_ _ _ h=>h,λ_ _ h=>h,?_,λ_ _ _ h => .inl h⟩;·intro b _ N;rw[p];exact fV (N r k l z E)
 intro r1 k1 f A D;unfold mF at A;split at A;·rename_i e;subst e;exact .inr ⟨r1,k,f,z,D,rfl⟩
 exact .inr ⟨r1,k1,f,A,D,rfl⟩
end Go.Ab
namespace Go.Ab
open Classical
def Uw(ι:Map)(g:dv)(R:List Ref)(b o:Nat):Prop :=∃r∈R,∃k l,g r=some k/\ι r=some l/\l.b=b/\o<k.es.length * k.esz
noncomputable def lW(M:Mem)(ι:Map)(g:dv)(w:World)(R:List Ref):Mem:=λb o=>
 match M b o with
 | some x=>some x
 | none=>if Uw ι g R b o then w.cell? ⟨b,o,none⟩ else none
def xn{M ι g w R} : ∀b o x,M b o=some x->lW M ι g w R b o=some x:=by
 intro b o x h;simp[lW,h]
def zX{M ι g w R}(c : ∀b o x,M b o=some x->w.cell? ⟨b,o,none⟩=some x) : ∀b o x,lW M ι g w R b o=some x->w.cell? ⟨b,o,none⟩=some x:=by
 intro b o x h;unfold lW at h;split at h;·rename_i y a;cases h;exact c b o _ a
 split at h;·exact h
 cases h
def zY{M ι g w R b o x}(h:lW M ι g w R b o=some x):M b o=some x\/Uw ι g R b o:=by
 unfold lW at h;split at h;·rename_i y c;cases h;exact .inl c
 split at h;·rename_i a;exact .inr a
 cases h
def Fb{n esz i j:Nat}(hi:i<n)(a:j<esz):i * esz+j<n * esz:=by
 have:(i+1) * esz<=n * esz:=mW _ hi;rw[mR]at this;omega
def I6{M ι g w R}(m:iA M ι g w){r:Ref}{k:bC}{l:Loc}(A:r∈R)(p:g r=some k)(n:ι r=some l){i j:Nat}(hi:i<k.es.length)(t:j<k.esz) :
 ∃u,lW M ι g w R l.b (i * k.esz+j)=some u/\u.oneCell'=true/\w.cell? ⟨l.b,i * k.esz+j,none⟩=some u /\
  ∀e x,k.es[i]?=some e->e.cells[j]?=some x->VR M (k.map ι) x u:=by
 obtain⟨G,c,f⟩:=m.live r k p;rw[n]at c;cases c;replace f:=f.cellsOk (by omega);obtain⟨arr,T,fz,D,H,F,C⟩:=f.heap;have d:k.es[i]?=some k.es[i]:=eu hi;have E:=f.cells k.es[i] (fj hi);have a:k.es[i].cells[j]?=some (k.es[i].cells[j]'(by omega)):=eu _;obtain⟨u,v,z,s⟩:=C i j _ _ d a;have h:w.cell? ⟨l.b,i * k.esz+j,none⟩=some u:=by rw[j7 D];exact v
 refine⟨u,?_,z,h,?_⟩
 ·unfold lW;split;·rename_i y B;have:=m.mem _ _ _ B;rw[h]at this;cases this;rfl
  rw[if_pos ⟨r,A,k,l,p,n,rfl,Fb hi t⟩];exact h
 intro e x o q;rw[d]at o;cases o;rw[a]at q;cases q;exact s
def ME{g:dv}{n:Nat}{x y:AV}(h:view g (n+1) x=some y)(c : ∀cs,x ≠ .agg cs):x.cells=[x]/\y.cells=[y]:=by
 refine⟨by cases x<;>first | rfl | exact absurd rfl (c _),?_⟩;cases x with
 | agg cs=>exact absurd rfl (c cs)
 | v x=>simp[view]at h;subst h;rfl
 | tup cs=>simp only[view,bU]at h;obtain⟨_,_,rfl⟩:=h;rfl
 | bE=>simp[view]at h;subst h;rfl
 | iptr=>simp[view]at h;subst h;rfl
 | fsl=>simp[view]at h
 | ct r off len cap=>
  simp only[view]at h;split at h
  ·split at h;·cases h;rfl
   cases h
  cases h
 | dsl r off len cap=>
  simp only[view]at h;split at h
  ·split at h;·simp only[bU]at h;obtain⟨_,_,rfl⟩:=h;rfl
   cases h
  cases h
 | nsl=>simp[view]at h
 | ptr r i j=>
  simp only[view]at h;split at h
  ·split at h;·cases h;rfl
   simp only[bU]at h;obtain⟨_,_,rfl⟩:=h;rfl
  cases h
 | fn f a b=>
  simp only[view]at h;split at h;·cases h;rfl
  cases h
 | ifc t x=>simp only[view,bU]at h;obtain⟨_,_,rfl⟩:=h;rfl
 | yld=>simp[view]at h
 | mp=>simp[view]at h
 | ch=>simp[view]at h
 | Az=>simp[view]at h
 | lp=>simp[view]at h
def zo{g:dv}{n:Nat}{e f:AV}(h:view g (n+1) e=some f) :
 f.cells.length=e.cells.length /\∀(j:Nat) b,f.cells[j]?=some b ->∃m x,m<=n+1/\e.cells[j]?=some x/\view g m x=some b /\∀r∈aj g m x,r∈aj g (n+1) e:=by
 by_cases d : ∃cs,e = .agg cs;·obtain⟨cs,rfl⟩:=d;simp only[view,bU]at h;obtain⟨q,c,rfl⟩:=h;refine⟨by simp[AV.cells,iG c],?_⟩;intro j b a;obtain⟨x,d,o⟩:=pD c j b (by simpa [AV.cells] using a);refine⟨n,x,by omega,by simpa [AV.cells] using d,o,?_⟩;intro r i;simp only[aj,jO];exact⟨x,ja d,i⟩
 obtain⟨l,k⟩:=ME h (λcs p=>d ⟨cs,p⟩);refine⟨by rw[l,k];rfl,?_⟩;intro j b a;rw[k]at a;cases j with
 | zero=>simp at a;subst a;exact⟨n+1,e,bM _,by rw[l];rfl,h,λr i=>i⟩
 | succ j=>simp at a
def Dw{M ι g w R}(hS:iA M ι g w) : ∀(n:Nat)(x y:AV)(u:Value),view g n x=some y->(∀r∈aj g n x,r∈R)->VR M ι x u->VR (lW M ι g w R) eM y u:=by
 intro n;induction n using Nat.strongRecOn with | ind n ih=>
 intro x y u h L N;cases n with
 | zero=>simp[view]at h
 | succ n=>
  have D : ∀ {cs ys:List AV} {us:List Value},cs.mapM (view g n)=some ys->(∀r∈cs.flatMap (aj g n),r∈R)->mM M ι cs us->mM (lW M ι g w R) eM ys us:=(by intro cs ys us H L hvs;refine⟨by rw[iG H];exact hvs.1,λi y' u hy K=>?_⟩;obtain⟨x,C,Y⟩:=pD H i y' hy;exact ih n (by omega) x y' u Y (λr J=>L r (jO.2 ⟨x,ja C,J⟩)) (hvs.2 i x u C K));cases x with
  | v x=>simp[view]at h;subst h;cases N with | v hs=>exact .v hs
  | agg cs=>
   simp only[view,bU]at h;obtain⟨ys,H,rfl⟩:=h;cases N with | agg hl P=>
   exact VR.rh.2 (D H (by simpa [aj] using L) (VR.rh.1 (.agg hl P)))
  | tup cs=>
   simp only[view,bU]at h;obtain⟨ys,H,rfl⟩:=h;cases N with | tup h0 hl P=>
   rename_i vs;have:=D (us:=vs.toList) H (by simpa [aj] using L) ⟨by simpa using hl,λi x u C K=>P i x u C (by simpa using K)⟩;refine .tup ?_ (by simpa using this.1) λi c u hc K=>this.2 i c u hc (by simpa using K);intro e;subst e;have F:=iG H;exact h0 (Ak (by simpa using F.symm))
  | bE esz es cap=>
   simp[view]at h;subst h;cases N with | bE cell hs hc O hm E P=>
   exact(VR.bE (M:=M) (ι:=eM) cell hs hc O hm E P).mono xn _ (λ_ _ h=>h)
  | iptr esz es i j=>
   simp[view]at h;subst h;cases N with | iptr cell hm E P=>
   exact(VR.iptr (M:=M) (ι:=eM) cell hm E P).mono xn _ (λ_ _ h=>h)
  | fsl=>simp[view]at h
  | ct r off len cap=>
   simp only[view]at h;split at h
   ·rename_i k O;split at h
    ·rename_i P;cases h;obtain⟨z,B⟩:=P;cases N with | ct J hb hs ha hc hn Z U=>
     rename_i l a c;have X:r∈R:=L r (by simp[aj]);have p:=hS.at J U O;have S:((k.es.drop off).take len).length=len:=by simp;omega
     have hat : ∀i,i<len->((k.es.drop off).take len)[i]?=k.es[off+i]?:=(by intro i hi;rw[AF,if_pos hi,Cf]);have G:0<len->a.off=off * k.esz:=by
      intro h0;rcases ha with h | h
      ·omega
      rw[h,p.esz]
     have key : ∀i j,i<len->j<k.esz ->∃u,lW M ι g w R a.block (a.off+(i * k.esz+j))=some u/\u.oneCell'=true /\∀e x,k.es[off+i]?=some e->e.cells[j]?=some x->VR M (k.map ι) x u:=(by intro i j hi A;obtain⟨u,F,I,_,h3⟩:=I6 hS X O J (i:=off+i) (j:=j) (by omega) A;refine⟨u,?_,I,h3⟩;rw[G (by omega),hb,show off * k.esz+(i * k.esz+j)=(off+i) * k.esz+j by rw[mR];omega];exact F);let cell:Nat->Nat->Value:=λi j=>(lW M ι g w R a.block (a.off+(i * k.esz+j))).getD undef
     have:=VR.bE (M:=lW M ι g w R) (ι:=eM) (esz:=k.esz) (es:=(k.es.drop off).take len) (cap:=cap) (a:=a) (c:=c) cell (.inl hs) (by omega) Z
      (by
       intro i j hi A;rw[S]at hi;obtain⟨u,F,I,_⟩:=key i j hi A;simp[cell,F,I])
      (by
       intro e E;exact p.cells e (Fy (Ai E)))
      (by
       intro i j e x hi C;have q:i<len:=by have:=(fg.1 hi).1;omega
       rw[hat i q]at hi;have A:j<k.esz:=(by rw[<-p.cells e (ja hi)];exact(fg.1 C).1);obtain⟨u,F,I,h3⟩:=key i j q A;have:=h3 e x hi C;rw[bC.map,if_pos z]at this;simp only[cell,F,cU];exact this.mono xn _ (λ_ _ h=>h))
     rw[S]at this;exact this
    cases h
   cases h
  | nsl=>simp[view]at h
  | dsl r off len cap=>
   simp only[view]at h;split at h
   ·rename_i k O;split at h
    ·rename_i P;obtain⟨z,B⟩:=P;simp only[bU]at h;obtain⟨es',d,rfl⟩:=h;cases N with | dsl J hb hs ha hc hn Z U=>
     rename_i l a c;have X:r∈R:=L r (by simp[aj]);have p:=hS.at J U O;have hel:=iG d;have S:((es'.drop off).take len).length=len:=by simp;omega
     have hat : ∀i,i<len->((es'.drop off).take len)[i]?=es'[off+i]?:=(by intro i hi;rw[AF,if_pos hi,Cf]);have G:0<len->a.off=off * k.esz:=by
      intro h0;rcases ha with h | h
      ·omega
      rw[h,p.esz]
     have key : ∀i j,i<len->j<k.esz ->∃u,lW M ι g w R a.block (a.off+(i * k.esz+j))=some u/\u.oneCell'=true /\∀e x,k.es[off+i]?=some e->e.cells[j]?=some x->VR M (k.map ι) x u:=(by intro i j hi A;obtain⟨u,F,I,_,h3⟩:=I6 hS X O J (i:=off+i) (j:=j) (by omega) A;refine⟨u,?_,I,h3⟩;rw[G (by omega),hb,show off * k.esz+(i * k.esz+j)=(off+i) * k.esz+j by rw[mR];omega];exact F);let cell:Nat->Nat->Value:=λi j=>(lW M ι g w R a.block (a.off+(i * k.esz+j))).getD undef
     cases n with
     | zero=>
      cases Q:k.es with| nil=>rw[Q]at d B;simp at d B;subst d;obtain⟨rfl,rfl⟩:=B;have:=VR.bE (M:=lW M ι g w R) (ι:=eM) (esz:=k.esz) (es:=[]) (cap:=cap) (a:=a) (c:=c) cell (.inr rfl) (by simp) Z (by intro i j hi;simp at hi) (by simp) (by intro i j e x hi;simp at hi);simpa using this| cons e es=>rw[Q]at d;simp[view]at d
     | succ n=>
      have:=VR.bE (M:=lW M ι g w R) (ι:=eM) (esz:=k.esz) (es:=(es'.drop off).take len) (cap:=cap) (a:=a) (c:=c) cell (.inl hs) (by omega) Z
       (by
        intro i j hi A;rw[S]at hi;obtain⟨u,F,I,_⟩:=key i j hi A;simp[cell,F,I])
       (by
        intro e' he';have he'':=Fy (Ai he');obtain⟨T,q,rfl⟩:=qC he'';obtain⟨e,E,Y⟩:=pD d T _ (eu q);rw[(zo Y).1];exact p.cells e (ja E))
       (by
        intro T j' e' x' q hx';have hil:T<len:=by have:=(fg.1 q).1;omega
        rw[hat T hil]at q;obtain⟨e,E,Y⟩:=pD d (off+T) e' q;obtain⟨m,x,hm,C,hfx,W⟩:=(zo Y).2 j' x' hx';have A:j'<k.esz:=(by rw[<-p.cells e (ja E)];exact(fg.1 C).1);obtain⟨u,F,I,h3⟩:=key T j' hil A;have V:=h3 e x E C;rw[bC.map,if_neg (by simp[z])]at V;simp only[cell,F,cU];refine ih m (by omega) x x' _ hfx ?_ V;intro r' hr';refine L r' ?_;simp only[aj,O,fR,jO];exact .inr ⟨e,ja E,W r' hr'⟩)
      rw[S]at this;exact this
    cases h
   cases h
  | ptr r i j=>
   cases N with | ptr J U=>
   rename_i l;simp only[view]at h;split at h
   ·rename_i k O;have X:r∈R:=L r (by simp[aj]);have p:=hS.at J U O;let cell:Nat->Nat->Value:=λi j=>(lW M ι g w R l.b (0+(i * k.esz+j))).getD undef
    have s : ∀i j,i<k.es.length->j<k.esz->lW M ι g w R l.b (0+(i * k.esz+j))=some (cell i j)/\(cell i j).oneCell'=true /\∀e x,k.es[i]?=some e->e.cells[j]?=some x->VR M (k.map ι) x (cell i j):=(by intro i j hi A;obtain⟨u,F,I,_,h3⟩:=I6 hS X O J hi A;rw[vP]at *;simp only[cell,vP,F,cU];exact⟨trivial,I,h3⟩);split at h
    ·rename_i z;cases h;have:=VR.iptr (M:=lW M ι g w R) (ι:=eM) (esz:=k.esz) (es:=k.es) (i:=i) (j:=j) (b:=l.b) (o:=0) cell (λi j hi A=>⟨(s i j hi A).1,(s i j hi A).2.1⟩) p.cells
      (by
       intro i j e x hi C;have q:=(fg.1 hi).1;have A:j<k.esz:=by
        rw[<-p.cells e (ja hi)];exact(fg.1 C).1
       have:=(s i j q A).2.2 e x hi C;rw[bC.map,if_pos z]at this;exact this.mono xn _ (λ_ _ h=>h))
     rw[vP]at this;rw[p.esz];exact this
    rename_i z;simp only[bU]at h;obtain⟨es',d,rfl⟩:=h;cases n with
    | zero=>
     cases Q:k.es with| nil=>rw[Q]at d;simp at d;subst d;have:=VR.iptr (M:=lW M ι g w R) (ι:=eM) (esz:=k.esz) (es:=[]) (i:=i) (j:=j) (b:=l.b) (o:=0) cell (by intro i j hi;simp at hi) (by simp) (by intro i j e x hi;simp at hi);rw[vP]at this;rw[p.esz];exact this| cons e es=>rw[Q]at d;simp[view]at d
    | succ n=>
     have B:=iG d;have:=VR.iptr (M:=lW M ι g w R) (ι:=eM) (esz:=k.esz) (es:=es') (i:=i) (j:=j) (b:=l.b) (o:=0) cell
      (λi j hi A=>⟨(s i j (B ▸ hi) A).1,(s i j (B ▸ hi) A).2.1⟩)
      (by
       intro e' he';obtain⟨T,q,rfl⟩:=qC he';obtain⟨e,E,Y⟩:=pD d T _ (eu q);rw[(zo Y).1];exact p.cells e (ja E))
      (by
       intro T j' e' x' q hx';obtain⟨e,E,Y⟩:=pD d T e' q;obtain⟨m,x,hm,C,hfx,W⟩:=(zo Y).2 j' x' hx';have hlt:=(fg.1 E).1;have A:j'<k.esz:=by
        rw[<-p.cells e (ja E)];exact(fg.1 C).1
       have V:=(s T j' hlt A).2.2 e x E C;rw[bC.map,if_neg z]at V;refine ih m (by omega) x x' _ hfx ?_ V;intro r' hr';refine L r' ?_;simp only[aj,O,if_neg z,fR,jO];exact .inr ⟨e,ja E,W r' hr'⟩)
     rw[vP]at this;rw[p.esz];exact this
   cases h
  | fn f a b=>
   simp only[view]at h;split at h
   ·rename_i a' b' ha' hb';cases h;cases N with | fn hla hlb hha hhb=>
    rename_i va vb;simp only[aj,mS]at L;have F:=D (us:=va.toList) ha' (λr J=>L r (.inl J)) ⟨by simpa using hla,λi x u C K=>hha i x u C (by simpa using K)⟩;have I:=D (us:=vb.toList) hb' (λr J=>L r (.inr J)) ⟨by simpa using hlb,λi x u C K=>hhb i x u C (by simpa using K)⟩;exact .fn (by simpa using F.1) (by simpa using I.1) (λi c u hc K=>F.2 i c u hc (by simpa using K)) (λi c u hc K=>I.2 i c u hc (by simpa using K))
   cases h
  | ifc t x=>
   simp only[view,bU]at h;obtain⟨y,hy,rfl⟩:=h;cases N with | ifc N=>
   exact .ifc (ih n (by omega) x y _ hy (by simpa [aj] using L) N)
  | yld=>simp[view]at h
  | mp=>simp[view]at h
  | ch=>simp[view]at h
  | Az=>simp[view]at h
  | lp=>simp[view]at h
def uY(g:dv)(R:List Ref):dv:=λr=>if r∈R then (g r).map λk => { k with jq:=true} else g r
def Bf{M ι g w R}(B:iA M ι g w):iA (lW M ι g w R) ι (uY g R) w/\vg M ι g w (lW M ι g w R) ι (uY g R) w:=by
 have c : ∀ {r k},uY g R r=some k ->∃a,g r=some a/\k = { a with jq:=k.jq}/\(r∈R->k.jq=true)/\(a.jq=true->k.jq=true):=by
  intro r k h;unfold uY at h;split at h;·simp only[bU]at h;obtain⟨a,G,rfl⟩:=h;exact⟨a,G,rfl,λ_=>rfl,λ_=>rfl⟩
  rename_i F;exact⟨k,h,rfl,λD=>absurd D F,λh=>h⟩
 refine⟨⟨zX B.mem,?_,?_⟩,⟨rfl,rfl,rfl,bM _,λ_ _ _=>rfl,xn,λ_ _ h=>h,?_,?_⟩⟩
 ·intro r k h;obtain⟨a,s,H,F,hm⟩:=c h;obtain⟨l,v,d⟩:=B.live r a s;refine⟨l,v,?_⟩;have t:k.es=a.es:=by rw[H]
  have n:k.esz=a.esz:=(by rw[H]);have I:k.arr=a.arr:=(by rw[H]);have p : ∀o x,lW M ι g w R l.b o=some x->k.jq=true/\o<k.es.length * k.esz:=by
   intro o x A;rw[t,n];rcases zY A with h | ⟨r',z,k',y,m,f,q,C⟩
   ·exact⟨hm (d.frozen o x h).1,(d.frozen o x h).2⟩
   have e:=B.inj r' r k' a y l m s f v q;subst e;rw[s]at m;cases m;exact⟨F z,C⟩
  refine⟨by rw[n];exact d.esz,λE=>?_,λE=>?_,p⟩
  ·replace d:=d.cellsOk (by rw[<-n];exact E);obtain⟨arr,T,fz,P,Q,O,L⟩:=d.heap;refine⟨by rw[n];exact d.esz,⟨arr,T,fz,P,by rw[n];exact Q,by rw[n];exact O,?_⟩,by rw[t];exact d.len,by rw[t,n];exact d.cells,p⟩;intro i j e x J A;rw[t]at J;rw[n];obtain⟨u,N,C,K⟩:=L i j e x J A;refine⟨u,N,C,?_⟩;have:k.map ι=a.map ι:=by unfold bC.map;rw[I]
   rw[this];exact K.mono xn _ (λ_ _ h=>h)
  exact((d.objOk (by rw[<-n];exact E)).mono (M':=lW M ι g w R) xn (λ_ _ h=>h) rfl).same n I t
 ·intro r r' k k' l y h D v f d;obtain⟨a,s,_⟩:=c h;obtain⟨k1,t,_⟩:=c D;exact B.inj r r' _ _ l y s t v f d
 ·intro r k l h v;obtain⟨a,s,_⟩:=c h;exact .inr ⟨r,a,l,s,v,rfl⟩
 intro b o x A;rcases zY A with h | ⟨r',z,k',y,m,f,q,C⟩
 ·exact .inl h
 exact .inr (.inr ⟨r',k',y,m,f,q⟩)
def NW{g:dv}{R:List Ref}(h:kB g R=true):uY g R=g:=by
 funext r;unfold uY;split
 ·rename_i b;simp only[kB,gP]at h;have:=h r b;cases a:g r with
  | none=>rfl
  | some k=>rw[a]at this;simp at this;simp[<-this]
 rfl
end Go.Ab
