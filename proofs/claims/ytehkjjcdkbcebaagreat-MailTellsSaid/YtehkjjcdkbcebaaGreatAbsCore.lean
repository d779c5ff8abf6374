/-
  The abstract machine: a deterministic evaluator of the model's code over data, in which a slice that nobody writes is a list. No statement of a seat is proved here.
-/
import Derived.WalkKit
import Derived.RangeFuncIn
import Derived.RangeFuncRecord
import Derived.RangeFuncLeaves
import Derived.OrdersIn
set_option linter.unusedVariables false
set_option linter.unusedSimpArgs false
set_option linter.unusedSectionVars false
set_option linter.unnecessarySimpa false
set_option linter.defProp false
namespace Go.Ab
set_option linter.defProp false
def iQa:=@Go.IntWalk.i64_in
def iQb:=@decide_eq_true_eq
def iQc:=@Go.Result.andThen_ok
def iQd:=@decide_eq_false_iff_not
def iQe:=@Go.Sem.run_bind
def iQf:=@if_false
def iQg:=@Go.Sem.run_pure
def iQh:=@congrArg
def iQi:=@Go.World.cell?_of_block
def iQj:=@decide_eq_true
def iQk:=@beq_iff_eq
def iQl:=@Go.World.block_lt_of_cell?
def iQm:=@Go.Steps.trans
def iQn:=@cond_true
def iQo:=@Go.step_lone_go
def iQp:=@cond_false
def iQq:=@decide_eq_false
def iQr:=@and_true
def iQs:=@true_and
def iQt:=@Go.Frame.finish_atR
def iQu:=@Go.IntKind.wrap_i32
def iQv:=@decide_true
def iQw:=@Go.mem_ready
def iQx:=@Go.StepsIn.steps
def iQy:=@List.exists_cons_of_ne_nil
def iQz:=@List.sublist_append_right
def iQA:=@Go.run_convert_bytes_string
def iQB:=@Go.World.putObj_heap_other
def iQC:=@List.pairwise_singleton
def iQD:=@UInt32.toNat_ofBitVec
def iQE:=@UInt8.lt_iff_toNat_lt
def iQF:=@List.countP_le_length
def iQG:=@Nat.div_lt_iff_lt_mul
def iQH:=@Go.run_sliceBound
def iQI:=@Go.size_zeroCells
def iQJ:=@List.singleton_append
def iQK:=@UInt8.toNat_ofBitVec
def iQL:=@BitVec.ofInt_natCast
def iQM:=@or_false
def iQN:=@Bool.or_assoc
def iQO:=@Array.toList_zipIdx
def iQP:=@List.drop_succ_cons
def iQQ:=@List.map_congr_left
def iQR:=@List.Sublist.append
def iQS:=@List.mem_map_of_mem
def iQT:=@List.all_nil
def iQU:=@List.map_map
def iQV:=@decide_false
def iQW:=@List.map_set
def bA := @Option.map_eq_some_iff
def dH := @Option.ite_none_right_eq_some
def bD := @Bool.and_eq_true
def dh := @List.getElem?_eq_getElem
def dB := @List.getElem?_eq_some_iff
def cR := @Option.bind_some
def fH := @Option.bind_eq_some_iff
def fG := @List.take_of_length_le
def iG := @Array.getElem?_eq_getElem
def dP := @Option.getD_some
def aV := @Nat.le_refl
def dk := @List.mem_of_getElem?
def gv := @Array.getElem?_eq_some_iff
def fP := @Option.isSome_iff_exists
def du := @Option.some.injEq
def hY := @List.getElem?_append_right
def iB := @List.getElem?_append_left
def eS := @List.length_append
def eC := @List.all_eq_true
def eW := @List.mem_flatMap
def iS := @Nat.eq_of_beq_eq_true
def dG := @List.mem_cons
def iR := @List.mem_cons_of_mem
def hU := @Bool.false_eq_true
def im := @List.mem_cons_self
def dT := @Nat.lt_or_ge
def il := @List.append_assoc
def kr := @Nat.mul_le_mul_right
def jH := @Bool.not_eq_true'
def mA := @List.take_append_drop
def gK := @Nat.le_of_lt
def kY := @List.flatMap_cons
def jG := @List.mem_append
def kq := @List.getElem_mem
def kp := @List.length_take
def l7 := @List.mem_singleton
def lJ := @List.getElem?_map
def ko := @List.nil_append
def lZ := @List.length_cons
def ot := @List.getElem_of_mem
def lI := @Bool.or_eq_true
def lH := @List.mapM_cons
def we := @List.eq_nil_of_length_eq_zero
def mz := @List.append_nil
def pt := @Option.bind_eq_bind
def kX := @Bool.true_and
def lY := @List.drop_drop
def re := @Bool.and_eq_true_iff
def yx := @Array.getElem?_setIfInBounds_ne
def ke := @Nat.add_mul
def oU := @Nat.lt_succ_self
def oq := @List.length_nil
def lX := @List.mem_map
def nk := @Bool.false_or
def oT := @Option.pure_def
def wc := @List.length_eq_zero_iff
def Db := @Array.getElem?_setIfInBounds_self_of_lt
def tP := @List.getElem?_eq_none
def q9 := @Classical.not_not
def qp := @Option.getD_none
def pr := @UInt8.toNat_inj
def zN := @Array.getD_eq_getD_getElem?
def rP := @List.length_drop
def w9 := @List.mem_of_mem_take
def wb := @Nat.pos_of_ne_zero
def sG := @List.foldl_cons
def w8 := @List.getElem?_take
def wZ := @List.getElem?_drop
def sF := @Bool.not_false
def sE := @List.mem_range
def qZ := @Nat.zero_add
def yw := @Array.length_toList
def tO := @Bool.false_and
def wa := @List.cons.injEq
def B8 := @Array.getElem?_push_lt
def zM := @List.flatMap_append
def zL := @Int.toNat_of_nonneg
def tN := @Bool.not_true
def tM := @Prod.mk.injEq
def vZ := @Bool.and_false
def sD := @Nat.sub_self
def wY := @List.nodup_cons
def zK := @Nat.lt_of_lt_of_le
def zJ := @Bool.not_eq_false'
def B0 := @List.mem_append_left
def BZ := @List.mem_of_mem_drop
def BY := @List.length_pos_iff
def Ib := @Array.eq_empty_of_size_eq_zero
def Da := @Array.getElem?_toList
def C9 := @List.length_singleton
def C8 := @List.set_append_right
def vY := @Bool.or_self
def BX := @Array.ext_getElem?
def wX := @Nat.lt_irrefl
def BW := @Int.toNat_natCast
def zI := @List.take_left'
def C7 := @List.getElem?_range
def wW := @Nat.add_zero
def FH := @List.getElem?_set_self
def yv := @Bool.and_true
def sW := @List.map_cons
def sV := @Bool.and_self
def Bi := @List.mem_append_right
def Bh := @Nat.le_of_ble_eq_true
def Bg := @Bool.and_eq_false_iff
def yX := @List.set_cons_zero
def uW := @List.drop_zero
def xg := @List.map_append
def xf := @Option.map_none
def sU := @Nat.le_trans
def xe := @List.drop_left'
def yW := @List.nodup_append
def yV := @Nat.lt_succ_of_lt
def uV := @Sum.inr.injEq
def uU := @List.all_cons
def Dt := @Int.eq_ofNat_of_zero_le
def Bf := @Nat.eq_zero_or_pos
def Ds := @Array.getElem?_modify
def xc := @Sum.inl.injEq
def GQ := @Int.fdiv_eq_ediv_of_nonneg
def Be := @Nat.lt_trichotomy
def GP := @List.mem_or_eq_of_mem_set
def Dr := @List.getElem?_set_ne
def Dq := @Bool.or_eq_false_iff
def uT := @Nat.zero_le
def Bd := @List.take_length
def Bc := @List.not_mem_nil
def Dp := @Bool.or_eq_true_iff
def GO := @List.getElem?_cons_zero
def GN := @Nat.add_sub_cancel_left
def pF := @Ne.symm
def Dn := @BitVec.toNat_ofInt
def GM := @UInt32.toNat_shiftLeft
def GL := @UInt8.le_iff_toNat_le
def Kx := @Option.ite_none_left_eq_some
def GK := @List.contains_iff_mem
def GJ := @List.length_replicate
def Dm := @List.flatMap_nil
def Dl := @Option.bind_none
def Dk := @List.drop_length
def Kw := @Array.getElem?_append_left
def Kv := @Int.tmod_eq_emod_of_nonneg
def Ku := @List.drop_eq_getElem_cons
def Kt := @List.extract_eq_take_drop
def GI := @List.pairwise_cons
def Bb := @Bool.true_or
def Ks := @Array.getElem?_replicate
def Ba := @Int.pow_succ
def GH := @List.ext_getElem?
def A9 := @Nat.le_succ
def Kr := @List.length_eq_one_iff
def Kq := @List.drop_of_length_le
def Dj := @Nat.add_assoc
def GG := @Nat.shiftLeft_eq
def GF := @List.any_eq_true
def GD := @Array.toList_inj
def GC := @Nat.mod_eq_of_lt
def GB := @List.cons_append
def Kp := @List.getElem?_toArray
def GA := @List.length_map
def Gz := @List.mem_filter
def PH := @List.eq_nil_iff_forall_not_mem
def Di := @List.map_nil
def Ko := @Array.toList_extract
def Gy := @Nat.min_eq_left
def Dh := @Nat.succ_mul
def Kn := @List.range_eq_range'
def Gx := @Int.natCast_pow
def Dg := @Int.lt_or_le
def Km := @List.replicate_succ
def PG := @List.dropLast_concat_getLast
def Df := @Nat.le_zero
def De := @Nat.sub_mul
def Kl := @Nat.lt_or_gt_of_ne
def Kk := @Array.foldl_toList
def PF := @Nat.two_pow_add_eq_or_of_lt
def Kj := @List.zip_cons_cons
def Gw := @List.mapM_nil
def Gv := @Bool.or_false
def Ki := @List.take_add_one
def Dd := @Array.ext'
def Dc := @Nat.not_lt
def Gu := @Bool.or_true
def Kh := @UInt32.toNat_inj
def Gt := @Nat.mul_comm
def Gs := @UInt8.not_lt
def Kg := @Option.some.inj
def Gr := @Int.le_refl
structure Ref where
 d:Nat
 t:Nat
 g:Nat
 k:Nat:=0
deriving DecidableEq,Inhabited
inductive AV where
 | v (x:Value)
 | agg (cs:List AV)
 | tup (vs:List AV)
 | cC (esz:Nat) (es:List AV) (cap:Option Nat)
 | bO (r:Ref) (off len:Nat) (cap:Option Nat)
 | dsl (r:Ref) (off len:Nat) (cap:Option Nat)
 | nsl (esz:Nat) (es:List AV) (cap:Option Nat)
 | fsl (esz:Nat) (es:List AV) (cap:Option Nat)
 | ptr (r:Ref) (i j:Nat)
 | iptr (esz:Nat) (es:List AV) (i j:Nat)
 | fn (f:Fn) (first captured:List AV)
 | ifc (t:TypeId) (x:AV)
 | yld (r:Ref)
 | mp (r:Ref)
 | ch (r:Ref)
 | xv (u:Value)
 | lp (f:FuncId) (nt:Nat) (ps:List Tmp) (assign body:Code) (tm:List AV)
def AV.undef:AV := .v Go.undef
instance:Inhabited AV:=⟨AV.undef⟩
def AV.cells:AV->List AV
 | .agg cs=>cs
 | x=>[x]
def AV.one:AV->Bool
 | .v (.tuple _) | .v (.agg _) | .agg _ | .tup _ | .fsl .. | .nsl .. | .lp .. => false
 | _=>true
structure aP where
 esz:Nat
 es:List AV
 arr:Bool
 fI:Bool
deriving Inhabited
def scalar:Value->Bool
 | .bool _ | .int _ _ | .float _ _ | .complex _ _ _ | .string _=>true
 | .pointer none | .slice none 0 0 | .map none | .chan none | .nilFunc | .nilIface=>true
 | .tuple a=>a.isEmpty
 | _=>false
def fS(x:Value):Option AV:=if scalar x then some (.v x) else none
def ofValue:Value->Option AV
 | .agg cs=>(cs.toList.mapM fS).map .agg
 | .func f first captured=>if first.isEmpty&&captured.isEmpty then some (.fn f [] []) else none
 | .tuple a=>if a.isEmpty then some (.v (.tuple #[])) else (a.toList.mapM fS).map .tup
 | .iface t x=>(fS x).map (.ifc t)
 | x=>fS x
def HS:AV->Option Value
 | .v x=>some x
 | _=>none
def ir:AV->Option Value
 | .v x=>some x
 | .agg cs=>(cs.mapM HS).map λl => .agg l.toArray
 | _=>none
def bh{b:Type}(P:Program):Sem b->Option b
 | .pure a=>some a
 | .program k=>bh P (k P)
 | .mark _ k=>bh P k
 | _=>none
abbrev ab:=List (Ref × Option aP)
abbrev cb:=Ref->Option aP
def ab.get:ab->Ref->Option aP
 | [],_=>none
 | (r',b) :: h,r=>if r'=r then b else ab.get h r
def ab.gen:ab->Nat->Nat->Nat
 | [],_,_=>0
 | (r',_) :: h,d,t=>if r'.d=d/\r'.t=t then r'.g+1 else ab.gen h d t
def ab.put:ab->Ref->Option aP->ab
 | [],r,b=>[(r,b)]
 | (r',a) :: h,r,b=>if r'=r then (r,b) :: h else (r',a) :: ab.put h r b
def dc:List AV->Nat->AV
 | [],_=>AV.undef
 | x :: _,0=>x
 | _ :: l,n+1=>dc l n
def zV:List AV->Nat->AV->List AV
 | [],0,v=>[v]
 | [],n+1,v=>AV.undef :: zV [] n v
 | _ :: l,0,v=>v :: l
 | x :: l,n+1,v=>x :: zV l n v
structure St where
 tm:List AV
 hp:ab
def av(P:Program)(t:TypeId):Option Nat:=(P.info? t).map (·.size)
def lg(P:Program)(t:TypeId):Option Nat:=(P.info? t).map (·.bytes)
def eJ(P:Program)(t:TypeId):Option AV:=((P.info? t).bind (·.zero)).bind ofValue
def eD(P:Program)(t:TypeId):Option Bool:=(P.underlying t).map fun | .struct _ | .array _ _=>true | _=>false
def pM(P:Program)(t:TypeId)(f:Nat):Option (Nat × TypeId):=
 match P.underlying t with
 | some (.struct fs)=>(fs[f]?).map λx=>(x.offset,x.type)
 | _=>none
def de(P:Program)(t:TypeId):Option TypeId:=
 match P.underlying t with
 | some (.slice e)=>some e
 | _=>none
def lK(P:Program)(t:TypeId):Option (Nat × TypeId):=
 match P.underlying t with
 | some (.array n e)=>some (n,e)
 | _=>none
def dQ(es:List AV)(i j n:Nat)(a:Bool):Option AV:=
 match es[i]? with
 | none=>none
 | some e=>
  if a then (if j+n<=e.cells.length/\0<n then some (.agg ((e.cells.drop j).take n)) else none) else e.cells[j]?
def patch(cs:List AV)(j:Nat)(new:List AV):List AV:=cs.take j++new++cs.drop (j+new.length)
def pG(e:AV)(j:Nat)(new:List AV):Option AV:=
 match e with
 | .agg cs=>if j+new.length<=cs.length then some (.agg (patch cs j new)) else none
 | _=>match j,new with
  | 0,[x]=>some x
  | _,_=>none
def eA(es:List AV)(i j:Nat)(new:List AV):Option (List AV):=
 match es[i]? with
 | none=>none
 | some e=>(pG e j new).map λa=>es.set i a
def view(g:cb):Nat->AV->Option AV
 | 0,_=>none
 | n+1,x=>
  match x with
  | .v x=>some (.v x)
  | .agg cs=>(cs.mapM (view g n)).map .agg
  | .tup cs=>(cs.mapM (view g n)).map .tup
  | .cC esz es cap=>some (.cC esz es cap)
  | .fsl .. => none
  | .iptr esz es i j=>some (.iptr esz es i j)
  | .bO r off len cap=>
   match g r with
   | some b=>if b.arr=true/\off+len<=b.es.length then some (.cC b.esz ((b.es.drop off).take len) cap) else none
   | none=>none
  | .nsl .. => none
  | .dsl r off len cap=>
   match g r with
   | some b=>if b.arr=false/\off+len<=b.es.length then (b.es.mapM (view g n)).map λes => .cC b.esz ((es.drop off).take len) cap else none
   | none=>none
  | .ptr r i j=>
   match g r with
   | some b=>if b.arr then some (.iptr b.esz b.es i j) else (b.es.mapM (view g n)).map λes => .iptr b.esz es i j
   | none=>none
  | .fn f a b=>match a.mapM (view g n),b.mapM (view g n) with
   | some a,some b=>some (.fn f a b)
   | _,_=>none
  | .ifc t x=>(view g n x).map (.ifc t)
  | .yld _ | .mp _ | .ch _ | .xv _ | .lp .. => none
def ad(g:cb):Nat->AV->List Ref
 | 0,_=>[]
 | n+1,x=>
  match x with
  | .agg cs | .tup cs=>cs.flatMap (ad g n)
  | .bO r _ _ _=>[r]
  | .dsl r _ _ _=>r :: (match g r with | some b=>b.es.flatMap (ad g n) | none=>[])
  | .ptr r _ _=>r :: (match g r with | some b=>if b.arr then [] else b.es.flatMap (ad g n) | none=>[])
  | .fn _ a b=>a.flatMap (ad g n)++b.flatMap (ad g n)
  | .ifc _ x=>ad g n x
  | .mp r=>[r]
  | .ch r=>[r]
  | _=>[]
def flat:Nat->AV->Bool
 | 0,_=>false
 | n+1,x=>
  match x with
  | .v _=>true
  | .agg cs | .tup cs=>cs.all (flat n)
  | .ifc _ x=>flat n x
  | .fn _ a b=>a.all (flat n)&&b.all (flat n)
  | _=>false
def bQ(H:ab):List Ref->ab
 | []=>H
 | r :: rs=>match H.get r with
  | some b=>bQ (H.put r (some { b with fI:=true})) rs
  | none=>bQ H rs
def lW(g:cb)(rs:List Ref):Bool:=rs.all λr=>match g r with | some b=>b.fI | none=>false
def depth:Nat:=8
def ar(tm:List AV):Operand->Option AV
 | .tmp t=>some (dc tm t)
 | .const v=>ofValue v
 | .func f=>some (.fn (.func f) [] [])
 | .global _=>none
def intOf:AV->Option Int
 | .v (.int _ n)=>some n
 | _=>none
def BQ:AV->Option Bool
 | .v (.bool b)=>some b
 | _=>none
def aY:Nat:=140737488355328
def cr(g:cb):AV->Option (Nat × List AV)
 | .v (.string s)=>some (1,s.data.toList.map λb => .v (.int .u8 b.toNat))
 | .cC esz es _=>some (esz,es)
 | .bO r off len _=>match g r with
  | some b=>if b.arr=true/\off+len<=b.es.length then some (b.esz,(b.es.drop off).take len) else none
  | none=>none
 | _=>none
def bounds(len:Nat)(cap:Option Nat)(lo hi a:Option Int):Option (Nat × Nat × Option Nat):=
 match a with
 | some m=>
  match hi with
  | some h=>if 0<=lo.getD 0/\lo.getD 0<=h/\h<=m/\m<=cap.getD len/\h<=len then some ((lo.getD 0).toNat,h.toNat,some (m.toNat - (lo.getD 0).toNat)) else none
  | none=>none
 | none=>if 0<=lo.getD 0/\lo.getD 0<=hi.getD len/\hi.getD len<=len then some ((lo.getD 0).toNat,(hi.getD len).toNat,cap.map (· - (lo.getD 0).toNat)) else none
def ky(tm:List AV):Option Operand->Option (Option Int)
 | none=>some none
 | some o=>match (ar tm o).bind intOf with
  | some n=>some (some n)
  | none=>none
def xu(P:Program)(t:TypeId)(cs:List AV)(a:Nat):Option AV:=
 match eD P t,av P t with
 | some true,some n=>if a+n<=cs.length then some (.agg ((cs.drop a).take n)) else none
 | some false,_=>cs[a]?
 | _,_=>none
def pS(a:Nat->Option (Nat × Nat))(cells:List AV):List (Nat × AV)->Option (List AV)
 | []=>some cells
 | (i,v) :: rest=>
  match a i with
  | none=>none
  | some (off,size)=>
   if v.cells.length=size/\off+size<=cells.length then pS a (patch cells off v.cells) rest else none
def aC(P:Program)(t:TypeId)(i:Nat):Option (Nat × Nat):=
 match pM P t i with
 | some (off,a)=>(av P a).map λn=>(off,n)
 | none=>none
def placesOf(P:Program)(t:TypeId):Option (List (Nat × Nat)):=
 match P.underlying t with
 | some (.struct fs)=>fs.toList.mapM λf=>(P.info? f.type).map λi=>(f.offset,i.size)
 | _=>none
def gR(es:List AV):List (Nat × AV)->Option (List AV)
 | []=>some es
 | (i,v) :: rest=>if i<es.length then gR (es.set i v) rest else none
def fw(tm:List AV)(ps:List (Nat × Operand)):Option (List (Nat × AV)):=
 ps.mapM λ(i,o)=>(ar tm o).map λx=>(i,x)
def sN(P:Program)(a:BinOp)(t:TypeId)(xo b:Operand)(x y:Value):Option Value:=
 bh P (do eqGuard a t xo b x y;binOp a t x y)
def pz:AV->Option Nat
 | .v (.slice none 0 0)=>some 0
 | .cC _ es _=>some es.length
 | .bO _ _ n _=>some n
 | .dsl _ _ n _=>some n
 | _=>none
def Hp(f:Value->Value->Sem Value)(P:Program)(args:List AV):Option AV:=
 match args.mapM HS with
 | some (x :: rest)=>(bh P (rest.foldlM f x)).bind fS
 | _=>none
def byteOf:AV->Option UInt8
 | .v (.int .u8 n)=>some (UInt8.ofNat n.toNat)
 | _=>none
abbrev gu:=Option (AV × List aP)
def ik(x:Option AV):gu:=x.map (·,[])
def Ee(d:Operand->Option AV)(c a b:Operand):gu:=
 match (d c).bind BQ with
 | some true=>ik (d a)
 | some false=>ik (d b)
 | none=>none
def tn(P:Program)(r:Ref)(e:TypeId):gu:=
 match eJ P e,av P e with
 | some z,some n=>if z.cells.length=n/\z.cells.all AV.one/\0<n then some (.ptr r 0 0,[⟨n,[z],false,false⟩]) else none
 | _,_=>none
def Fp(P:Program)(r:Ref)(e:TypeId)(x:Option AV):gu:=
 match x,av P e with
 | some x,some n=>if x.cells.length=n/\x.cells.all AV.one/\0<n then some (.ptr r 0 0,[⟨n,[x],false,false⟩]) else none
 | _,_=>none
def lz(P:Program)(t:TypeId)(a:Option (List (Nat × AV))):gu:=
 match eJ P t,a with
 | some (.agg z),some a=>
  match lK P t with
  | some (_,e)=>match av P e with
   | some n=>(pS (λi=>some (i * n,n)) z a).map λcs=>(.agg cs,[])
   | none=>none
  | none=>match placesOf P t with
   | some ps=>(pS (ps[·]?) z a).map λcs=>(.agg cs,[])
   | none=>none
 | _,_=>none
def eU(g:cb)(a:List (Nat × AV)):Option (List (Nat × AV)):=a.mapM λ(i,x)=>(view g depth x).map (i,·)
def bW(g:cb)(a:List AV):List Ref:=a.flatMap (ad g depth)
def mkSlice(P:Program)(g:cb)(t:TypeId)(n:Nat)(a:List (Nat × AV)):Option aP:=
 match de P t with
 | none=>none
 | some e=>match eU g a,eJ P e,av P e with
  | some ws,some z,some s=>
   if 0<s/\n * s<=16777216/\z.cells.length=s/\z.cells.all AV.one/\ws.all (λp=>p.2.cells.length=s&&p.2.cells.all AV.one) then
    (gR (List.replicate n z) ws).map λes=>⟨s,es,true,false⟩
   else none
  | _,_,_=>none
def gw(P:Program)(a:Bool)(g:cb)(r:Ref)(t:TypeId)(n:Nat)(c:Option (List (Nat × AV))):gu:=
 match c with
 | none=>none
 | some c=>if lW g (bW g (c.map (·.2))) then (mkSlice P g t n c).map λb=>(if a then (.cC b.esz b.es (some n),[]) else (.bO r 0 n (some n),[b])) else none
def mP(P:Program)(g:cb)(t:TypeId)(a:Option AV):gu:=
 match a,eD P t,av P t with
 | some (.ptr r' i j),some c,some n=>match g r' with
  | some b=>ik (dQ b.es i j n c)
  | none=>none
 | some (.iptr _ es i j),some c,some n=>ik (dQ es i j n c)
 | _,_,_=>none
def Bx(x:Option AV):gu:=
 match x with
 | some (.ptr r' i j)=>some (.ptr r' i j,[])
 | some (.iptr n es i j)=>some (.iptr n es i j,[])
 | some (.fn (.func f) a b)=>some (.fn (.func f) a b,[])
 | _=>none
def CJ:AV->Bool
 | .cC .. | .bO .. | .dsl .. => true
 | _=>false
def jT:AV->Bool
 | .v (.slice none 0 0)=>true
 | _=>false
def bE(P:Program)(a:BinOp)(t:TypeId)(xo b:Operand)(x y:Option AV):gu:=
 match x,y with
 | some x,some y=>
  if CJ x&&jT y||CJ y&&jT x then
   match P.underlying t,a with
   | some (.slice _),.eql=>some (.v (.bool false),[])
   | some (.slice _),.neq=>some (.v (.bool true),[])
   | _,_=>none
  else
   match ir x,ir y with
   | some x,some y=>ik ((sN P a t xo b x y).bind fS)
   | _,_=>none
 | _,_=>none
def Vm(P:Program)(a:UnOp)(x:Option AV):gu:=
 ik (((x.bind HS).bind λx=>bh P (Op.unary a x)).bind fS)
def cM(P:Program)(t:TypeId):Bool:=
 match P.underlying t with
 | some (.slice e)=>(match P.underlying e with | some (.int .u8)=>true | _=>false)
 | _=>false
def isStr(P:Program)(t:TypeId):Bool:=match P.underlying t with | some .string=>true | _=>false
def bM(P:Program)(g:cb)(r:Ref)(src dst:TypeId)(x:Option AV):gu:=
 match x with
 | some (.v (.slice none 0 0))=>if cM P src&&isStr P dst then some (.v (.string .empty),[]) else none
 | some (.v (.string s))=>
  if isStr P src&&isStr P dst then some (.v (.string s),[])
  else if isStr P src&&cM P dst then
   (if s.size<=aY then some (.bO r 0 s.size none,[⟨1,s.data.toList.map λb => .v (.int .u8 b.toNat),true,false⟩]) else none)
  else none
 | some (.v x)=>ik ((bh P (Go.convert src dst x)).bind fS)
 | some x=>if cM P src&&isStr P dst then
  match cr g x with
  | some (_,es)=>(es.mapM byteOf).map λl=>(.v (.string ⟨l.toArray⟩),[])
  | none=>none
  else if src == dst&&cM P src then
   match x with
   | .bO r' _ _ _=>(match g r' with
    | some b=>if b.esz=1 then some (x,[]) else none
    | none=>none)
   | _=>none
  else none
 | none=>none
def vq(P:Program)(t:TypeId)(x:Option AV):gu:=
 match P.underlying t with
 | some (.interface _)=>none
 | some _=>x.map λx=>(.ifc t x,[])
 | none=>none
def wy(f:Fn)(first captured:Option (List AV)):gu:=
 match first,captured with
 | some a,some b=>some (.fn f a b,[])
 | _,_=>none
def wu(P:Program)(r:Ref)(t:TypeId)(l c:Option AV):gu:=
 match de P t,l.bind intOf,c.bind intOf with
 | some e,some l,some c=>match eJ P e,av P e,lg P e with
  | some z,some s,some b=>
   if 0<=l/\l<=c/\c * b<=aY/\c<=9223372036854775807/\0<s/\z.cells.length=s/\z.cells.all AV.one then some (.bO r 0 l.toNat none,[⟨s,List.replicate l.toNat z,true,false⟩]) else none
  | _,_,_=>none
 | _,_,_=>none
def dm(P:Program)(g:cb)(t:TypeId)(x:Option AV)(lo hi a:Option (Option Int)):gu:=
 match lo,hi,a with
 | some lo,some hi,some a=>
  match x with
  | some (.v (.slice none 0 0))=>if ((de P t).bind (av P)).isSome then (bounds 0 (some 0) lo hi a).map λ_=>(.v (.slice none 0 0),[]) else none
  | some (.v (.string s))=>if isStr P t&&a.isNone then (bounds s.size none lo hi none).map λ(l,h,_)=>(.v (.string (s.extract l h)),[]) else none
  | some (.cC esz es cap)=>if (de P t).bind (av P)=some esz then (bounds es.length cap lo hi a).map λ(l,h,c)=>(.cC esz ((es.drop l).take (h - l)) c,[]) else none
  | some (.bO r' off len cap)=>(match g r' with
   | some b=>if (de P t).bind (av P)=some b.esz then (bounds len cap lo hi a).map λ(l,h,c)=>(.bO r' (off+l) (h - l) c,[]) else none
   | none=>none)
  | some (.dsl r' off len cap)=>(match g r' with
   | some b=>if (de P t).bind (av P)=some b.esz then (bounds len cap lo hi a).map λ(l,h,c)=>(.dsl r' (off+l) (h - l) c,[]) else none
   | none=>none)
  | _=>none
 | _,_,_=>none
def sL(P:Program)(g:cb)(t:TypeId)(x:Option AV)(lo hi a:Option (Option Int)):gu:=
 match lo,hi,a,x with
 | some lo,some hi,some none,some (.bO r' off len cap)=>(match g r' with
  | some b=>if (de P t).bind (av P)=some b.esz/\0<=lo.getD 0/\lo.getD 0<=hi.getD len/\hi.getD len<=cap.getD len then
   some (.bO r' (off+(lo.getD 0).toNat) ((hi.getD len).toNat - (lo.getD 0).toNat) (cap.map (· - (lo.getD 0).toNat)),[]) else none
  | none=>none)
 | _,_,_,_=>none
def IW(P:Program)(g:cb)(t:TypeId)(args:List AV):gu:=
 match args,de P t with
 | [.bO r _ _ _,.bO r' _ _ _],some e=>(match g r,g r',av P e with
  | some b,some a,some z=>if r≠r'/\1<b.esz/\b.esz=z/\a.esz=z then some (.v (.bool false),[]) else none
  | _,_,_=>none)
 | _,_=>none
def Ck(o1:FuncId->Option TypeId)(a:Bool)(f:Operand):Option TypeId:=match a,f with
 | false,.func b=>o1 b
 | _,_=>none
@[simp] def vu(o1:FuncId->Option TypeId)(f:Operand):Ck o1 true f=none:=by cases f<;>rfl
def iy(P:Program)(t:TypeId)(x:Option AV)(f:Nat):gu:=
 match aC P t f with
 | some (off,s)=>if 0<s then
  match x with
  | some (.ptr r' i j)=>some (.ptr r' i (j+off),[])
  | some (.iptr n es i j)=>some (.iptr n es i (j+off),[])
  | _=>none
  else none
 | none=>none
def qN(P:Program)(t:TypeId)(x:Option AV)(f:Nat):gu:=
 match pM P t f,x with
 | some (off,a),some (.agg cs)=>ik (xu P a cs off)
 | _,_=>none
def bI(P:Program)(g:cb)(t:TypeId)(x a:Option AV):gu:=
 match a.bind intOf with
 | some k=>
  match de P t with
  | some e=>match x,av P e with
   | some (.cC esz es _),some s=>if 0<=k/\k<es.length/\s=esz then some (.iptr esz es k.toNat 0,[]) else none
   | some (.bO r' off len _),some s=>(match g r' with
    | some b=>if 0<=k/\k<len/\s=b.esz then some (.ptr r' (off+k.toNat) 0,[]) else none
    | none=>none)
   | some (.dsl r' off len _),some s=>(match g r' with
    | some b=>if 0<=k/\k<len/\s=b.esz then some (.ptr r' (off+k.toNat) 0,[]) else none
    | none=>none)
   | _,_=>none
  | none=>match lK P t with
   | some (n,e)=>match x,av P e with
    | some (.ptr r' i j),some s=>if 0<=k/\k<n then some (.ptr r' i (j+k.toNat * s),[]) else none
    | some (.iptr esz es i j),some s=>if 0<=k/\k<n then some (.iptr esz es i (j+k.toNat * s),[]) else none
    | _,_=>none
   | none=>none
 | none=>none
def tk(P:Program)(t:TypeId)(x a:Option AV):gu:=
 match a.bind intOf,x with
 | some k,some (.agg cs)=>(match lK P t with
  | some (n,e)=>(match av P e with
   | some s=>if 0<=k/\k<n then ik (xu P e cs (k.toNat * s)) else none
   | none=>none)
  | none=>none)
 | some k,some (.v (.string s))=>if isStr P t/\0<=k then ik ((s[k.toNat]?).map λb => .v (.int .u8 b.toNat)) else none
 | _,_=>none
def yc(P:Program)(x:Option AV)(a:TypeId)(ok:Bool):gu:=
 match P.underlying a,x with
 | some (.interface _),_=>none
 | some _,some (.ifc t y)=>
  if t=a then some ((if ok then .tup [y,.v (.bool true)] else y),[])
  else if ok then (eJ P a).map λz=>(.tup [z,.v (.bool false)],[]) else none
 | some _,some (.v .nilIface)=>if ok then (eJ P a).map λz=>(.tup [z,.v (.bool false)],[]) else none
 | _,_=>none
def qy(x:Option AV)(i:Nat):gu:=
 match x with
 | some (.tup a)=>ik (a[i]?)
 | _=>none
def nJ(a:List AV):aP:=⟨0,.v (.bool true) :: a,false,false⟩
def kA(g:cb)(r:Ref):Option (List AV):=match g r with
 | some ⟨0,.v (.bool true) :: a,false,_⟩=>some a
 | _=>none
def ER(cap:Nat)(b:Bool)(a:List AV):aP:=⟨0,.v (.bool false) :: .v (.int .i64 cap) :: .v (.bool b) :: a,false,false⟩
def Se(g:cb)(r:Ref):Option (Nat × Bool × List AV):=match g r with
 | some ⟨0,.v (.bool false) :: .v (.int .i64 cap) :: .v (.bool a) :: buf,false,_⟩=>some (cap.toNat,a,buf)
 | _=>none
def Iz(P:Program)(t:TypeId):Option TypeId:=match P.underlying t with
 | some (.chan _ e)=>some e
 | _=>none
def Ix(P:Program)(t:TypeId):Option (TypeId × TypeId):=match P.underlying t with
 | some (.map k e)=>some (k,e)
 | _=>none
def BN:AV->Option Value
 | .tup [k,_]=>ir k
 | _=>none
def zo:AV->Option AV
 | .tup [_,v]=>some v
 | _=>none
def vD(P:Program)(a:Bool)(b:TypeId)(k:Value)(c:List Value):Option (Option Nat):=
 match bh P (Instr.checkKey a 10000 b k) with
 | some _=>(bh P (Instr.findKey b k (c.map λx=>⟨x,Go.undef,0⟩))).map λo=>o.map (·.1)
 | none=>none
def jQ(P:Program)(g:cb)(t:TypeId)(x k:Option AV)(ok:Bool):gu:=
 match Ix P t,x,k.bind ir with
 | some (e,c),some (.mp r),some d=>(match kA g r with
  | some a=>(match a.mapM BN with
   | some b=>(match vD P b.isEmpty e d b with
    | some (some i)=>(a[i]?.bind zo).map λv=>((if ok then .tup [v,.v (.bool true)] else v),[])
    | some none=>(eJ P c).map λz=>((if ok then .tup [z,.v (.bool false)] else z),[])
    | none=>none)
   | none=>none)
  | none=>none)
 | _,_,_=>none
def yb(P:Program)(g:cb)(t:Option TypeId)(r:Ref):gu:=
 match t.bind (Ix P),kA g r with
 | some _,some a=>some (.v (.int .i64 a.length),[])
 | _,_=>none
def Mq:Value->Value->Bool
 | .bool a,.bool b=>a == b
 | .int k n,.int k' c=>decide (k=k')&&decide (n=c)
 | .string s,.string t=>decide (s=t)
 | .slice none a b,.slice none e d=>Nat.beq a e&&Nat.beq b d
 | .nilFunc,.nilFunc=>true
 | .nilIface,.nilIface=>true
 | _,_=>false
def Gm:Nat->AV->AV->Bool
 | 0,_,_=>false
 | n+1,x,y=>
  match x,y with
  | .v u,.v v=>Mq u v
  | .agg cs,.agg ds=>Nat.beq cs.length ds.length&&(cs.zip ds).all λp=>Gm n p.1 p.2
  | .cC z es c,.cC b es' a=>Nat.beq z b&&decide (c=a)&&Nat.beq es.length es'.length&&(es.zip es').all λp=>Gm n p.1 p.2
  | _,_=>false
def D8(r r':Ref):Bool:=Nat.beq r.t r'.t&&Nat.beq r.g r'.g&&Nat.beq r.d r'.d&&Nat.beq r.k r'.k
def yO:Nat->AV->AV->Bool
 | 0,_,_=>false
 | n+1,x,y=>
  match x,y with
  | .v u,.v v=>Mq u v
  | .agg cs,.agg ds=>Nat.beq cs.length ds.length&&(cs.zip ds).all λp=>yO n p.1 p.2
  | .tup cs,.tup ds=>Nat.beq cs.length ds.length&&(cs.zip ds).all λp=>yO n p.1 p.2
  | .cC z es c,.cC k es' g=>Nat.beq z k&&decide (c=g)&&Nat.beq es.length es'.length&&(es.zip es').all λp=>yO n p.1 p.2
  | .bO r a b c,.bO r' e d g=>D8 r r'&&Nat.beq a e&&Nat.beq b d&&decide (c=g)
  | .dsl r a b c,.dsl r' e d g=>D8 r r'&&Nat.beq a e&&Nat.beq b d&&decide (c=g)
  | .ptr r i j,.ptr r' h m=>D8 r r'&&Nat.beq i h&&Nat.beq j m
  | .mp r,.mp r'=>D8 r r'
  | .ch r,.ch r'=>D8 r r'
  | .fn (.func f) a b,.fn (.func l) e d=>Nat.beq f l&&(Nat.beq a.length e.length&&(a.zip e).all λp=>yO n p.1 p.2)&&(Nat.beq b.length d.length&&(b.zip d).all λp=>yO n p.1 p.2)
  | .ifc t x,.ifc t' o=>Nat.beq t t'&&yO n x o
  | _,_=>false
def HN(k k':aP):Bool:=Nat.beq k.esz k'.esz&&k.arr == k'.arr&&k.fI == k'.fI&&Nat.beq k.es.length k'.es.length&&(k.es.zip k'.es).all λp=>yO 8 p.1 p.2
def EB(H H':ab):Bool:=H.all λp=>match H.get p.1 with
 | none=>true
 | some k=>match H'.get p.1 with
  | none=>false
  | some k'=>HN k k'
def Rv(a ys:List AV):Bool:=Nat.beq a.length ys.length&&(a.zip ys).all λp=>Gm 8 p.1 p.2
def Hq:List (FuncId × List AV × AV)->FuncId->List AV->Option AV
 | [],_,_=>none
 | (g,xs,y) :: T,f,args=>if Nat.beq g f&&Rv xs args then some y else Hq T f args
def ae(r:Ref):Nat->AV->List aP->AV × List aP
 | 0,x,bs=>(x,bs)
 | n+1,x,bs=>
  match x with
  | .fsl esz es cap=>if esz=0 then (.mp { r with k:=bs.length},bs++[⟨0,es,false,false⟩]) else (.bO { r with k:=bs.length} 0 es.length cap,bs++[⟨esz,es,true,false⟩])
  | .nsl esz es cap=>let (ys,bs):=es.foldl (λ(p:List AV × List aP) c=>let (y,bs):=ae r n c p.2;(p.1++[y],bs)) ([],bs);(.dsl { r with k:=bs.length} 0 es.length cap,bs++[⟨esz,ys,false,false⟩])
  | .agg cs=>let (ys,bs):=cs.foldl (λ(p:List AV × List aP) c=>let (y,bs):=ae r n c p.2;(p.1++[y],bs)) ([],bs);(.agg ys,bs)
  | .tup cs=>let (ys,bs):=cs.foldl (λ(p:List AV × List aP) c=>let (y,bs):=ae r n c p.2;(p.1++[y],bs)) ([],bs);(.tup ys,bs)
  | .ifc t x=>let (y,bs):=ae r n x bs;(.ifc t y,bs)
  | x=>(x,bs)
inductive qJ where
 | fn (f:FuncId)
 | yld (r:Ref)
def xA(m:Nat):Bool:=m == 1||m == 3
def Af:Nat->AV->Bool
 | 0,_=>false
 | n+1,x=>
  match x with
  | .v _=>true
  | .agg cs | .tup cs=>cs.all (Af n)
  | .fsl z es _=>z != 0&&es.all (flat depth)
  | .cC _ es _=>es.isEmpty
  | .ifc _ x=>Af n x
  | _=>false
structure J7 where
 f:ab->ab->Bool
 ok : ∀H H',f H H'=true ->∀q k,H.get q=some k->H'.get q=some k
def Ls:J7:=⟨λ_ _=>false,λ_ _ h=>by cases h⟩
structure Env where
 P:Program
 strict:Oper->Bool
 apart:Array Oper->List (Tmp × Tmp)
 mode:FuncId->Nat
 allowed:FuncId->Bool
 spec:FuncId->List AV->Option AV
 ok:Array Oper->Bool:=λ_=>true
 fI:Oper->Bool:=λ_=>false
 wide:Oper->Bool:=λ_=>false
 o1:FuncId->Option TypeId:=λ_=>none
 thrSpec:FuncId->List AV->ab->Option (AV × ab):=λ_ _ _=>none
 sm:J7:=Ls
 deep:Oper->Bool:=λ_=>false
def jR(E:Env)(pc:FuncId->List AV->Option AV)(g:cb)(r:Ref)(f:Option AV)(args:List AV):gu:=
 match f with
 | some (.fn (.func a) first captured)=>
  if E.mode a=2 then none else
  match (first++args++captured).mapM (view g depth) with
  | some xs=>match pc a xs with
   | some y=>if flat depth y||lW g (bW g (first++args++captured))||(E.mode a == 3&&Af depth y) then some (ae r depth y []) else none
   | none=>none
  | none=>none
 | _=>none
def Fl(P:Program)(t:Option TypeId)(x:AV):gu:=
 match t with
 | none=>none
 | some t=>match lK P t with
  | some (n,_)=>some (.v (.int .i64 n),[])
  | none=>if isStr P t then (match x with | .v (.string s)=>some (.v (.int .i64 s.size),[]) | _=>none)
   else if (de P t).isSome then (pz x).map λn=>(.v (.int .i64 n),[]) else none
def lN(P:Program)(g:cb)(e:TypeId)(x:AV):Option (Nat × List AV):=
 match x with
 | .v (.slice none 0 0)=>(av P e).map λz=>(z,[])
 | .v (.int _ n)=>match eJ P e,av P e with
  | some w,some z=>if 0<=n/\n<=aY/\w.cells.length=z/\w.cells.all AV.one then some (z,List.replicate n.toNat w) else none
  | _,_=>none
 | x=>cr g x
def isNum:AV->Bool
 | .v (.int _ _)=>true
 | _=>false
def isInt(P:Program)(t:TypeId):Bool:=match P.underlying t with | some (.int _)=>true | _=>false
def dY(P:Program)(g:cb)(r:Ref)(t t':Option TypeId)(s x:AV):gu:=
 match t.bind (de P) with
 | none=>none
 | some e=>
  if (t'.bind P.underlying).isNone\/(t'.map (isInt P)).getD false≠isNum x then none else
  match av P e,lg P e,eJ P e,lN P g e x with
  | some z,some by',some zz,some (a,new)=>
   if a≠z\/z=0\/by'=0\/zz.cells.length≠z then none else
   match s with
   | .v (.slice none 0 0)=>if new=[] then some (s,[]) else if new.length * by'<=aY then some (.bO r 0 new.length none,[⟨z,new,true,false⟩]) else none
   | .cC n es cap=>if n≠z then none else if new=[] then some (s,[]) else
    match cap with
    | some k=>if k<es.length+new.length/\(es.length+new.length) * by'<=aY then some (.bO r 0 (es.length+new.length) none,[⟨z,es++new,true,false⟩]) else none
    | none=>none
   | .bO r' off len cap=>(match g r' with
    | some b=>if b.esz≠z\/b.arr=false then none else if new=[] then some (s,[]) else
     (match cap with
     | some k=>if off+len<=b.es.length/\k<len+new.length/\(len+new.length) * by'<=aY then
      some (.bO r 0 (len+new.length) none,[⟨z,(b.es.drop off).take len++new,true,false⟩]) else none
     | none=>none)
    | none=>none)
   | _=>none
  | _,_,_,_=>none
def WK(P:Program)(t:Option TypeId)(x:AV):gu:=
 match t.bind (de P),x with
 | some _,.v (.slice none 0 0)=>some (.v (.int .i64 0),[])
 | some _,.cC _ _ (some k)=>some (.v (.int .i64 k),[])
 | some _,.bO _ _ _ (some k)=>some (.v (.int .i64 k),[])
 | _,_=>none
def dX(P:Program)(a:Bool)(g:cb)(r:Ref)(b:Builtin)(c:Array TypeId)(args:List AV):gu:=
 match b,args with
 | .len,[.mp r']=>if a then none else yb P g c[0]? r'
 | .len,[x]=>Fl P c[0]? x
 | .min,args=>ik (Hp Builtin.min2 P args)
 | .max,args=>ik (Hp Builtin.max2 P args)
 | .append,[s,x]=>dY P g r c[0]? c[1]? s x
 | .cap,[x]=>WK P c[0]? x
 | _,_=>none
def LK(b:Bool)(bs:List aP):List aP:=if b then bs.map (λk => { k with fI:=true}) else bs
def ca(E:Env)(pc:FuncId->List AV->Option AV)(d:Bool)(g:cb)(tm:List AV)(r:Ref)(o:Oper):gu:=
 match o.op with
 | .move x | .assign x=>ik (ar tm x)
 | .pick c a b=>Ee (ar tm) c a b
 | .alloc e=>tn E.P r e
 | .box e x=>Fp E.P r e (ar tm x)
 | .build t ps=>lz E.P t (fw tm ps.toList)
 | .buildSlice t n ps=>gw E.P (d && !E.strict o) g r t n (fw tm ps.toList)
 | .load t a=>mP E.P g t (ar tm a)
 | .nilCheck x=>Bx (ar tm x)
 | .binOp op t xo m _=>bE E.P op t xo m (ar tm xo) (ar tm m)
 | .unOp op _ x=>Vm E.P op (ar tm x)
 | .convert src dst x=>bM E.P g r src dst (ar tm x)
 | .makeInterface t x=>vq E.P t (ar tm x)
 | .makeFunc f first captured=>wy f (first.toList.mapM (ar tm)) (captured.toList.mapM (ar tm))
 | .makeSlice t l c=>wu E.P r t (ar tm l) (ar tm c)
 | .makeMap _ none=>some (.mp r,[nJ []])
 | .lookup t x k ok=>jQ E.P g t (ar tm x) (ar tm k) ok
 | .slice t x lo hi j=>cond (E.wide o && !d) (sL E.P g t (ar tm x) (ky tm lo) (ky tm hi) (ky tm j)) (dm E.P g t (ar tm x) (ky tm lo) (ky tm hi) (ky tm j))
 | .fieldAddr t x f=>iy E.P t (ar tm x) f
 | .field t x f=>qN E.P t (ar tm x) f
 | .indexAddr t x h=>bI E.P g t (ar tm x) (ar tm h)
 | .index t x h=>tk E.P t (ar tm x) (ar tm h)
 | .typeAssert x _ want ok=>yc E.P (ar tm x) want ok
 | .extract x i=>qy (ar tm x) i
 | .call c=>
  match c.args.toList.mapM (ar tm) with
  | none=>none
  | some args=>
   match c.callee with
   | .value f=>(match Ck E.o1 d f with
    | some t=>IW E.P g t args
    | none=>(jR E pc g r (ar tm f) args).map λp=>(p.1,LK (E.fI o) p.2))
   | .invoke _ _=>none
   | .builtin b=>dX E.P (d&&(E.strict o || !(match c.args.toList with | [.tmp _]=>true | _=>false))) g r b c.argTypes args
 | _=>none
def keyed(r:Ref):Nat->List aP->ab->ab
 | _,[],g=>g
 | k,b :: bs,g=>keyed r (k+1) bs (({ r with k:=k},some b) :: g)
abbrev bU:=Option (AV × ab)
def iu(P:Program)(H:ab)(t:TypeId)(a x:Option AV):bU:=
 match a,x,av P t with
 | some (.ptr r' i j),some x,some n=>
  match H.get r' with
  | some b=>
   if x.cells.length=n/\x.cells.all AV.one/\b.fI=false then
    (if b.arr=true then
     match view H.get depth x with
     | some y=>if r'∈ad H.get depth x then none else if y.cells.all AV.one=true then (eA b.es i j y.cells).map λes=>(AV.undef,(bQ H (ad H.get depth x)).put r' (some { b with es})) else none
     | none=>none
    else (eA b.es i j x.cells).map λes=>(AV.undef,H.put r' (some { b with es})))
   else none
  | none=>none
 | _,_,_=>none
def iT(P:Program)(H:ab)(r:Ref)(t:TypeId)(n:Nat)(a:Option (List (Nat × AV))):bU:=
 match a with
 | none=>none
 | some a=>(mkSlice P H.get t n a).map λb=>(.bO r 0 n (some n),(r,some b) :: bQ H (bW H.get (a.map (·.2))))
def l8(E:Env)(pc:FuncId->List AV->Option AV)(tc:qJ->List AV->ab->bU)(H:ab)(r:Ref)(f:Option AV)(args:List AV):bU:=
 match f with
 | some (.fn (.func g) first captured)=>
  if E.mode g=2 then tc (.fn g) (first++args++captured) H else
  match (first++args++captured).mapM (view H.get depth) with
  | some xs=>(pc g xs).map λy=>((ae r depth y []).1,keyed r 0 (ae r depth y []).2 (bQ H (bW H.get (first++args++captured))))
  | none=>none
 | some (.yld q)=>tc (.yld q) args H
 | _=>none
def pv(b:Bool)(sm:J7)(H:ab)(x:bU):bU:=match b,x with
 | true,some (y,H')=>if flat depth y&&(EB H H'||sm.f H H') then some (y,H) else none
 | _,x=>x
def iH(P:Program)(H:ab)(t t':Option TypeId)(s x:AV):bU:=
 match t.bind (de P) with
 | none=>none
 | some e=>
  if (t'.bind P.underlying).isNone\/(t'.map (isInt P)).getD false≠isNum x then none else
  match av P e,lg P e,eJ P e,lN P H.get e x with
  | some z,some by',some zz,some (a,new)=>
   if a≠z\/z=0\/by'=0\/new=[]\/zz.cells.length≠z then none else
   match s with
   | .bO r' off len none=>(match H.get r' with
    | some b=>if off=0/\b.arr=true/\b.esz=z/\len=b.es.length/\(len+new.length) * by'<=aY then
     some (.bO ⟨r'.d,r'.t,H.gen r'.d r'.t,0⟩ 0 (len+new.length) none,(⟨r'.d,r'.t,H.gen r'.d r'.t,0⟩,some ⟨z,b.es++new,true,b.fI⟩) :: H.put r' none) else none
    | none=>none)
   | _=>none
  | _,_,_,_=>none
def Ii(P:Program)(H:ab)(t:Option TypeId)(dst x:AV):bU:=
 match t.bind (de P) with
 | none=>none
 | some e=>match av P e with
  | none=>none
  | some z=>match (if jT x then some (z,[]) else cr H.get x) with
   | none=>none
   | some (a,src)=>if a≠z\/z=0 then none else
    match dst with
    | .v (.slice none 0 0)=>some (.v (.int .i64 0),H)
    | .bO r' off len _=>(match H.get r' with
     | some b=>
      if b.arr=true/\b.esz=z/\b.fI=false/\off+len<=b.es.length then
       some (.v (.int .i64 (Nat.min src.length len:Nat)),H.put r' (some { b with es:=b.es.take off++src.take (Nat.min src.length len)++b.es.drop (off+Nat.min src.length len)})) else none
     | none=>none)
    | _=>none
def Dz(P:Program)(H:ab)(t:Option TypeId)(dst x:AV):bU:=
 match (t.bind (de P)).bind (av P),dst,x with
 | some z,.bO r off len _,.bO r2 a vH _=>(match H.get r,H.get r2 with
  | some b,some b2=>
   if b.arr=true/\b2.arr=true/\b.esz=z/\b2.esz=z/\0<z/\b.fI=false/\off<=b.es.length/\a+Nat.min vH len<=b2.es.length then
    some (.v (.int .i64 (Nat.min vH len:Nat)),H.put r (some { b with es:=b.es.take off++(b2.es.drop a).take (Nat.min vH len)++b.es.drop (off+Nat.min vH len)})) else none
  | _,_=>none)
 | _,_,_=>none
def gN(P:Program)(H:ab)(t:TypeId)(m k x:Option AV):bU:=
 match Ix P t,m,k,x with
 | some (d,_),some (.mp r),some k,some x=>(match ir k,kA H.get r with
  | some b,some a=>(match a.mapM BN with
   | some c=>(match vD P false d b c with
    | some (some i)=>if ((c[i]?).map λe=>Instr.sameBits 10000 e b)=some true then some (AV.undef,H.put r (some (nJ (a.set i (.tup [k,x]))))) else none
    | some none=>some (AV.undef,H.put r (some (nJ (a++[.tup [k,x]]))))
    | none=>none)
   | none=>none)
  | _,_=>none)
 | _,_,_,_=>none
def ou(P:Program)(H:ab)(t:TypeId)(m k:Option AV):bU:=
 match Ix P t,m,k with
 | some (e,d),some (.mp r),some k=>(match ir k,kA H.get r with
  | some b,some a=>(match a.mapM BN with
   | some c=>(match vD P false e b c with
    | some (some i)=>if ((c[i]?).map λf=>Instr.sameBits 10000 f b)=some true then (a[i]?.bind zo).map λv=>(.tup [v,.v (.int .i64 i)],H.put r (some (nJ (a.set i (.tup [k,v]))))) else none
    | some none=>(eJ P d).map λz=>(.tup [z,.v (.int .i64 a.length)],H.put r (some (nJ (a++[.tup [k,z]]))))
    | none=>none)
   | none=>none)
  | _,_=>none)
 | _,_,_=>none
def jI(H:ab)(m s x:Option AV):bU:=
 match m,s,x with
 | some (.mp r),some (.v (.int _ n)),some x=>(match kA H.get r with
  | some a=>if 0<=n then (match a[n.toNat]? with
   | some (.tup [k,_])=>some (AV.undef,H.put r (some (nJ (a.set n.toNat (.tup [k,x])))))
   | _=>none) else none
  | none=>none)
 | _,_,_=>none
def xQ(P:Program)(H:ab)(r:Ref)(t:TypeId)(n:Option AV):bU:=
 match n,(Iz P t).bind (lg P) with
 | some (.v (.int _ n)),some b=>if 0<=n/\n<=1000000/\b<=1000000 then some (.ch r,keyed r 0 [ER n.toNat false []] H) else none
 | _,_=>none
def Dw(H:ab)(c x:Option AV):bU:=
 match c,x with
 | some (.ch r),some x=>(match Se H.get r with
  | some (cap,false,buf)=>if buf.length<cap/\flat depth x=true then some (AV.undef,H.put r (some (ER cap false (buf++[x])))) else none
  | _=>none)
 | _,_=>none
def Xp(ok:Bool)(x:AV)(b:Bool):AV:=if ok then .tup [x,.v (.bool b)] else x
def FI(P:Program)(H:ab)(t:TypeId)(c:Option AV)(ok:Bool):bU:=
 match c,(Iz P t).bind (eJ P) with
 | some (.ch r),some z=>(match Se H.get r with
  | some (cap,a,x :: buf)=>some (Xp ok x true,H.put r (some (ER cap a buf)))
  | some (_,true,[])=>some (Xp ok z false,H)
  | _=>none)
 | _,_=>none
def oV(P:Program)(H:ab)(r:Ref)(t:TypeId)(n:Nat)(a:Option (List (Nat × AV))):bU:=
 match a,de P t with
 | some [(0,.agg cs)],some e=>(match eJ P e,av P e with
  | some z,some s=>if n=1/\0<s/\s<=16777216/\z.cells.length=s/\z.cells.all AV.one=true/\cs.length=s/\cs.all AV.one=true then some (.dsl r 0 1 (some 1),(r,some ⟨s,[.agg cs],false,false⟩) :: H) else none
  | _,_=>none)
 | _,_=>none
def wg(P:Program)(H:ab)(r:Ref)(t t':Option TypeId)(s x:AV):bU:=
 match t.bind (de P),x with
 | some e,.dsl rx 0 m _=>
  if (t'.bind P.underlying).isNone\/(t'.map (isInt P)).getD false≠false then none else
  (match av P e,lg P e,eJ P e,H.get rx with
  | some z,some by',some zz,some a=>
   if a.arr=true\/a.esz≠z\/z=0\/by'=0\/a.es=[]\/zz.cells.length≠z\/m≠a.es.length then none else
   (match s with
   | .v (.slice none 0 0)=>if m * by'<=aY then some (.dsl r 0 m none,(r,some ⟨z,a.es,false,false⟩) :: H) else none
   | .dsl r' 0 len none=>(match H.get r' with
    | some b=>if b.arr=false/\b.esz=z/\len=b.es.length/\r'≠rx/\(len+m) * by'<=aY then
     some (.dsl ⟨r'.d,r'.t,H.gen r'.d r'.t,0⟩ 0 (len+m) none,(⟨r'.d,r'.t,H.gen r'.d r'.t,0⟩,some ⟨z,b.es++a.es,false,b.fI⟩) :: H.put r' none) else none
    | none=>none)
   | _=>none)
  | _,_,_,_=>none)
 | _,_=>none
def V2:Op->Bool
 | .buildSlice .. => true
 | .call c=>(match c.callee with
  | .builtin .append=>true
  | _=>false)
 | _=>false
def AH(E:Env)(o:Oper):Bool:=E.deep o&&V2 o.op
def uI(E:Env)(H:ab)(tm:List AV)(r:Ref)(o:Oper):bU:=
 match o.op with
 | .buildSlice t n ps=>oV E.P H r t n (fw tm ps.toList)
 | .call c=>(match c.args.toList.mapM (ar tm) with
  | some [s,x]=>wg E.P H r c.argTypes[0]? c.argTypes[1]? s x
  | _=>none)
 | _=>none
def Nl(E:Env)(a:Bool)(H:ab)(tm:List AV)(r:Ref)(o:Oper):Option bU:=
 if a || !AH E o then none else some (uI E H tm r o)
def Nn:Op->Bool
 | .send .. | .recv .. => true
 | _=>false
def evalW(E:Env)(pc:FuncId->List AV->Option AV)(tc:qJ->List AV->ab->bU)(H:ab)(tm:List AV)(r:Ref)(o:Oper):bU:=
 match o.op with
 | .store t a x=>iu E.P H t (ar tm a) (ar tm x)
 | .mapUpdate t m k x | .insert t m k x=>gN E.P H t (ar tm m) (ar tm k) (ar tm x)
 | .mapEntry t m k=>ou E.P H t (ar tm m) (ar tm k)
 | .entryStore _ m s x=>jI H (ar tm m) (ar tm s) (ar tm x)
 | .buildSlice t n ps=>iT E.P H r t n (fw tm ps.toList)
 | .makeChan t n=>xQ E.P H r t (ar tm n)
 | .send c x=>Dw H (ar tm c) (ar tm x)
 | .recv t c ok=>FI E.P H t (ar tm c) ok
 | .call c=>
  match c.args.toList.mapM (ar tm) with
  | none=>none
  | some args=>
   match c.callee with
   | .value f=>pv (E.fI o) E.sm H (l8 E pc tc H r (ar tm f) args)
   | .invoke _ _=>none
   | .builtin b=>
    match b,args with
    | .append,[s,x]=>iH E.P H c.argTypes[0]? c.argTypes[1]? s x
    | .copy,[dst,x]=>cond (E.wide o) (Dz E.P H c.argTypes[0]? dst x) (Ii E.P H c.argTypes[0]? dst x)
    | _,_=>none
 | _=>none
def wanted(ops:Array Oper)(tm:List AV)(o:Oper):Option Bool:=
 match o.guard with
 | none=>some true
 | some (j,want)=>
  match (ops[j]?).bind (·.dst) with
  | some t=>(match dc tm t with
   | .v (.bool b)=>some (b == want)
   | .v (.tuple a)=>if a.isEmpty then some false else none
   | _=>none)
  | none=>some false
def Wc(E:Env):Op->Bool
 | .store .. | .mapUpdate .. | .insert .. | .mapEntry .. | .entryStore .. => true
 | .call c=>match c.callee with
  | .builtin .append | .builtin .copy=>true
  | .value (.func g)=>E.mode g == 2
  | .value (.tmp _)=>true
  | _=>false
 | _=>false
def xK:Op->Bool
 | .buildSlice .. => true
 | _=>false
def fQ(E:Env)(o:Oper):Bool:=(!E.strict o&&Wc E o.op)||((E.fI o||E.deep o)&&xK o.op)
def cG(nt:Nat)(tm:List AV)(dst:Option Tmp)(x:AV):Option (List AV):=
 match dst with
 | none=>some tm
 | some d=>if d<nt then some (zV tm d x) else none
def qQ(E:Env)(pc:FuncId->List AV->Option AV)(a:Bool)(g:cb)(tm:List AV)(r:Ref)(o:Oper):gu:=cond (a&&AH E o) none (ca E pc a g tm r o)
def pU(E:Env)(pc:FuncId->List AV->Option AV)(tc:qJ->List AV->ab->bU)(a:Bool)(H:ab)(tm:List AV)(r:Ref)(o:Oper):bU:=cond (a&&AH E o) (uI E H tm r o) (evalW E pc tc H tm r o)
def Ct{E:Env}{pc:FuncId->List AV->Option AV}{a:Bool}{g:cb}{tm:List AV}{r:Ref}{o:Oper}{p:AV × List aP}(h:qQ E pc a g tm r o=some p):ca E pc a g tm r o=some p:=by
 unfold qQ at h;cases b:(a&&AH E o) with
 | true=>rw[b]at h;cases h
 | false=>rw[b]at h;exact h
def vK{E:Env}{pc:FuncId->List AV->Option AV}{a:Bool}{g:cb}{tm:List AV}{r:Ref}{o:Oper}(h:AH E o=false):qQ E pc a g tm r o=ca E pc a g tm r o:=by
 unfold qQ;rw[h,vZ];rfl
def pT{E:Env}{pc:FuncId->List AV->Option AV}{tc:qJ->List AV->ab->bU}{a:Bool}{H:ab}{tm:List AV}{r:Ref}{o:Oper}(h:AH E o=false):pU E pc tc a H tm r o=evalW E pc tc H tm r o:=by
 unfold pU;rw[h,vZ];rfl
def evalOp(E:Env)(pc:FuncId->List AV->Option AV)(tc:qJ->List AV->ab->bU)(nt dep:Nat)(a:Bool)(ops:Array Oper)(o:Oper)(st:St):Option St:=
 match wanted ops st.tm o with
 | none=>none
 | some false=>(cG nt st.tm o.dst AV.undef).map λtm => { st with tm}
 | some true=>
  match qQ E pc a st.hp.get st.tm ⟨dep,o.dst.getD 0,st.hp.gen dep (o.dst.getD 0),0⟩ o with
  | some (x,bs)=>(cG nt st.tm o.dst x).map λtm=>⟨tm,keyed ⟨dep,o.dst.getD 0,st.hp.gen dep (o.dst.getD 0),0⟩ 0 bs st.hp⟩
  | none=>
   if a && !fQ E o then none else
   match pU E pc tc a st.hp st.tm ⟨dep,o.dst.getD 0,st.hp.gen dep (o.dst.getD 0),0⟩ o with
   | some (x,H)=>(cG nt st.tm o.dst x).map λtm=>⟨tm,H⟩
   | none=>none
def wC(E:Env)(pc:FuncId->List AV->Option AV)(tc:qJ->List AV->ab->bU)(nt dep:Nat)(a:Bool)(ops:Array Oper)(o:Oper)(st:St):Option St:=
 match Nl E a st.hp st.tm ⟨dep,o.dst.getD 0,st.hp.gen dep (o.dst.getD 0),0⟩ o with
 | none=>evalOp E pc tc nt dep a ops o st
 | some w=>(match wanted ops st.tm o with
  | none=>none
  | some false=>(cG nt st.tm o.dst AV.undef).map λtm => { st with tm}
  | some true=>(match w with
   | some (x,H)=>(cG nt st.tm o.dst x).map λtm=>⟨tm,H⟩
   | none=>none))
def LN{E:Env}{pc:FuncId->List AV->Option AV}{tc:qJ->List AV->ab->bU}{nt dep:Nat}{ops:Array Oper}{o:Oper}{st:St}:wC E pc tc nt dep true ops o st=evalOp E pc tc nt dep true ops o st:=rfl
def lU(E:Env)(pc:FuncId->List AV->Option AV)(tc:qJ->List AV->ab->bU)(nt dep:Nat)(a:Bool)(ops:Array Oper):List Oper->St->Option St
 | [],st=>some st
 | o :: rest,st=>match wC E pc tc nt dep a ops o st with
  | some b=>lU E pc tc nt dep a ops rest b
  | none=>none
def j4(P:Program)(st:St):ResultVar->Option AV
 | .tmp t=>some (dc st.tm t)
 | .cell a t=>match dc st.tm a,eD P t,av P t with
  | .ptr r i j,some g,some n=>match st.hp.get r with
   | some b=>dQ b.es i j n g
   | none=>none
  | _,_,_=>none
def ur(P:Program)(fn:Func)(st:St):Option AV:=
 match fn.results.toList.mapM (j4 P st) with
 | some []=>some (.v (.tuple #[]))
 | some [x]=>some x
 | some xs=>some (.tup xs)
 | none=>none
def codeOk(ok:Array Oper->Bool):Code->Bool
 | .region _ ops draw => !draw||ok ops
 | .seq a b | .cond _ a b=>codeOk ok a&&codeOk ok b
 | .block _ c | .loop c | .scope c=>codeOk ok c
 | .rangeFunc _ _ a b=>codeOk ok a&&codeOk ok b
 | _=>true
def mU(ok:Array Oper->Bool):Item->Bool
 | .code c | .inLoop c=>codeOk ok c
 | _=>true
def qR(E:Env)(run:Option Ref->Nat->Nat->List Item->St->Option St)(dep:Nat)(f:FuncId)(args:List AV)(H:ab):Option (AV × ab):=
 if E.allowed f then
  match E.P.funcs[f]? with
  | some fn=>match fn.body with
   | some c=>if args.length<=fn.ntmps then
    match run none fn.ntmps dep [.code c] ⟨args,H⟩ with
    | some st=>(ur E.P fn st).map (·,st.hp)
    | none=>none
    else none
   | none=>none
  | none=>none
 else none
def bK(g:cb):Nat->AV->Option AV
 | 0,_=>none
 | n+1,x=>
  match x with
  | .agg cs=>(cs.mapM (bK g n)).map .agg
  | .tup cs=>(cs.mapM (bK g n)).map .tup
  | .ifc t x=>(bK g n x).map (.ifc t)
  | .bO r 0 len cap=>
   match g r with
   | some b=>if b.arr=true/\len<=b.es.length then some (if b.fI then .cC b.esz (b.es.take len) cap else .fsl b.esz (b.es.take len) cap) else none
   | none=>none
  | .dsl r 0 len cap=>
   match g r with
   | some b=>if b.arr=false/\len=b.es.length then (if b.fI then (b.es.mapM (view g n)).map λes => .cC b.esz es cap else (b.es.mapM (bK g n)).map λes => .nsl b.esz es cap) else none
   | none=>none
  | .mp r=>
   match kA g r with
   | some a=>if a.all (flat depth) then some (.fsl 0 (.v (.bool true) :: a) none) else none
   | none=>none
  | x=>view g (n+1) x
def cD(E:Env)(run:Option Ref->Nat->Nat->List Item->St->Option St)(f:FuncId)(args:List AV):Option AV:=
 match E.spec f args with
 | some y=>some y
 | none=>match qR E run 0 f args [] with
  | some (x,H)=>if xA (E.mode f)=true then (if (ad H.get depth x).Nodup then bK H.get depth x else none) else view H.get depth x
  | none=>none
def eu(st:Nat)(a:AV):aP:=⟨0,[.v (.int .i64 st),a],false,false⟩
def vF(H:ab)(r:Ref):Option (Nat × AV):=match H.get r with
 | some ⟨0,[.v (.int .i64 st),inf],_,_⟩=>some (st.toNat,inf)
 | _=>none
def tj(tm:List AV):List Tmp->List AV->List AV
 | t :: a,x :: xs=>tj (zV tm t x) a xs
 | _,_=>tm
def ya(E:Env)(run:Option Ref->Nat->Nat->List Item->St->Option St)(dep:Nat)(r:Ref)(args:List AV)(H:ab):Option (AV × ab):=
 match vF H r with
 | some (0,.lp f nt ps assign body tm)=>
  if args.length=ps.length/\ps.all (· < nt)=true/\codeOk E.ok assign=true/\codeOk E.ok body=true then
   (match run (some r) nt dep [.code assign,.beginRound,.code body] ⟨tj tm ps args,H⟩ with
   | some st=>(match vF st.hp r with
    | some (0,_)=>some (.v (.bool true),st.hp)
    | some (n+2,_)=>some (.v (.bool false),st.hp)
    | _=>none)
   | none=>none)
  else none
 | _=>none
def dM(E:Env)(run:Option Ref->Nat->Nat->List Item->St->Option St)(dep:Nat)(t:qJ)(args:List AV)(H:ab):Option (AV × ab):=
 match t with
 | .fn f=>(match E.thrSpec f args H with
  | some z=>some z
  | none=>if E.mode f=2 then qR E run (dep+1) f args H else none)
 | .yld r=>ya E run (dep+1) r args H
def tq(rd:Option Ref)(st:St)(n:Nat):Option St:=match rd with
 | none=>if n=2 then some st else none
 | some r=>match vF st.hp r with
  | some (1,inf)=>some { st with hp:=st.hp.put r (some (eu n inf))}
  | _=>none
def o9(E:Env)(ops:Array Oper):List (Tmp × Tmp):=E.apart ops
def iC:AV->Option Ref
 | .ptr r _ _=>some r
 | .bO r _ _ _=>some r
 | .dsl r _ _ _=>some r
 | .mp r=>some r
 | .ch r=>some r
 | _=>none
def Ch(tm:List AV)(p:Tmp × Tmp):Bool:=match iC (dc tm p.1),iC (dc tm p.2) with
 | some r,some r'=>decide (r≠r')
 | _,_=>true
def uh(st:St)(o:Oper):Bool:=match o.op with
 | .store _ (.tmp t) _=>(match dc st.tm t with
  | .ptr r _ _=>(match st.hp.get r with
   | some b => !b.arr
   | none=>false)
  | _=>true)
 | _=>true
def V7:Op->Option Tmp
 | .buildSlice _ _ ps=>(match ps.toList with
  | [(_,.tmp t)]=>some t
  | _=>none)
 | _=>none
def EX(E:Env)(st:St)(o:Oper):Bool := !(E.fI o&&xK o.op)||(match V7 o.op with
 | some t=>(match dc st.tm t with
  | .bO .. => true
  | .v _=>true
  | _=>false)
 | none=>false)
def qo(E:Env)(ops:Array Oper)(st:St):Bool:=(o9 E ops).isEmpty||((o9 E ops).all (Ch st.tm)&&(ops.toList.all (uh st)&&ops.toList.all (EX E st)))
def bT(E:Env):Nat->(rd:Option Ref)->(nt dep:Nat)->List Item->St->Option St
 | 0,_,_,_,_,_=>none
 | n+1,rd,nt,dep,items,st=>
  match items with
  | []=>(match rd with
   | none=>some st
   | some _=>tq rd st 0)
  | .beginRound :: k=>(match rd with
   | none=>none
   | some r=>match vF st.hp r with
    | some (0,inf)=>bT E n rd nt dep k { st with hp:=st.hp.put r (some (eu 1 inf))}
    | _=>none)
  | .code c :: k=>
   (match c with
   | .skip | .label _=>bT E n rd nt dep k st
   | .ret=>tq rd st 2
   | .seq a b=>bT E n rd nt dep (.code a :: .code b :: k) st
   | .cond c a b=>
    (match (ar st.tm c).bind BQ with
    | some true=>bT E n rd nt dep (.code a :: k) st
    | some false=>bT E n rd nt dep (.code b :: k) st
    | none=>none)
   | .block id b=>bT E n rd nt dep (.code b :: .inBlock id :: k) st
   | .scope b=>bT E n rd nt dep (.code b :: .inScope b :: k) st
   | .loop b=>bT E n rd nt dep (.code b :: .inLoop b :: k) st
   | .exit id=>(match exitTo id k with
    | some k'=>bT E n rd nt dep k' st
    | none=>if rd.isSome then tq rd st (id+3) else none)
   | .region _ ops draw=>(match lU E (cD E (bT E n)) (dM E (bT E n) dep) nt dep draw ops ops.toList st with
    | some d=>if draw && !qo E ops d then none else bT E n rd nt dep k d
    | none=>none)
   | .rangeFunc g ps assign body=>(match rd,ar st.tm g with
    | none,some (.fn (.func gi) first captured)=>
     (match dM E (bT E n) dep (.fn gi) (first++[.yld ⟨dep,nt,st.hp.gen dep nt,0⟩]++captured)
      ((⟨dep,nt,st.hp.gen dep nt,0⟩,some (eu 0 (.lp 0 nt ps.toList assign body st.tm))) :: st.hp) with
     | some (_,H')=>(match vF H' ⟨dep,nt,st.hp.gen dep nt,0⟩ with
      | some (0,_)=>bT E n rd nt dep k ⟨st.tm,H'.put ⟨dep,nt,st.hp.gen dep nt,0⟩ none⟩
      | some (2,_)=>some ⟨st.tm,H'.put ⟨dep,nt,st.hp.gen dep nt,0⟩ none⟩
      | some (id+3,_)=>(match exitTo id k with
       | some k'=>bT E n rd nt dep k' ⟨st.tm,H'.put ⟨dep,nt,st.hp.gen dep nt,0⟩ none⟩
       | none=>none)
      | _=>none)
     | none=>none)
    | _,_=>none)
   | _=>none)
  | .inLoop b :: k=>bT E n rd nt dep (.code b :: .inLoop b :: k) st
  | .inBlock _ :: k | .inScope _ :: k=>bT E n rd nt dep k st
  | _=>none
def eg(o:Oper):List Nat:=(o.after.toList.filter (Region.binds .any)).map (·.on)
def zk(a:List Nat):List Nat->Nat
 | []=>0
 | j :: b=>(2 ^ j ||| a.getD j 0) ||| zk a b
def cW:List Oper->List Nat->List Nat
 | [],acc=>acc
 | o :: os,acc=>cW os (acc++[zk acc (eg o)])
def Ly(c:Call):Bool:=match c.args.toList with
 | [.tmp _]=>true
 | _=>false
def iJ:Op->Bool
 | .move _ | .assign _ | .pick .. | .binOp .. | .unOp .. | .makeInterface .. | .makeFunc .. | .fieldAddr .. | .field .. | .index .. | .typeAssert .. | .extract .. | .nilCheck _ | .build .. => false
 | .call c=>match c.callee with
  | .builtin .len=>Ly c
  | .builtin .min | .builtin .max=>false
  | _=>true
 | _=>true
def Jm:Op->Bool
 | .call c=>(match c.callee with
  | .builtin .len=>true
  | _=>false)
 | _=>false
def tH(E:Env)(o:Oper):Bool:=iJ o.op && !(E.strict o&&Jm o.op)
def gT(ops:Array Oper)(i:Nat):Option Tmp:=(ops[i]?).bind (·.dst)
def lk(E:Env)(ops:Array Oper)(i:Nat):Bool:=(List.range (i+1)).any λj=>match ops[j]? with
 | some o=>fQ E o
 | none=>false
def uP(ops:Array Oper)(A:List Nat)(oi a:Oper)(i j:Nat):Bool:=
 (a.dst.isNone||oi.dst != a.dst) &&
 (match a.dst with | some d => !(oi.looksAt ops).contains d||(A.getD i 0).testBit j | none=>true) &&
 (match oi.dst with | some d => !(a.looksAt ops).contains d||(A.getD i 0).testBit j | none=>true)
def Le(E:Env)(ops:Array Oper)(A:List Nat)(oi a:Oper)(i j:Nat):Bool:=
 uP ops A oi a i j &&
 (!(tH E oi&&tH E a&&lk E ops i)||(A.getD i 0).testBit j)
def z6(E:Env)(ops:Array Oper):Bool:=
 (List.range ops.size).all λi=>match ops[i]? with
  | some oi=>(eg oi).all (· < i)&&(!tH E oi||fQ E oi||oi.dst.isSome) &&
   (List.range i).all λj=>match ops[j]? with
    | some a=>Le E ops (cW ops.toList []) oi a i j
    | none=>true
  | none=>true
def yM(P:Program):Op->Option Tmp
 | .load _ (.tmp t)=>some t
 | .indexAddr _ (.tmp t) _=>some t
 | .slice _ (.tmp t) _ _ _=>some t
 | .convert _ dst (.tmp t)=>if cM P dst then none else some t
 | .lookup _ (.tmp t) _ _=>some t
 | .call c=>match c.callee with
  | .builtin .len=>(match c.args.toList with
   | [.tmp t]=>some t
   | _=>none)
  | _=>none
 | _=>none
def storeT:Op->Option Tmp
 | .store _ (.tmp t) _=>some t
 | _=>none
def BR:Op->Option Tmp
 | .call c=>match c.callee with
  | .builtin .append=>(match c.args.toList with
   | .tmp t :: _=>some t
   | _=>none)
  | _=>none
 | _=>none
def Je:Op->Option Tmp
 | .mapUpdate _ (.tmp t) _ _=>some t
 | .insert _ (.tmp t) _ _=>some t
 | .mapEntry _ (.tmp t) _=>some t
 | .entryStore _ (.tmp t) _ _=>some t
 | _=>none
def DQ(o:Op):Option Tmp:=match Je o with
 | some t=>some t
 | none=>BR o
def oh(E:Env)(o:Oper):Bool:=E.fI o && !E.strict o&&(match o.op with
 | .call c=>(match c.callee with
  | .value (.func g)=>E.mode g == 2
  | _=>false)
 | _=>false)
def cls(E:Env)(o:Oper):Nat:=
 if tH E o then (if (storeT o.op).isSome then 2 else if (yM E.P o.op).isSome then 1 else if fQ E o then 4 else 3) else 0
def k5(E:Env)(o:Oper):Option Tmp:=match storeT o.op with
 | some t=>some t
 | none=>match yM E.P o.op with
  | some t=>some t
  | none=>if xK o.op then V7 o.op else DQ o.op
def settled(E:Env)(ops:Array Oper)(oi c:Oper):Bool:=match k5 E oi,k5 E c with
 | some a,some b=>(o9 E ops).contains (a,b)||(o9 E ops).contains (b,a)
 | _,_=>false
def blind(E:Env)(o:Oper):Bool:=cls E o == 3&&(match o.op with
 | .alloc _ | .makeMap _ none=>true
 | .call c=>c.args.toList.isEmpty&&(match c.callee with
  | .value (.func _)=>true
  | _=>false)
 | _=>false)
def LG(E:Env)(o:Oper):Bool:=cls E o == 3&&(match o.op with
 | .alloc _ | .makeMap _ none=>true
 | _=>false)
def ng(E:Env)(oi a:Oper):Bool:=LG E oi&&((BR a.op).isSome&&a.dst.isSome && !AH E a)
def oB(E:Env)(oi a:Oper):Bool:=(cls E oi == 2&&Nat.ble 3 (cls E a) && !blind E a)||(cls E a == 2&&Nat.ble 3 (cls E oi) && !blind E oi)||(Nat.ble 3 (cls E oi)&&Nat.ble 3 (cls E a)&&(cls E oi == 4||cls E a == 4) && !ng E oi a && !ng E a oi)
def Ao(b a:Nat):Bool:=(b == 2&&(a == 1||a == 2))||(a == 2&&b == 1)||(b == 1&&a == 4)||(b == 4&&a == 1)
def Lx(E:Env)(ops:Array Oper)(A:List Nat)(oi a:Oper)(i j:Nat):Bool:=
 uP ops A oi a i j &&
 (!oB E oi a||(A.getD i 0).testBit j) &&
 (!Ao (cls E oi) (cls E a)||oh E oi||oh E a||(A.getD i 0).testBit j||settled E ops oi a)
def KK(ops:Array Oper)(i:Nat)(t:Option Tmp):Bool:=match t with
 | some t=>(List.range ops.size).all λk=>gT ops k != some t||decide (k<i)
 | none=>false
def MY(E:Env)(ops:Array Oper)(i:Nat)(o:Oper):Bool:=match cls E o with
 | 0=>true
 | 3=>o.dst.isSome
 | _=>oh E o||KK ops i (k5 E o)
def Rw(E:Env)(ops:Array Oper):Bool := !(o9 E ops).isEmpty &&
 (List.range ops.size).all λi=>match ops[i]? with
  | some oi=>(eg oi).all (· < i)&&MY E ops i oi &&
   (List.range i).all λj=>match ops[j]? with
    | some a=>Lx E ops (cW ops.toList []) oi a i j
    | none=>true
  | none=>true
def zp(E:Env)(ops:Array Oper):Bool:=z6 E ops||Rw E ops
def mR{d:Type}{P:Program}{s:Sem d} : ∀ {a:d},bh P s=some a ->∀w,s.run P w = .ok a w:=by
 induction s with| pure a=>intro b h w;simp[bh]at h;subst h;rfl| program k c=>intro a h w;exact c P h w| mark m k c=>intro a h w;exact c h w| _=>intro a h;simp[bh]at h
def fq{e i:Type}{f:e->Option i} : ∀ {l:List e} {c:List i},l.mapM f=some c->c.length=l.length:=by
 intro l;induction l with
 | nil=>intro c h;simp at h;subst h;rfl
 | cons a l j=>intro c h;simp only[lH,oT,pt,fH]at h;obtain⟨b,_,bs,d,g⟩:=h;simp at g;subst g;simp[j d]
def nc{j g:Type}{f:j->Option g} : ∀ {l:List j} {d:List g},l.mapM f=some d ->∀(i:Nat)(y:g),d[i]?=some y ->∃x,l[i]?=some x/\f x=some y:=by
 intro l;induction l with
 | nil=>intro d h i y c;simp at h;subst h;simp at c
 | cons a l n=>
  intro d h i y c;simp only[lH,oT,pt,fH]at h;obtain⟨b,m,bs,e,k⟩:=h;simp at k;subst k;cases i with
  | zero=>simp at c;subst c;exact⟨a,rfl,m⟩
  | succ i=>simp at c;simpa using n e i y c
def jU{c e:Type}{f:c->Option e}{l:List c}{b:List e}(h:l.mapM f=some b)(i:Nat)(x:c)(d:l[i]?=some x) : ∃y,b[i]?=some y/\f x=some y:=by
 have j:=fq h;have hi:i<b.length:=by rw[j];exact(dB.1 d).1
 obtain⟨k,a,g⟩:=nc h i b[i] (dh hi);rw[d]at a;cases a;exact⟨_,dh hi,g⟩
abbrev Mem:=Nat->Nat->Option Value
structure Loc where
 b:Nat
 esz:Nat
 n:Nat
abbrev Map:=Ref->Option Loc
def cT:Map:=λ_=>none
inductive VR (M:Mem):Map->AV->Value->Prop
 | v {ι x} (h:scalar x=true):VR M ι (.v x) x
 | agg {ι cs vs} (hl:cs.length=vs.size) (h : ∀(i:Nat) c u,cs[i]?=some c->vs[i]?=some u->VR M ι c u):VR M ι (.agg cs) (.agg vs)
 | tup {ι cs vs} (h0:cs≠[]) (hl:cs.length=vs.size) (h : ∀(i:Nat) c u,cs[i]?=some c->vs[i]?=some u->VR M ι c u):VR M ι (.tup cs) (.tuple vs)
 | cC {ι esz es cap a c} (cell:Nat->Nat->Value) (hs:a.spot=none\/es=[]) (hc:es.length<=c) (hk : ∀k,cap=some k->c=k)
  (hm : ∀i j,i<es.length->j<esz->M a.block (a.off+(i * esz+j))=some (cell i j)/\(cell i j).oneCell'=true)
  (he : ∀e∈es,e.cells.length=esz)
  (h : ∀(i j:Nat) e x,es[i]?=some e->e.cells[j]?=some x->VR M cT x (cell i j)):VR M ι (.cC esz es cap) (.slice (some a) es.length c)
 | bO {ι r off len cap l a c} (hr:ι r=some l) (hb:a.block=l.b) (hs:a.spot=none) (ha:c=0\/a.off=off * l.esz) (hc:len<=c) (hn:c=0\/off+c<=l.n)
  (hk : ∀k,cap=some k->c=k) (hz:0<l.esz):VR M ι (.bO r off len cap) (.slice (some a) len c)
 | dsl {ι r off len cap l a c} (hr:ι r=some l) (hb:a.block=l.b) (hs:a.spot=none) (ha:c=0\/a.off=off * l.esz) (hc:len<=c) (hn:c=0\/off+c<=l.n)
  (hk : ∀k,cap=some k->c=k) (hz:0<l.esz):VR M ι (.dsl r off len cap) (.slice (some a) len c)
 | ptr {ι r i j l} (hr:ι r=some l) (hz:0<l.esz):VR M ι (.ptr r i j) (.pointer (some ⟨l.b,i * l.esz+j,none⟩))
 | iptr {ι esz es i j b o} (cell:Nat->Nat->Value)
  (hm : ∀i j,i<es.length->j<esz->M b (o+(i * esz+j))=some (cell i j)/\(cell i j).oneCell'=true)
  (he : ∀e∈es,e.cells.length=esz)
  (h : ∀(i j:Nat) e x,es[i]?=some e->e.cells[j]?=some x->VR M cT x (cell i j)):VR M ι (.iptr esz es i j) (.pointer (some ⟨b,o+(i * esz+j),none⟩))
 | fn {ι f a b a' b'} (ha:a.length=a'.size) (hb:b.length=b'.size) (h : ∀(i:Nat) c u,a[i]?=some c->a'[i]?=some u->VR M ι c u)
  (h' : ∀(i:Nat) c u,b[i]?=some c->b'[i]?=some u->VR M ι c u):VR M ι (.fn f a b) (.func f a' b')
 | ifc {ι t x u} (h:VR M ι x u):VR M ι (.ifc t x) (.iface t u)
 | yld {ι r l} (hr:ι r=some l) (hz:l.esz=0):VR M ι (.yld r) (.func (.yield l.b) #[] #[])
 | mp {ι r l} (hr:ι r=some l) (hz:l.esz=0):VR M ι (.mp r) (.map (some l.b))
 | ch {ι r l} (hr:ι r=some l) (hz:l.esz=0):VR M ι (.ch r) (.chan (some l.b))
 | xv {ι u} (h:u.oneCell'=true):VR M ι (.xv u) u
def VR.mono{M M':Mem}(B : ∀b o x,M b o=some x->M' b o=some x){ι:Map}{x:AV}{u:Value}(h:VR M ι x u) :
 ∀a:Map,(∀r l,ι r=some l->a r=some l)->VR M' a x u:=by
 induction h with| v h=>intro a _;exact .v h| agg A _ k=>intro a hi;exact .agg A λi c u d p=>k i c u d p a hi| tup C A _ k=>intro a hi;exact .tup C A λi c u d p=>k i c u d p a hi| cC cell s d w hm he _ k=>intro a hi;exact .cC cell s d w (λi j m n=>⟨B _ _ _ (hm i j m n).1,(hm i j m n).2⟩) he λi j e x m n=>k i j e x m n cT (λ_ _ h=>h)| bO g q s t d z w f=>intro a hi;exact .bO (hi _ _ g) q s t d z w f| dsl g q s t d z w f=>intro a hi;exact .dsl (hi _ _ g) q s t d z w f| ptr g f=>intro a hi;exact .ptr (hi _ _ g) f| yld g f=>intro a hi;exact .yld (hi _ _ g) f| mp g f=>intro a hi;exact .mp (hi _ _ g) f| ch g f=>intro a hi;exact .ch (hi _ _ g) f| xv h=>intro a _;exact .xv h| iptr cell hm he _ k=>intro a hi;exact .iptr cell (λi j m n=>⟨B _ _ _ (hm i j m n).1,(hm i j m n).2⟩) he λi j e x m n=>k i j e x m n cT (λ_ _ h=>h)| fn t q _ _ k y=>intro a hi;exact .fn t q (λi c u d p=>k i c u d p a hi) λi c u d p=>y i c u d p a hi| ifc _ k=>intro a hi;exact .ifc (k a hi)
def VR.up{M:Mem}{x:AV}{u:Value}(h:VR M cT x u)(ι:Map):VR M ι x u:=h.mono (λ_ _ _ h=>h) ι (λ_ _ h=>by cases h)
def j7(M:Mem)(ι:Map)(a:List AV)(us:List Value):Prop:=a.length=us.length /\∀(i:Nat) x u,a[i]?=some x->us[i]?=some u->VR M ι x u
def j7.nil{M:Mem}{ι:Map}:j7 M ι [] []:=⟨rfl,λi x u h=>by simp at h⟩
def j7.cons{M:Mem}{ι:Map}{x:AV}{u:Value}{c:List AV}{us:List Value}(h:VR M ι x u)(d:j7 M ι c us):j7 M ι (x :: c) (u :: us):=
 ⟨by simp[d.1],λi y v b a=>by
  cases i with| zero=>simp at b a;subst b;subst a;exact h| succ i=>simp at b a;exact d.2 i y v b a⟩
def j7.append{M:Mem}{ι:Map}{c ys:List AV}{us e:List Value}(h:j7 M ι c us)(d:j7 M ι ys e):j7 M ι (c++ys) (us++e):=
 ⟨by simp[h.1,d.1],λi y v b a=>by
  rcases dT i c.length with hi | hi
  ·rw[iB hi]at b;rw[iB (h.1 ▸ hi)]at a;exact h.2 i y v b a
  rw[hY hi]at b;rw[hY (h.1 ▸ hi)]at a;rw[<-h.1]at a;exact d.2 _ y v b a⟩
def j7.mono{M M':Mem}{ι a:Map}{d:List AV}{us:List Value}(h:j7 M ι d us)(f : ∀b o x,M b o=some x->M' b o=some x)(c : ∀r l,ι r=some l->a r=some l):j7 M' a d us:=
 ⟨h.1,λi x u e g=>(h.2 i x u e g).mono f a c⟩
def j7.take{M:Mem}{ι:Map}{d:List AV}{us:List Value}(h:j7 M ι d us)(n:Nat):j7 M ι (d.take n) (us.take n):=
 ⟨by simp[h.1],λi x u a c=>by
  rw[w8]at a c;split at a;·rename_i b;rw[if_pos b]at c;exact h.2 i x u a c
  cases a⟩
def j7.drop{M:Mem}{ι:Map}{a:List AV}{us:List Value}(h:j7 M ι a us)(n:Nat):j7 M ι (a.drop n) (us.drop n):=
 ⟨by simp[h.1],λi x u c b=>by
  rw[wZ]at c b;exact h.2 _ x u c b⟩
def VR.oe{M:Mem}{ι:Map}{cs:List AV}{b:Array Value}:VR M ι (.agg cs) (.agg b)↔j7 M ι cs b.toList:=
 ⟨λh=>by cases h with | agg f h=>exact⟨by simpa using f,λi x u d a=>h i x u d (by simpa using a)⟩,
  λh => .agg (by simpa using h.1) λi c u e a=>h.2 i c u e (by simpa using a)⟩
def VR.cells{M:Mem}{ι:Map}{x:AV}{u:Value}(h:VR M ι x u):j7 M ι x.cells u.cells.toList:=by
 have one : ∀ {x:AV} {u:Value},VR M ι x u->x.cells=[x]->u.cells = #[u]->j7 M ι x.cells u.cells.toList:=by
  intro x u h j m;rw[j,m];exact j7.cons h j7.nil
 cases h with
 | agg l h=>exact⟨by simpa [AV.cells,Value.cells] using l,λi x u j m=>h i x u (by simpa [AV.cells] using j) (by simpa [Value.cells] using m)⟩
 | v h=>refine one (.v h) rfl ?_;cases u<;>first | rfl | (simp[scalar]at h)
 | tup o l h=>exact one (.tup o l h) rfl rfl
 | cC cell d f g hm he h=>exact one (.cC cell d f g hm he h) rfl rfl
 | bO b c d e f k g a=>exact one (.bO b c d e f k g a) rfl rfl
 | dsl b c d e f k g a=>exact one (.dsl b c d e f k g a) rfl rfl
 | ptr b a=>exact one (.ptr b a) rfl rfl
 | yld b a=>exact one (.yld b a) rfl rfl
 | mp b a=>exact one (.mp b a) rfl rfl
 | ch b a=>exact one (.ch b a) rfl rfl
 | xv h=>exact one (.xv h) rfl (by cases u<;>first | rfl | (cases h))
 | iptr cell hm he h=>exact one (.iptr cell hm he h) rfl rfl
 | fn e c h n=>exact one (.fn e c h n) rfl rfl
 | ifc h=>exact one (.ifc h) rfl rfl
def VR.one{M:Mem}{ι:Map}{x:AV}{u:Value}(h:VR M ι x u)(a:x.one=true):u.oneCell'=true:=by
 cases h with
 | v h=>cases u<;>first | rfl | (simp[AV.one]at a)
 | agg b h=>simp[AV.one]at a
 | tup c b h=>simp[AV.one]at a
 | cC=>rfl
 | bO=>rfl
 | dsl=>rfl
 | ptr=>rfl
 | iptr=>rfl
 | fn=>rfl
 | ifc=>rfl
 | yld=>rfl
 | mp=>rfl
 | ch=>rfl
 | xv h=>exact h
def mS{M:Mem}{ι:Map}{u:Value}{x:AV}(h:fS u=some x):VR M ι x u:=by
 unfold fS at h;split at h;·cases h;exact .v (by assumption)
 cases h
def Aj{M:Mem}{ι:Map}{us:List Value}{b:List AV}(h:us.mapM fS=some b):j7 M ι b us:=
 ⟨fq h,λi x u d c=>by
  obtain⟨f,a,e⟩:=nc h i x d;rw[c]at a;cases a;exact mS e⟩
def gP{M:Mem}{ι:Map}{u:Value}{x:AV}(h:ofValue u=some x):VR M ι x u:=by
 cases u with
 | agg cs=>simp only[ofValue,bA]at h;obtain⟨xs,d,rfl⟩:=h;exact VR.oe.2 (Aj d)
 | func f a b=>
  simp only[ofValue]at h;split at h;·rename_i g;cases h;simp at g;obtain⟨rfl,rfl⟩:=g;exact .fn rfl rfl (λi c u j=>by simp at j) (λi c u j=>by simp at j)
  cases h
 | tuple o=>
  simp only[ofValue]at h;split at h;·rename_i k;simp at k;subst k;cases h;exact .v rfl
  rename_i k;simp only[bA]at h;obtain⟨xs,d,rfl⟩:=h;have l:=Aj (M:=M) (ι:=ι) d;refine .tup ?_ (by simpa using l.1) λi c u j n=>l.2 i c u j (by simpa using n);intro e;subst e;have:=l.1;simp at this;exact k (by simpa using Ib this.symm)
 | iface t x=>simp only[ofValue,bA]at h;obtain⟨y,m,rfl⟩:=h;exact .ifc (mS m)
 | _=>exact mS (by simpa [ofValue] using h)
def KG{M:Mem}{ι:Map}{x:AV}{u v:Value}(h:VR M ι x u)(a:HS x=some v):u=v:=by
 cases h<;>simp[HS]at a;exact a
def rU{M:Mem}{ι:Map}{x:AV}{u v:Value}(h:VR M ι x u)(e:ir x=some v):u=v:=by
 cases h<;>simp[ir]at e;·exact e
 rename_i cs f m k;obtain⟨l,a,rfl⟩:=e;congr 1;apply BX;intro i;rcases dT i f.size with hi | hi
 ·have d:=fq a;have b:i<l.length:=by omega
  obtain⟨c,g,j⟩:=nc a i l[i] (dh b);have:=KG (k i c f[i] g (iG hi)) j;simp[this,iG hi,dh b]
 have d:=fq a;rw[Array.getElem?_eq_none hi];simp;omega
def aP.map(k:aP)(ι:Map):Map:=if k.arr then cT else ι
def zD(z a:Nat)(fz:Nat × Nat):Prop:=(∀o,o<a ->¬(fz.1<=o/\(o<fz.2\/fz.2<fz.1)))/\(1<z ->¬(fz.1<=a/\a<fz.2))
def zD.zero(z n:Nat):zD z n (0,0):=⟨λo _ h=>by simp at h,λ_ h=>by simp at h⟩
structure eo (M:Mem) (ι:Map) (w:World) (l:Loc) (k:aP):Prop where
 esz:l.esz=k.esz
 heap : ∃arr T fz,w.heap[l.b]?=some (.cells arr T fz)/\arr.size=l.n * k.esz/\zD k.esz arr.size fz /\
  ∀(i j:Nat) e x,k.es[i]?=some e->e.cells[j]?=some x ->∃u,arr[i * k.esz+j]?=some u/\u.oneCell'=true/\VR M (k.map ι) x u
 len:k.es.length<=l.n
 cells : ∀e∈k.es,e.cells.length=k.esz
 frozen : ∀o x,M l.b o=some x->k.fI=true/\o<k.es.length * k.esz
def zX(n:Nat)(r:Loop):Prop:=match n with
 | 0=>r.state = .ready/\r.pending=none
 | 1=>r.state = .busy
 | 2=>r.state = .done/\r.pending=some .ret
 | id+3=>r.state = .done/\r.pending=some (.exit id)
def E7(M:Mem)(ι:Map)(w:World)(l:Loc)(k:aP):Prop:=
 ∃(n nt:Nat) (ps:List Tmp) (assign body:Code) (tm:List AV) (r:Loop),k.esz=0/\k.arr=false/\k.es=[.v (.int .i64 n),.lp 0 nt ps assign body tm]/\w.heap[l.b]?=some (.loop r)/\r.params=ps.toArray/\r.assign=assign/\r.body=body /\
  r.tmps.size=nt/\(∀t,VR M ι (dc tm t) (r.tmps.getD t undef))/\zX n r
def Kb(M:Mem)(ι:Map)(w:World)(l:Loc)(k:aP):Prop:=
 ∃(c:List AV) (a:Array MapEntry),k.esz=0/\k.arr=false/\k.es = .v (.bool true) :: c/\w.heap[l.b]?=some (.map a a.size)/\a.size=c.length /\
  ∀(i:Nat) ent e,c[i]?=some ent->a[i]?=some e ->∃f d,ent = .tup [f,d]/\ir f=some e.key/\VR M ι d e.val/\e.born=i
def E9(M:Mem)(ι:Map)(w:World)(l:Loc)(k:aP):Prop:=
 ∃(cap s r:Nat) (c:Bool) (a:List AV) (arr:Array Value),k.esz=0/\k.arr=false/\k.es = .v (.bool false) :: .v (.int .i64 cap) :: .v (.bool c) :: a/\w.heap[l.b]?=some (.chan cap arr c s r false) /\
  arr.size=a.length /\∀(i:Nat) x u,a[i]?=some x->arr[i]?=some u->VR M ι x u
def mu(M:Mem)(ι:Map)(w:World)(l:Loc)(k:aP):Prop:=E7 M ι w l k\/Kb M ι w l k\/E9 M ι w l k
structure nH (M:Mem) (ι:Map) (w:World) (l:Loc) (k:aP):Prop where
 esz:l.esz=k.esz
 cellsOk:0<k.esz->eo M ι w l k
 objOk:k.esz=0->mu M ι w l k
 frozen : ∀o x,M l.b o=some x->k.fI=true/\o<k.es.length * k.esz
def eo.bu{M:Mem}{ι:Map}{w:World}{l:Loc}{k:aP}(h:eo M ι w l k)(a:0<k.esz):nH M ι w l k:=⟨h.esz,λ_=>h,λe=>by omega,h.frozen⟩
def mu.zero{M:Mem}{ι:Map}{w:World}{l:Loc}{k:aP}(h:mu M ι w l k):k.esz=0/\k.arr=false:=by
 rcases h with ⟨n,nt,ps,as,d,tm,r,a,b,_⟩ | ⟨c,entries,a,b,_⟩ | ⟨_,_,_,_,_,_,a,b,_⟩
 ·exact⟨a,b⟩
 ·exact⟨a,b⟩
 exact⟨a,b⟩
def mu.obj{M:Mem}{ι:Map}{w:World}{l:Loc}{k:aP}(h:mu M ι w l k):(∃r,w.heap[l.b]?=some (.loop r))\/(∃es c,w.heap[l.b]?=some (.map es c)) \/∃a b c d e f,w.heap[l.b]?=some (.chan a b c d e f):=by
 rcases h with ⟨n,nt,ps,as,i,tm,r,_,_,_,h,_⟩ | ⟨g,entries,_,_,_,h,_⟩ | ⟨_,_,_,_,_,_,_,_,_,h,_⟩
 ·exact .inl ⟨_,h⟩
 ·exact .inr (.inl ⟨_,_,h⟩)
 exact .inr (.inr ⟨_,_,_,_,_,_,h⟩)
def mu.same{M:Mem}{ι:Map}{w:World}{l:Loc}{k k':aP}(h:mu M ι w l k)(i:k'.esz=k.esz)(j:k'.arr=k.arr)(g:k'.es=k.es):mu M ι w l k':=by
 rcases h with ⟨n,nt,ps,as,o,tm,r,b,f,a,d⟩ | ⟨e,entries,b,f,a,d⟩ | ⟨c,s,r,m,buf,arr,b,f,a,d⟩
 ·exact .inl ⟨n,nt,ps,as,o,tm,r,i.trans b,j.trans f,g.trans a,d⟩
 ·exact .inr (.inl ⟨e,entries,i.trans b,j.trans f,g.trans a,d⟩)
 exact .inr (.inr ⟨c,s,r,m,buf,arr,i.trans b,j.trans f,g.trans a,d⟩)
def mu.bu{M:Mem}{ι:Map}{w:World}{l:Loc}{k:aP}(h:mu M ι w l k)(d:l.esz=0)(c : ∀o x,M l.b o=some x->False):nH M ι w l k:=
 ⟨by rw[d,h.zero.1],λe=>by have:=h.zero.1;omega,λ_=>h,λo x a=>(c o x a).elim⟩
def nH.pos{M:Mem}{ι:Map}{w:World}{l:Loc}{k:aP}(h:nH M ι w l k)(a:k.arr=true):0<k.esz:=by
 rcases Bf k.esz with e | e
 ·have:=(h.objOk e).zero.2;rw[a]at this;cases this
 exact e
structure fk (M:Mem) (ι:Map) (g:cb) (w:World):Prop where
 mem : ∀b o x,M b o=some x->w.cell? ⟨b,o,none⟩=some x
 live : ∀r k,g r=some k ->∃l,ι r=some l/\nH M ι w l k
 inj : ∀r r' k k' l l',g r=some k->g r'=some k'->ι r=some l->ι r'=some l'->l.b=l'.b->r=r'
def fk.at{M:Mem}{ι:Map}{g:cb}{w:World}(f:fk M ι g w){r:Ref}{b:aP}{l:Loc}(e:ι r=some l)(h:0<l.esz)(d:g r=some b):eo M ι w l b:=by
 obtain⟨i,a,c⟩:=f.live r b d;rw[e]at a;cases a;exact c.cellsOk (by have:=c.esz;omega)
def mu.mono{M M':Mem}{ι d:Map}{w w':World}{l:Loc}{k:aP}(h:mu M ι w l k)(A : ∀b o x,M b o=some x->M' b o=some x)(f : ∀r l,ι r=some l->d r=some l)(z:w'.heap[l.b]?=w.heap[l.b]?):mu M' d w' l k:=by
 rcases h with ⟨n,nt,ps,as,L,tm,r,v,B,m,q,g,j,p,E,H,J⟩ | ⟨y,entries,v,m,q,g,j,p⟩ | ⟨c,s,r,F,buf,arr,v,m,q,g,j,p⟩
 ·exact .inl ⟨n,nt,ps,as,L,tm,r,v,B,m,by rw[z];exact q,g,j,p,E,λt=>(H t).mono A d f,J⟩
 ·exact .inr (.inl ⟨y,entries,v,m,q,by rw[z];exact g,j,λi C e a b=>by obtain⟨G,I,c1,K,D⟩:=p i C e a b;exact⟨G,I,c1,K,D.1.mono A d f,D.2⟩⟩)
 exact .inr (.inr ⟨c,s,r,F,buf,arr,v,m,q,by rw[z];exact g,j,λi x u a b=>(p i x u a b).mono A d f⟩)
structure qX (M:Mem) (ι:Map) (g:cb) (w:World) (M':Mem) (ι':Map) (g':cb) (w':World):Prop where
 os:w'.os=w.os
 tape:w'.tape=w.tape
 output:w'.output=w.output
 size:w.heap.size<=w'.heap.size
 chg : ∀b,b<w.heap.size->(∀r k l,g r=some k->ι r=some l->l.b≠b)->w'.heap[b]?=w.heap[b]?
 mem : ∀b o x,M b o=some x->M' b o=some x
 map : ∀r l,ι r=some l->ι' r=some l
 live : ∀r k l,g' r=some k->ι' r=some l->w.heap.size<=l.b \/∃r0 k0 l0,g r0=some k0/\ι r0=some l0/\l0.b=l.b
 new : ∀b o x,M' b o=some x->M b o=some x\/w.heap.size<=b \/∃r0 k0 l0,g r0=some k0/\ι r0=some l0/\l0.b=b
def qX.refl{M:Mem}{ι:Map}{g:cb}{w:World}:qX M ι g w M ι g w:=
 ⟨rfl,rfl,rfl,aV _,λ_ _ _=>rfl,λ_ _ _ h=>h,λ_ _ h=>h,λr k l h a => .inr ⟨r,k,l,h,a,rfl⟩,λ_ _ _ h => .inl h⟩
def qX.trans{M ι g w M' ι' g' w' M'' ι'' g'' w''}(h:qX M ι g w M' ι' g' w')(c:qX M' ι' g' w' M'' ι'' g'' w''):qX M ι g w M'' ι'' g'' w'':=by
 have i : ∀b,b<w.heap.size->(∀r k l,g r=some k->ι r=some l->l.b≠b) ->∀r k l,g' r=some k->ι' r=some l->l.b≠b:=by
  intro b t d r k l A m e;rcases h.live r k l A m with a | ⟨n,s,q,a,p,j⟩
  ·omega
  exact d n s q a p (j.trans e)
 refine⟨c.os.trans h.os,c.tape.trans h.tape,c.output.trans h.output,sU h.size c.size,?_,λb o x y=>c.mem b o x (h.mem b o x y),
  λr l m=>c.map r l (h.map r l m),?_,?_⟩
 ·intro b t d;rw[c.chg b (zK t h.size) (i b t d),h.chg b t d]
 ·intro r k l A m;rcases c.live r k l A m with a | ⟨n,s,q,a,p,j⟩
  ·exact .inl (sU h.size a)
  rcases h.live n s q a p with f | ⟨r1,k1,z,f,v,u⟩
  ·exact .inl (j ▸ f)
  exact .inr ⟨r1,k1,z,f,v,u.trans j⟩
 intro b o x y;rcases c.new b o x y with a | a | ⟨n,s,q,a,p,j⟩
 ·exact h.new b o x a
 ·exact .inr (.inl (sU h.size a))
 rcases h.live n s q a p with f | ⟨r1,k1,z,f,v,u⟩
 ·exact .inr (.inl (j ▸ f))
 exact .inr (.inr ⟨r1,k1,z,f,v,u.trans j⟩)
def gY{w:World}{b o:Nat}{arr:Array Value}{T:TypeId}{fz:Nat × Nat}(h:w.heap[b]?=some (.cells arr T fz)):w.cell? ⟨b,o,none⟩=arr[o]?:=by
 simp[World.cell?,h]
def fy(b o n:Nat):(⟨b,o,none⟩:Addr).add n=⟨b,o+n,none⟩:=by
 unfold Addr.add;split<;>simp_all
def iE{a:Addr}(h:a.spot=none):a=⟨a.block,a.off,none⟩:=by cases a;simp_all
def rT{P:Program}{t:TypeId}{n:Nat}(h:av P t=some n) : ∃i,P.info? t=some i/\i.size=n:=by
 simpa [av] using h
def run_sizeOf{P:Program}{t:TypeId}{n:Nat}(h:av P t=some n)(w:World):(sizeOf t).run P w = .ok n w:=by
 obtain⟨i,hi,rfl⟩:=rT h;simp[sizeOf,typeInfo,hi]
def bf{P:Program}{t:TypeId}{d:TypeDesc}(h:P.underlying t=some d)(w:World):(underlying t).run P w = .ok d w:=by
 simp[underlying,h]
def xZ{P:Program}{t:TypeId}{b:Bool}(h:eD P t=some b)(w:World):(isAgg t).run P w = .ok b w:=by
 simp only[eD,bA]at h;obtain⟨d,a,rfl⟩:=h;simp only[isAgg,iQe,bf a,iQc];cases d<;>rfl
def uo{P:Program}{t:TypeId}{z:AV}(h:eJ P t=some z)(w:World) : ∃u,(zeroValue t).run P w = .ok u w/\ofValue u=some z:=by
 simp only[eJ,fH]at h;obtain⟨u,⟨i,hi,a⟩,hu⟩:=h;exact⟨u,by simp[zeroValue,typeInfo,hi,a],hu⟩
def Cells(M:Mem)(ι:Map)(w:World)(b o:Nat)(a:List AV):Prop:=
 ∀(j:Nat) x,a[j]?=some x ->∃u,w.cell? ⟨b,o+j,none⟩=some u/\u.oneCell'=true/\VR M ι x u
def Cells.values{M ι w b o}{c:List AV}(h:Cells M ι w b o c) : ∃us:List Value,j7 M ι c us/\(∀u∈us,u.oneCell'=true) /\∀(j:Nat) u,us[j]?=some u->w.cell? ⟨b,o+j,none⟩=some u:=by
 induction c generalizing o with| nil=>exact⟨[],j7.nil,by simp,by simp⟩| cons x c i=>
  obtain⟨u,hu,e,l⟩:=h 0 x rfl;obtain⟨us,k,g,d⟩:=i (o:=o+1) λj y f=>by
   have:=h (j+1) y (by simpa using f);rwa [show o+(j+1)=o+1+j by omega]at this
  refine⟨u :: us,j7.cons l k,by simpa [e] using g,?_⟩;intro j v a;cases j with
  | zero=>simp at a;subst a;exact hu
  | succ j=>simp at a;have:=d j v a;rwa [show o+(j+1)=o+1+j by omega]
def Cells.sub{M ι w b o}{c:List AV}(h:Cells M ι w b o c)(j n:Nat):Cells M ι w b (o+j) ((c.drop j).take n):=by
 intro i x a;rw[w8]at a;split at a;·rw[wZ]at a;obtain⟨u,e,d⟩:=h _ x a;exact⟨u,by rwa [show o+j+i=o+(j+i) by omega],d⟩
 cases a
def sJ{P:Program}{t:TypeId}{f:Bool}{n:Nat}(i:eD P t=some f)(l:av P t=some n){M ι w b o}{cs:List AV}{j:Nat}{y:AV}
 (g:Cells M ι w b o cs)
 (e:(if f then (if j+n<=cs.length/\0<n then some (AV.agg ((cs.drop j).take n)) else none) else cs[j]?)=some y) :
 ∃u,(loadVar t ⟨b,o+j,none⟩).run P w = .ok u w/\VR M ι y u:=by
 cases f with| false=>simp at e;obtain⟨u,hu,_,m⟩:=g j y e;exact⟨u,by simp[loadVar,xZ i,hu],m⟩| true=>
  simp at e;obtain⟨⟨q,s⟩,rfl⟩:=e;obtain⟨us,c,_,a⟩:=(g.sub j n).values;have d:us.length=n:=by rw[<-c.1];simp;omega
  refine⟨.agg us.toArray,?_,VR.oe.2 (by simpa using c)⟩;have h:=run_loadCells_list (P:=P) w ⟨b,o+j,none⟩ us (λk v p=>by rw[fy];exact a k v p);rw[d]at h;simp[loadVar,xZ i,run_sizeOf l,h]
def eo.cell{M ι w l k}(h:eo M ι w l k)(i:Nat){e:AV}(m:k.es[i]?=some e):Cells M (k.map ι) w l.b (i * k.esz) e.cells:=by
 obtain⟨arr,T,fz,g,_,_,d⟩:=h.heap;intro j x c;obtain⟨u,hu,a,f⟩:=d i j e x m c;exact⟨u,by rw[gY g];exact hu,a,f⟩
def aP.map_le(k:aP)(ι:Map) : ∀r l,k.map ι r=some l->ι r=some l:=by
 intro r l h;unfold aP.map at h;split at h;·cases h
 exact h
def MZ{P:Program}{t:TypeId}{d:Bool}{n:Nat}(z:eD P t=some d)(m:av P t=some n){M ι g w}(v:fk M ι g w)
 {r:Ref} {i j:Nat} {k:aP} {y:AV} {a:Value} (o:VR M ι (.ptr r i j) a) (q:g r=some k) (b:dQ k.es i j n d=some y) :
 ∃u,(Instr.loadAt t a).run P w = .ok u w/\VR M ι y u:=by
 cases o with | ptr s l=>
 have c:=v.at s l q;unfold dQ at b;split at b;·cases b
 rename_i e p;obtain⟨u,f,x⟩:=sJ z m (c.cell i p) b;refine⟨u,?_,x.mono (λ_ _ _ h=>h) ι (k.map_le ι)⟩;rw[<-c.esz]at f;simp[Instr.loadAt,Instr.sureAddr,f]
def Cells.WW{M:Mem}{w:World}(k : ∀b o x,M b o=some x->w.cell? ⟨b,o,none⟩=some x){esz b o i:Nat}{es:List AV}{cell:Nat->Nat->Value}
 (c : ∀i j,i<es.length->j<esz->M b (o+(i * esz+j))=some (cell i j)/\(cell i j).oneCell'=true)
 (g : ∀e∈es,e.cells.length=esz) (h : ∀(i j:Nat) e x,es[i]?=some e->e.cells[j]?=some x->VR M cT x (cell i j)) {e:AV} (hi:es[i]?=some e):Cells M cT w b (o+i * esz) e.cells:=by
 intro j x f;have d:j<esz:=by
  rw[<-g e (dk hi)];exact(dB.1 f).1
 have a:i<es.length:=(dB.1 hi).1;refine⟨cell i j,?_,(c i j a d).2,h i j e x hi f⟩;rw[show o+i * esz+j=o+(i * esz+j) by omega];exact k _ _ _ (c i j a d).1
def RJ{P:Program}{t:TypeId}{d:Bool}{n:Nat}(q:eD P t=some d)(k:av P t=some n){M ι w}(p : ∀b o x,M b o=some x->w.cell? ⟨b,o,none⟩=some x)
 {esz i j:Nat} {es:List AV} {y:AV} {a:Value} (l:VR M ι (.iptr esz es i j) a) (c:dQ es i j n d=some y) :
 ∃u,(Instr.loadAt t a).run P w = .ok u w/\VR M ι y u:=by
 cases l with | iptr cell m he h=>
 rename_i b o;unfold dQ at c;split at c;·cases c
 rename_i e hi;obtain⟨u,f,g⟩:=sJ q k (Cells.WW p m he h hi) c;refine⟨u,?_,g.up ι⟩;rw[show o+i * esz+j=o+(i * esz+j) by omega]at f;simp[Instr.loadAt,Instr.sureAddr,f]
structure A8 (w w':World) (o:Obj):Prop where
 os:w'.os=w.os
 tape:w'.tape=w.tape
 output:w'.output=w.output
 heap:w'.heap=w.heap.push o
def A8.cell{w w':World}{o:Obj}(h:A8 w w' o){a:Addr}{x:Value}(b:w.cell? a=some x):w'.cell? a=some x:=by
 have c:=iQl w a b;unfold World.cell? at b ⊢;rw[h.heap,B8 c,<-iG c];exact b
def A8.old{w w':World}{o:Obj}(h:A8 w w' o)(b:Nat)(a:b<w.heap.size):w'.heap[b]?=w.heap[b]?:=by
 rw[h.heap,B8 a,<-iG a]
def jb(ι:Map)(q:Ref)(l:Loc):Map:=λr=>if r=q then some l else ι r
def j3(g:cb)(q:Ref)(k:aP):cb:=λr=>if r=q then some k else g r
def CN{ι:Map}{q:Ref}{l:Loc}(b:ι q=none) : ∀r a,ι r=some a->jb ι q l r=some a:=by
 intro r a h;unfold jb;split;·subst_vars;rw[b]at h;cases h
 exact h
def fk.Ub{M ι g w}(h:fk M ι g w){q:Ref}(b:ι q=none):g q=none:=by
 cases c:g q with| none=>rfl| some k=>obtain⟨l,a,_⟩:=h.live q k c;rw[b]at a;cases a
def eo.lt{M ι w l k}(h:eo M ι w l k):l.b<w.heap.size:=by
 obtain⟨arr,T,fz,a,_⟩:=h.heap;exact(gv.1 a).1
def mu.lt{M ι w l k}(h:mu M ι w l k):l.b<w.heap.size:=by
 rcases h.obj with ⟨_,a⟩ | ⟨_,_,a⟩ | ⟨_,_,_,_,_,_,a⟩
 ·exact(gv.1 a).1
 ·exact(gv.1 a).1
 exact(gv.1 a).1
def nH.lt{M ι w l k}(h:nH M ι w l k):l.b<w.heap.size:=by
 rcases Bf k.esz with e | e
 ·exact(h.objOk e).lt
 exact(h.cellsOk e).lt
def nH.Sf{M ι w l k}(h:nH M ι w l k){arr:Array Value}{T:TypeId}{fz:Nat × Nat}(c:w.heap[l.b]?=some (.cells arr T fz)):eo M ι w l k/\0<k.esz:=by
 rcases Bf k.esz with e | e
 ·rcases(h.objOk e).obj with ⟨_,a⟩ | ⟨_,_,a⟩ | ⟨_,_,_,_,_,_,a⟩
  ·rw[c]at a;cases a
  ·rw[c]at a;cases a
  rw[c]at a;cases a
 exact⟨h.cellsOk e,e⟩
def eo.bF{M ι w l k M' ι' w'}(h:eo M ι w l k)(v : ∀b o x,M b o=some x->M' b o=some x)(c : ∀r l,ι r=some l->ι' r=some l)
 (n:w'.heap[l.b]?=w.heap[l.b]?) (q : ∀o x,M' l.b o=some x->k.fI=true/\o<k.es.length * k.esz):eo M' ι' w' l k:=by
 obtain⟨arr,T,fz,y,f,t,s⟩:=h.heap;refine⟨h.esz,⟨arr,T,fz,n ▸ y,f,t,?_⟩,h.len,h.cells,q⟩;intro i j e x A p;obtain⟨u,hu,m,g⟩:=s i j e x A p;refine⟨u,hu,m,g.mono v _ ?_⟩;intro r z a;unfold aP.map at a ⊢;split;·rename_i d;rw[if_pos d]at a;exact a
 rename_i d;rw[if_neg d]at a;exact c r z a
def nH.bF{M ι w l k M' ι' w'}(h:nH M ι w l k)(d : ∀b o x,M b o=some x->M' b o=some x)(a : ∀r l,ι r=some l->ι' r=some l)
 (c:w'.heap[l.b]?=w.heap[l.b]?) (f : ∀o x,M' l.b o=some x->k.fI=true/\o<k.es.length * k.esz):nH M' ι' w' l k:=
 ⟨h.esz,λe=>(h.cellsOk e).bF d a c f,λe=>(h.objOk e).mono d a c,f⟩
def fk.alloc{M ι g w}(v:fk M ι g w){q:Ref}(U:ι q=none){w':World}{arr:Array Value}{T:TypeId}{fz:Nat × Nat}(p:A8 w w' (.cells arr T fz))
 (k:aP) (L:0<k.esz) (n:Nat) (F:arr.size=n * k.esz) (H:zD k.esz arr.size fz) (B:k.es.length<=n) (f : ∀e∈k.es,e.cells.length=k.esz)
 (S : ∀(i j:Nat) e x,k.es[i]?=some e->e.cells[j]?=some x ->∃u,arr[i * k.esz+j]?=some u/\u.oneCell'=true/\VR M (k.map ι) x u) :
 fk M (jb ι q ⟨w.heap.size,k.esz,n⟩) (j3 g q k) w'/\qX M ι g w M (jb ι q ⟨w.heap.size,k.esz,n⟩) (j3 g q k) w':=by
 have d:=CN (l:=⟨w.heap.size,k.esz,n⟩) U;have z : ∀b o x,M b o=some x->b<w.heap.size:=λb o x h=>iQl w ⟨b,o,none⟩ (v.mem b o x h);have y:w'.heap[w.heap.size]?=some (.cells arr T fz):=by rw[p.heap];simp
 refine⟨⟨λb o x h=>p.cell (v.mem b o x h),?_,?_⟩,⟨p.os,p.tape,p.output,by rw[p.heap];simp,λb c _=>p.old b c,λ_ _ _ h=>h,d,?_,λ_ _ _ h => .inl h⟩⟩
 ·intro r k' s;unfold j3 at s;split at s
  ·rename_i e;subst e;cases s;refine⟨⟨w.heap.size,k.esz,n⟩,by simp[jb],eo.bu ⟨rfl,⟨arr,T,fz,y,F,H,?_⟩,B,f,?_⟩ L⟩
   ·intro i j e x Q N;obtain⟨u,hu,K,R⟩:=S i j e x Q N;refine⟨u,hu,K,R.mono (λ_ _ _ h=>h) _ ?_⟩;intro r' V a;unfold aP.map at a ⊢;split;·rename_i G;rw[if_pos G]at a;exact a
    rename_i G;rw[if_neg G]at a;exact d r' V a
   intro o x h;exact absurd (z _ _ _ h) (wX _)
  obtain⟨l,a,c⟩:=v.live r k' s;exact⟨l,d r l a,c.bF (λ_ _ _ h=>h) d (p.old _ c.lt) c.frozen⟩
 ·intro r r' k1 J O P A C m t I;unfold j3 at A C;unfold jb at m t;by_cases D:r=q<;>by_cases E:r'=q;·rw[D,E]
  ·rw[if_pos D]at m;rw[if_neg E]at C t;obtain⟨l,a,c⟩:=v.live r' J C;rw[a]at t;cases t;cases m;exact absurd c.lt (by rw[<-I];exact wX _)
  ·rw[if_neg D]at A m;rw[if_pos E]at t;obtain⟨l,a,c⟩:=v.live r k1 A;rw[a]at m;cases m;cases t;exact absurd c.lt (by rw[I];exact wX _)
  rw[if_neg D]at A m;rw[if_neg E]at C t;exact v.inj r r' k1 J O P A C m t I
 intro r k' l s a;unfold j3 at s;unfold jb at a;split at s;·rename_i e;rw[if_pos e]at a;cases a;exact .inl (aV _)
 rename_i e;rw[if_neg e]at a;exact .inr ⟨r,k',l,s,a,rfl⟩
def bP(w:World)(b:Nat)(o:Obj):World := { w with heap:=w.heap.setIfInBounds b o}
def fp{w:World}{b:Nat}{o:Obj}(a:b<w.heap.size):(bP w b o).heap[b]?=some o:=by simp[bP,a]
def dW{w:World}{b a:Nat}{o:Obj}(h:b≠a):(bP w b o).heap[a]?=w.heap[a]?:=by simp[bP,yx h]
def cd(arr:Array Value)(o:Nat)(us:List Value):Array Value:=(arr.toList.take o++us++arr.toList.drop (o+us.length)).toArray
def gx{arr:Array Value}{o:Nat}{us:List Value}(h:o+us.length<=arr.size)(i:Nat) :
 (cd arr o us)[i]?=if o<=i/\i<o+us.length then us[i - o]? else arr[i]?:=by
 unfold cd;simp only[Kp];have b:(arr.toList.take o).length=o:=by simp;omega
 rcases dT i o with a | a
 ·rw[il,iB (by omega),w8,if_pos a,if_neg (by omega)];simp
 rcases dT i (o+us.length)with c | c
 ·rw[il,hY (by omega),iB (by omega),if_pos ⟨a,c⟩,b]
 rw[hY (by simp;omega),wZ,if_neg (by omega)];simp only[eS,b,Da];congr 1;omega
def gV{arr:Array Value}{o:Nat}{us:List Value}(h:o+us.length<=arr.size):(cd arr o us).size=arr.size:=by
 simp[cd];omega
def lj{P:Program}{b:Nat}{T:TypeId}{fz:Nat × Nat}(o:Nat) : ∀(us:List Value)(i:Nat)(arr:Array Value)(w:World),w.heap[b]?=some (.cells arr T fz) ->
 o+i+us.length<=arr.size->(∀j,j<arr.size ->¬(fz.1<=j/\(j<fz.2\/fz.2<fz.1)))->(∀u∈us,u.oneCell'=true) ->
 (storeCells ⟨b,o,none⟩ us i).run P w = .ok () (bP w b (.cells (cd arr (o+i) us) T fz)):=by
 intro us;induction us with
 | nil=>
  intro i arr w a s n m;have g:=(gv.1 a).1;have e:cd arr (o+i) []=arr:=by simp[cd]
  have t:bP w b (.cells arr T fz)=w:=by
   have:w.heap.setIfInBounds b (.cells arr T fz)=w.heap:=by
    apply BX;intro k;by_cases c:b=k;·subst c;rw[a,Db g]
    rw[yx c]
   unfold bP;rw[this]
  simp[storeCells,e,t]
 | cons u us A=>
  intro i arr w a s n m;have g:=(gv.1 a).1;simp only[lZ]at s;have z:w.cell? ⟨b,o+i,none⟩=some arr[o+i]:=by rw[gY a];exact iG (by omega)
  have p:w.frozen? ⟨b,o+i,none⟩=false:=by
   have:=n (o+i) (by omega);simp only[World.frozen?,a];simp only[Bg,iQd];by_cases h:fz.1<=o+i;·exact .inr λx=>this ⟨h,.inl x⟩
   exact .inl h
  have d:w.setCell ⟨b,o+i,none⟩ u=bP w b (.cells (arr.setIfInBounds (o+i) u) T fz):=by
   unfold World.setCell bP;congr 1;apply BX;intro k;rw[Ds];by_cases c:b=k;·subst c;rw[a,Db g];simp
   simp[c,yx c]
  have f:=m u (by simp);have l:=A (i+1) (arr.setIfInBounds (o+i) u) (bP w b (.cells (arr.setIfInBounds (o+i) u) T fz)) (fp g) (by simp;omega) (by simpa using n) (λv y=>m v (by simp[y]));simp only[storeCells,iQe,fy,run_store P w _ u _ f,z,p,d];simp only[hU, ↓reduceIte,iQc];rw[l];congr 1;unfold bP;simp only[Array.setIfInBounds_setIfInBounds];congr 3;apply BX;intro k;rw[gx (by simp;omega),gx (by simp;omega)];by_cases B:k=o+i;·subst B;rw[if_neg (by omega),if_pos ⟨aV _,by simp⟩];simp[show o+i<arr.size by omega]
  by_cases q:o+(i+1)<=k/\k<o+(i+1)+us.length;·rw[if_pos q,if_pos (by simp;omega)];rw[show k - (o+i)=(k - (o+(i+1)))+1 by omega];simp
  rw[if_neg q,if_neg (by simp;omega)];rw[yx (by omega)]
def fk.mark{M ι g w}(q:fk M ι g w){r:Ref}{k:aP}{l:Loc}(u:g r=some k)(D:ι r=some l){arr:Array Value}{T:TypeId}{C fz:Nat × Nat}{w':World}
 (F:w.heap[l.b]?=some (.cells arr T C)) (m:w'=bP w l.b (.cells arr T fz)) (A:zD k.esz arr.size fz):fk M ι g w'/\qX M ι g w M ι g w':=by
 obtain⟨U,n,I⟩:=q.live r k u;rw[D]at n;cases n;have B:=I.lt;have f:w'.heap[l.b]?=some (.cells arr T fz):=by rw[m];exact fp B
 have c : ∀b,l.b≠b->w'.heap[b]?=w.heap[b]?:=λb a=>by rw[m];exact dW a
 have j : ∀b o,w'.cell? ⟨b,o,none⟩=w.cell? ⟨b,o,none⟩:=by
  intro b o;by_cases a:l.b=b;·subst a;rw[gY f,gY F]
  exact iQi (c b a)
 refine⟨⟨λb o x h=>by rw[j];exact q.mem b o x h,?_,q.inj⟩,?_⟩
 ·intro r' k1 s;obtain⟨v,p,d⟩:=q.live r' k1 s;refine⟨v,p,?_⟩;by_cases a:l.b=v.b
  ·obtain⟨i,z⟩:=d.Sf (a ▸ F);obtain⟨G,Q,H,t,O,R,P⟩:=i.heap;rw[<-a,F]at t;injection t with t;injection t with J L S
   subst J;subst L;have y:k1=k:=by
    have e:=q.inj r r' k k1 l v u s D p a;subst e;rw[u]at s;exact(Kg s).symm
   exact eo.bu ⟨d.esz,⟨arr,T,fz,by rw[<-a];exact f,O,by rw[y];exact A,P⟩,i.len,i.cells,d.frozen⟩ z
  exact d.bF (λ_ _ _ h=>h) (λ_ _ h=>h) (c _ a) d.frozen
 refine⟨by rw[m];rfl,by rw[m];rfl,by rw[m];rfl,by rw[m];simp[bP],λb K E=>c b (E r k l u D),λ_ _ _ h=>h,λ_ _ h=>h,λr k l h N => .inr ⟨r,k,l,h,N,rfl⟩,λ_ _ _ h => .inl h⟩
def fk.write{M ι g w}(v:fk M ι g w){r:Ref}{k k':aP}{l:Loc}(t:g r=some k)(D:ι r=some l)(P:0<l.esz){arr:Array Value}{T:TypeId}{fz:Nat × Nat}{w':World}
 (f:w'=bP w l.b (.cells arr T fz)) (a:k'.esz=k.esz) (O:k'.arr=k.arr) (F:arr.size=l.n * k.esz) (I:zD k.esz arr.size fz)
 (B:k'.es.length<=l.n) (c : ∀e∈k'.es,e.cells.length=k.esz) (m : ∀o x,M l.b o=some x->False)
 (R : ∀(i j:Nat) e x,k'.es[i]?=some e->e.cells[j]?=some x ->∃u,arr[i * k.esz+j]?=some u/\u.oneCell'=true/\VR M (k'.map ι) x u) :
 fk M ι (j3 g r k') w'/\qX M ι g w M ι (j3 g r k') w':=by
 obtain⟨W,y,H⟩:=v.live r k t;rw[D]at y;cases y;have J:=H.lt;refine⟨⟨?_,?_,?_⟩,?_⟩;·intro b o x h;have q:l.b≠b:=λe=>m o x (e ▸ h);rw[iQi (w:=w) (by rw[f];exact dW q)];exact v.mem b o x h
 ·intro r' k1 s;unfold j3 at s;split at s;·rename_i e;subst e;cases s;refine⟨l,D,eo.bu ⟨by rw[H.esz,a],⟨arr,T,fz,by rw[f];exact fp J,by rw[a];exact F,by rw[a];exact I,by rw[a];exact R⟩,B,by rw[a];exact c,λo x h=>(m o x h).elim⟩ (by rw[a,<-H.esz];exact P)⟩
  rename_i q;obtain⟨d,A,C⟩:=v.live r' k1 s;have L:l.b≠d.b:=λe=>q (v.inj r' r k1 k d l s t A D e.symm);exact⟨d,A,C.bF (λ_ _ _ h=>h) (λ_ _ h=>h) (by rw[f];exact dW L) C.frozen⟩
 ·intro r1 r2 k1 X d U z E S Q V;have p : ∀ {r1:Ref} {k1:aP},j3 g r k' r1=some k1 ->∃k,g r1=some k:=by
   intro r1 k1 h;unfold j3 at h;split at h;·rename_i e;exact⟨k,e ▸ t⟩
   exact⟨k1,h⟩
  obtain⟨_,K⟩:=p z;obtain⟨_,G⟩:=p E;exact v.inj r1 r2 _ _ d U K G S Q V
 refine⟨by rw[f];rfl,by rw[f];rfl,by rw[f];rfl,by rw[f];simp[bP],?_,λ_ _ _ h=>h,λ_ _ h=>h,?_,λ_ _ _ h => .inl h⟩;·intro b _ N;rw[f];exact dW (N r k l t D)
 intro r1 k1 d z E;unfold j3 at z;split at z;·rename_i e;subst e;exact .inr ⟨r1,k,d,t,E,rfl⟩
 exact .inr ⟨r1,k1,d,z,E,rfl⟩
end Go.Ab
namespace Go.Ab
open Classical
def PO(ι:Map)(g:cb)(R:List Ref)(b o:Nat):Prop :=∃r∈R,∃k l,g r=some k/\ι r=some l/\l.b=b/\o<k.es.length * k.esz
noncomputable def jq(M:Mem)(ι:Map)(g:cb)(w:World)(R:List Ref):Mem:=λb o=>
 match M b o with
 | some x=>some x
 | none=>if PO ι g R b o then w.cell? ⟨b,o,none⟩ else none
def sS{M ι g w R} : ∀b o x,M b o=some x->jq M ι g w R b o=some x:=by
 intro b o x h;simp[jq,h]
def vO{M ι g w R}(c : ∀b o x,M b o=some x->w.cell? ⟨b,o,none⟩=some x) : ∀b o x,jq M ι g w R b o=some x->w.cell? ⟨b,o,none⟩=some x:=by
 intro b o x h;unfold jq at h;split at h;·rename_i y a;cases h;exact c b o _ a
 split at h;·exact h
 cases h
def vP{M ι g w R b o x}(h:jq M ι g w R b o=some x):M b o=some x\/PO ι g R b o:=by
 unfold jq at h;split at h;·rename_i y c;cases h;exact .inl c
 split at h;·rename_i a;exact .inr a
 cases h
def BH{n esz i j:Nat}(hi:i<n)(a:j<esz):i * esz+j<n * esz:=by
 have:(i+1) * esz<=n * esz:=kr _ hi;rw[ke]at this;omega
def E3{M ι g w R}(q:fk M ι g w){r:Ref}{k:aP}{l:Loc}(A:r∈R)(o:g r=some k)(p:ι r=some l){i j:Nat}(hi:i<k.es.length)(t:j<k.esz) :
 ∃u,jq M ι g w R l.b (i * k.esz+j)=some u/\u.oneCell'=true/\w.cell? ⟨l.b,i * k.esz+j,none⟩=some u /\
  ∀e x,k.es[i]?=some e->e.cells[j]?=some x->VR M (k.map ι) x u:=by
 obtain⟨G,c,f⟩:=q.live r k o;rw[p]at c;cases c;replace f:=f.cellsOk (by omega);obtain⟨arr,T,fz,D,E,F,v⟩:=f.heap;have a:k.es[i]?=some k.es[i]:=dh hi;have C:=f.cells k.es[i] (kq hi);have d:k.es[i].cells[j]?=some (k.es[i].cells[j]'(by omega)):=dh _;obtain⟨u,hu,s,B⟩:=v i j _ _ a d;have h:w.cell? ⟨l.b,i * k.esz+j,none⟩=some u:=by rw[gY D];exact hu
 refine⟨u,?_,s,h,?_⟩
 ·unfold jq;split;·rename_i y z;have:=q.mem _ _ _ z;rw[h]at this;cases this;rfl
  rw[if_pos ⟨r,A,k,l,o,p,rfl,BH hi t⟩];exact h
 intro e x n m;rw[a]at n;cases n;rw[d]at m;cases m;exact B
def Ip{g:cb}{n:Nat}{x y:AV}(h:view g (n+1) x=some y)(c : ∀cs,x ≠ .agg cs):x.cells=[x]/\y.cells=[y]:=by
 refine⟨by cases x<;>first | rfl | exact absurd rfl (c _),?_⟩;cases x with
 | agg cs=>exact absurd rfl (c cs)
 | v x=>simp[view]at h;subst h;rfl
 | tup cs=>simp only[view,bA]at h;obtain⟨_,_,rfl⟩:=h;rfl
 | cC=>simp[view]at h;subst h;rfl
 | iptr=>simp[view]at h;subst h;rfl
 | fsl=>simp[view]at h
 | bO r off len cap=>
  simp only[view]at h;split at h
  ·split at h;·cases h;rfl
   cases h
  cases h
 | dsl r off len cap=>
  simp only[view]at h;split at h
  ·split at h;·simp only[bA]at h;obtain⟨_,_,rfl⟩:=h;rfl
   cases h
  cases h
 | nsl=>simp[view]at h
 | ptr r i j=>
  simp only[view]at h;split at h
  ·split at h;·cases h;rfl
   simp only[bA]at h;obtain⟨_,_,rfl⟩:=h;rfl
  cases h
 | fn f a b=>
  simp only[view]at h;split at h;·cases h;rfl
  cases h
 | ifc t x=>simp only[view,bA]at h;obtain⟨_,_,rfl⟩:=h;rfl
 | yld=>simp[view]at h
 | mp=>simp[view]at h
 | ch=>simp[view]at h
 | xv=>simp[view]at h
 | lp=>simp[view]at h
def uY{g:cb}{n:Nat}{e f:AV}(h:view g (n+1) e=some f) :
 f.cells.length=e.cells.length /\∀(j:Nat) d,f.cells[j]?=some d ->∃m x,m<=n+1/\e.cells[j]?=some x/\view g m x=some d /\∀r∈ad g m x,r∈ad g (n+1) e:=by
 by_cases b : ∃cs,e = .agg cs;·obtain⟨cs,rfl⟩:=b;simp only[view,bA]at h;obtain⟨ys,c,rfl⟩:=h;refine⟨by simp[AV.cells,fq c],?_⟩;intro j d a;obtain⟨x,b,p⟩:=nc c j d (by simpa [AV.cells] using a);refine⟨n,x,by omega,by simpa [AV.cells] using b,p,?_⟩;intro r i;simp only[ad,eW];exact⟨x,dk b,i⟩
 obtain⟨k,l⟩:=Ip h (λcs o=>b ⟨cs,o⟩);refine⟨by rw[k,l];rfl,?_⟩;intro j d a;rw[l]at a;cases j with
 | zero=>simp at a;subst a;exact⟨n+1,e,aV _,by rw[k];rfl,h,λr i=>i⟩
 | succ j=>simp at a
def zO{M ι g w R}(hS:fk M ι g w) : ∀(n:Nat)(x y:AV)(u:Value),view g n x=some y->(∀r∈ad g n x,r∈R)->VR M ι x u->VR (jq M ι g w R) cT y u:=by
 intro n;induction n using Nat.strongRecOn with | ind n ih=>
 intro x y u h K O;cases n with
 | zero=>simp[view]at h
 | succ n=>
  have D : ∀ {cs ys:List AV} {us:List Value},cs.mapM (view g n)=some ys->(∀r∈cs.flatMap (ad g n),r∈R)->j7 M ι cs us->j7 (jq M ι g w R) cT ys us:=(by intro cs ys us G K hvs;refine⟨by rw[fq G];exact hvs.1,λi y' u hy L=>?_⟩;obtain⟨x,C,hf⟩:=nc G i y' hy;exact ih n (by omega) x y' u hf (λr I=>K r (eW.2 ⟨x,dk C,I⟩)) (hvs.2 i x u C L));cases x with
  | v x=>simp[view]at h;subst h;cases O with | v hs=>exact .v hs
  | agg cs=>
   simp only[view,bA]at h;obtain⟨ys,G,rfl⟩:=h;cases O with | agg hl U=>
   exact VR.oe.2 (D G (by simpa [ad] using K) (VR.oe.1 (.agg hl U)))
  | tup cs=>
   simp only[view,bA]at h;obtain⟨ys,G,rfl⟩:=h;cases O with | tup h0 hl U=>
   rename_i vs;have:=D (us:=vs.toList) G (by simpa [ad] using K) ⟨by simpa using hl,λi x u C L=>U i x u C (by simpa using L)⟩;refine .tup ?_ (by simpa using this.1) λi c u Z L=>this.2 i c u Z (by simpa using L);intro e;subst e;have F:=fq G;exact h0 (we (by simpa using F.symm))
  | cC esz es cap=>
   simp[view]at h;subst h;cases O with | cC cell hs Z N hm E U=>
   exact(VR.cC (M:=M) (ι:=cT) cell hs Z N hm E U).mono sS _ (λ_ _ h=>h)
  | iptr esz es i j=>
   simp[view]at h;subst h;cases O with | iptr cell hm E U=>
   exact(VR.iptr (M:=M) (ι:=cT) cell hm E U).mono sS _ (λ_ _ h=>h)
  | fsl=>simp[view]at h
  | bO r off len cap=>
   simp only[view]at h;split at h
   ·rename_i k N;split at h
    ·rename_i U;cases h;obtain⟨z,B⟩:=U;cases O with | bO I hb hs ha Z hn Y P=>
     rename_i l a c;have V:r∈R:=K r (by simp[ad]);have p:=hS.at I P N;have W:((k.es.drop off).take len).length=len:=by simp;omega
     have hat : ∀i,i<len->((k.es.drop off).take len)[i]?=k.es[off+i]?:=(by intro i hi;rw[w8,if_pos hi,wZ]);have H:0<len->a.off=off * k.esz:=by
      intro h0;rcases ha with h | h
      ·omega
      rw[h,p.esz]
     have key : ∀i j,i<len->j<k.esz ->∃u,jq M ι g w R a.block (a.off+(i * k.esz+j))=some u/\u.oneCell'=true /\∀e x,k.es[off+i]?=some e->e.cells[j]?=some x->VR M (k.map ι) x u:=(by intro i j hi A;obtain⟨u,F,J,_,h3⟩:=E3 hS V N I (i:=off+i) (j:=j) (by omega) A;refine⟨u,?_,J,h3⟩;rw[H (by omega),hb,show off * k.esz+(i * k.esz+j)=(off+i) * k.esz+j by rw[ke];omega];exact F);let cell:Nat->Nat->Value:=λi j=>(jq M ι g w R a.block (a.off+(i * k.esz+j))).getD undef
     have:=VR.cC (M:=jq M ι g w R) (ι:=cT) (esz:=k.esz) (es:=(k.es.drop off).take len) (cap:=cap) (a:=a) (c:=c) cell (.inl hs) (by omega) Y
      (by
       intro i j hi A;rw[W]at hi;obtain⟨u,F,J,_⟩:=key i j hi A;simp[cell,F,J])
      (by
       intro e E;exact p.cells e (BZ (w9 E)))
      (by
       intro i j e x hi C;have q:i<len:=by have:=(dB.1 hi).1;omega
       rw[hat i q]at hi;have A:j<k.esz:=(by rw[<-p.cells e (dk hi)];exact(dB.1 C).1);obtain⟨u,F,J,h3⟩:=key i j q A;have:=h3 e x hi C;rw[aP.map,if_pos z]at this;simp only[cell,F,dP];exact this.mono sS _ (λ_ _ h=>h))
     rw[W]at this;exact this
    cases h
   cases h
  | nsl=>simp[view]at h
  | dsl r off len cap=>
   simp only[view]at h;split at h
   ·rename_i k N;split at h
    ·rename_i U;obtain⟨z,B⟩:=U;simp only[bA]at h;obtain⟨es',d,rfl⟩:=h;cases O with | dsl I hb hs ha Z hn Y P=>
     rename_i l a c;have V:r∈R:=K r (by simp[ad]);have p:=hS.at I P N;have hel:=fq d;have W:((es'.drop off).take len).length=len:=by simp;omega
     have hat : ∀i,i<len->((es'.drop off).take len)[i]?=es'[off+i]?:=(by intro i hi;rw[w8,if_pos hi,wZ]);have H:0<len->a.off=off * k.esz:=by
      intro h0;rcases ha with h | h
      ·omega
      rw[h,p.esz]
     have key : ∀i j,i<len->j<k.esz ->∃u,jq M ι g w R a.block (a.off+(i * k.esz+j))=some u/\u.oneCell'=true /\∀e x,k.es[off+i]?=some e->e.cells[j]?=some x->VR M (k.map ι) x u:=(by intro i j hi A;obtain⟨u,F,J,_,h3⟩:=E3 hS V N I (i:=off+i) (j:=j) (by omega) A;refine⟨u,?_,J,h3⟩;rw[H (by omega),hb,show off * k.esz+(i * k.esz+j)=(off+i) * k.esz+j by rw[ke];omega];exact F);let cell:Nat->Nat->Value:=λi j=>(jq M ι g w R a.block (a.off+(i * k.esz+j))).getD undef
     cases n with
     | zero=>
      cases X:k.es with| nil=>rw[X]at d B;simp at d B;subst d;obtain⟨rfl,rfl⟩:=B;have:=VR.cC (M:=jq M ι g w R) (ι:=cT) (esz:=k.esz) (es:=[]) (cap:=cap) (a:=a) (c:=c) cell (.inr rfl) (by simp) Y (by intro i j hi;simp at hi) (by simp) (by intro i j e x hi;simp at hi);simpa using this| cons e es=>rw[X]at d;simp[view]at d
     | succ n=>
      have:=VR.cC (M:=jq M ι g w R) (ι:=cT) (esz:=k.esz) (es:=(es'.drop off).take len) (cap:=cap) (a:=a) (c:=c) cell (.inl hs) (by omega) Y
       (by
        intro i j hi A;rw[W]at hi;obtain⟨u,F,J,_⟩:=key i j hi A;simp[cell,F,J])
       (by
        intro e' he';have he'':=BZ (w9 he');obtain⟨Q,q,rfl⟩:=ot he'';obtain⟨e,E,hf⟩:=nc d Q _ (dh q);rw[(uY hf).1];exact p.cells e (dk E))
       (by
        intro Q j' e' x' q hx';have hil:Q<len:=by have:=(dB.1 q).1;omega
        rw[hat Q hil]at q;obtain⟨e,E,hf⟩:=nc d (off+Q) e' q;obtain⟨m,x,hm,C,hfx,T⟩:=(uY hf).2 j' x' hx';have A:j'<k.esz:=(by rw[<-p.cells e (dk E)];exact(dB.1 C).1);obtain⟨u,F,J,h3⟩:=key Q j' hil A;have S:=h3 e x E C;rw[aP.map,if_neg (by simp[z])]at S;simp only[cell,F,dP];refine ih m (by omega) x x' _ hfx ?_ S;intro r' hr';refine K r' ?_;simp only[ad,N,dG,eW];exact .inr ⟨e,dk E,T r' hr'⟩)
      rw[W]at this;exact this
    cases h
   cases h
  | ptr r i j=>
   cases O with | ptr I P=>
   rename_i l;simp only[view]at h;split at h
   ·rename_i k N;have V:r∈R:=K r (by simp[ad]);have p:=hS.at I P N;let cell:Nat->Nat->Value:=λi j=>(jq M ι g w R l.b (0+(i * k.esz+j))).getD undef
    have s : ∀i j,i<k.es.length->j<k.esz->jq M ι g w R l.b (0+(i * k.esz+j))=some (cell i j)/\(cell i j).oneCell'=true /\∀e x,k.es[i]?=some e->e.cells[j]?=some x->VR M (k.map ι) x (cell i j):=(by intro i j hi A;obtain⟨u,F,J,_,h3⟩:=E3 hS V N I hi A;rw[qZ]at *;simp only[cell,qZ,F,dP];exact⟨trivial,J,h3⟩);split at h
    ·rename_i z;cases h;have:=VR.iptr (M:=jq M ι g w R) (ι:=cT) (esz:=k.esz) (es:=k.es) (i:=i) (j:=j) (b:=l.b) (o:=0) cell (λi j hi A=>⟨(s i j hi A).1,(s i j hi A).2.1⟩) p.cells
      (by
       intro i j e x hi C;have q:=(dB.1 hi).1;have A:j<k.esz:=by
        rw[<-p.cells e (dk hi)];exact(dB.1 C).1
       have:=(s i j q A).2.2 e x hi C;rw[aP.map,if_pos z]at this;exact this.mono sS _ (λ_ _ h=>h))
     rw[qZ]at this;rw[p.esz];exact this
    rename_i z;simp only[bA]at h;obtain⟨es',d,rfl⟩:=h;cases n with
    | zero=>
     cases X:k.es with| nil=>rw[X]at d;simp at d;subst d;have:=VR.iptr (M:=jq M ι g w R) (ι:=cT) (esz:=k.esz) (es:=[]) (i:=i) (j:=j) (b:=l.b) (o:=0) cell (by intro i j hi;simp at hi) (by simp) (by intro i j e x hi;simp at hi);rw[qZ]at this;rw[p.esz];exact this| cons e es=>rw[X]at d;simp[view]at d
    | succ n=>
     have B:=fq d;have:=VR.iptr (M:=jq M ι g w R) (ι:=cT) (esz:=k.esz) (es:=es') (i:=i) (j:=j) (b:=l.b) (o:=0) cell
      (λi j hi A=>⟨(s i j (B ▸ hi) A).1,(s i j (B ▸ hi) A).2.1⟩)
      (by
       intro e' he';obtain⟨Q,q,rfl⟩:=ot he';obtain⟨e,E,hf⟩:=nc d Q _ (dh q);rw[(uY hf).1];exact p.cells e (dk E))
      (by
       intro Q j' e' x' q hx';obtain⟨e,E,hf⟩:=nc d Q e' q;obtain⟨m,x,hm,C,hfx,T⟩:=(uY hf).2 j' x' hx';have hlt:=(dB.1 E).1;have A:j'<k.esz:=by
        rw[<-p.cells e (dk E)];exact(dB.1 C).1
       have S:=(s Q j' hlt A).2.2 e x E C;rw[aP.map,if_neg z]at S;refine ih m (by omega) x x' _ hfx ?_ S;intro r' hr';refine K r' ?_;simp only[ad,N,if_neg z,dG,eW];exact .inr ⟨e,dk E,T r' hr'⟩)
     rw[qZ]at this;rw[p.esz];exact this
   cases h
  | fn f a b=>
   simp only[view]at h;split at h
   ·rename_i a' b' ha' hb';cases h;cases O with | fn hla hlb hha hhb=>
    rename_i va vb;simp only[ad,jG]at K;have F:=D (us:=va.toList) ha' (λr I=>K r (.inl I)) ⟨by simpa using hla,λi x u C L=>hha i x u C (by simpa using L)⟩;have J:=D (us:=vb.toList) hb' (λr I=>K r (.inr I)) ⟨by simpa using hlb,λi x u C L=>hhb i x u C (by simpa using L)⟩;exact .fn (by simpa using F.1) (by simpa using J.1) (λi c u Z L=>F.2 i c u Z (by simpa using L)) (λi c u Z L=>J.2 i c u Z (by simpa using L))
   cases h
  | ifc t x=>
   simp only[view,bA]at h;obtain⟨y,hy,rfl⟩:=h;cases O with | ifc O=>
   exact .ifc (ih n (by omega) x y _ hy (by simpa [ad] using K) O)
  | yld=>simp[view]at h
  | mp=>simp[view]at h
  | ch=>simp[view]at h
  | xv=>simp[view]at h
  | lp=>simp[view]at h
def qP(g:cb)(R:List Ref):cb:=λr=>if r∈R then (g r).map λk => { k with fI:=true} else g r
def xI{M ι g w R}(C:fk M ι g w):fk (jq M ι g w R) ι (qP g R) w/\qX M ι g w (jq M ι g w R) ι (qP g R) w:=by
 have c : ∀ {r k},qP g R r=some k ->∃a,g r=some a/\k = { a with fI:=k.fI}/\(r∈R->k.fI=true)/\(a.fI=true->k.fI=true):=by
  intro r k h;unfold qP at h;split at h;·simp only[bA]at h;obtain⟨a,E,rfl⟩:=h;exact⟨a,E,rfl,λ_=>rfl,λ_=>rfl⟩
  rename_i F;exact⟨k,h,rfl,λG=>absurd G F,λh=>h⟩
 refine⟨⟨vO C.mem,?_,?_⟩,⟨rfl,rfl,rfl,aV _,λ_ _ _=>rfl,sS,λ_ _ h=>h,?_,?_⟩⟩
 ·intro r k h;obtain⟨a,t,H,F,hm⟩:=c h;obtain⟨l,v,d⟩:=C.live r a t;refine⟨l,v,?_⟩;have s:k.es=a.es:=by rw[H]
  have n:k.esz=a.esz:=(by rw[H]);have I:k.arr=a.arr:=(by rw[H]);have p : ∀o x,jq M ι g w R l.b o=some x->k.fI=true/\o<k.es.length * k.esz:=by
   intro o x y;rw[s,n];rcases vP y with h | ⟨r',z,k',A,m,f,q,B⟩
   ·exact⟨hm (d.frozen o x h).1,(d.frozen o x h).2⟩
   have e:=C.inj r' r k' a A l m t f v q;subst e;rw[t]at m;cases m;exact⟨F z,B⟩
  refine⟨by rw[n];exact d.esz,λD=>?_,λD=>?_,p⟩
  ·replace d:=d.cellsOk (by rw[<-n];exact D);obtain⟨arr,T,fz,P,L,O,K⟩:=d.heap;refine⟨by rw[n];exact d.esz,⟨arr,T,fz,P,by rw[n];exact L,by rw[n];exact O,?_⟩,by rw[s];exact d.len,by rw[s,n];exact d.cells,p⟩;intro i j e x J y;rw[s]at J;rw[n];obtain⟨u,hu,B,N⟩:=K i j e x J y;refine⟨u,hu,B,?_⟩;have:k.map ι=a.map ι:=by unfold aP.map;rw[I]
   rw[this];exact N.mono sS _ (λ_ _ h=>h)
  exact((d.objOk (by rw[<-n];exact D)).mono (M':=jq M ι g w R) sS (λ_ _ h=>h) rfl).same n I s
 ·intro r r' k k' l A h G v f d;obtain⟨a,t,_⟩:=c h;obtain⟨k1,s,_⟩:=c G;exact C.inj r r' _ _ l A t s v f d
 ·intro r k l h v;obtain⟨a,t,_⟩:=c h;exact .inr ⟨r,a,l,t,v,rfl⟩
 intro b o x y;rcases vP y with h | ⟨r',z,k',A,m,f,q,B⟩
 ·exact .inl h
 exact .inr (.inr ⟨r',k',A,m,f,q⟩)
def Jz{g:cb}{R:List Ref}(h:lW g R=true):qP g R=g:=by
 funext r;unfold qP;split
 ·rename_i a;simp only[lW,eC]at h;have:=h r a;cases b:g r with
  | none=>rfl
  | some k=>rw[b]at this;simp at this;simp[<-this]
 rfl
end Go.Ab
