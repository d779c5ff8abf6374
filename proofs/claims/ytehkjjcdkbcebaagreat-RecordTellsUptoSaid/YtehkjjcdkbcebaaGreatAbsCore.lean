/-
  The abstract machine: a deterministic evaluator of the model's code over data, in which a slice that nobody writes is a list. No statement of a seat is proved here.
-/
import Derived.WalkKit
import Derived.RangeFuncIn
import Derived.RangeFuncRecord
import Derived.RangeFuncLeaves
import Derived.OrdersIn
set_option linter.unusedVariables false
set_option linter.unusedSimpArgs false
set_option linter.unusedSectionVars false
set_option linter.unnecessarySimpa false
namespace Go.Ab
set_option linter.defProp false
def aZ := @Option.map_eq_some_iff
def cw := @List.getElem?_eq_getElem
def aY := @Bool.and_eq_true
def dG := @Option.ite_none_right_eq_some
def dE := @List.getElem?_eq_some_iff
def fD := @Option.bind_eq_some_iff
def fC := @List.take_of_length_le
def eY := @List.mem_of_getElem?
def ir := @Array.getElem?_eq_getElem
def dF := @Option.bind_some
def bO := @Option.getD_some
def aW := @Nat.le_refl
def fP := @Array.getElem?_eq_some_iff
def dc := @Option.some.injEq
def fO := @Option.isSome_iff_exists
def da := @List.all_eq_true
def iL := @List.getElem?_append_right
def ia := @List.getElem?_append_left
def iK := @Nat.eq_of_beq_eq_true
def gH := @Bool.false_eq_true
def gG := @List.length_append
def gE := @Bool.not_eq_true'
def dH := @Nat.lt_or_ge
def gD := @List.getElem_mem
def jI := @List.mem_cons_of_mem
def eU := @List.mem_cons
def jN := @Nat.mul_le_mul_right
def hY := @List.mem_flatMap
def jM := @List.mem_cons_self
def ji := @List.length_cons
def gh := @Nat.le_of_lt
def jh := @Bool.or_eq_true
def hU := @Bool.true_and
def kJ := @List.getElem?_map
def kZ := @List.flatMap_cons
def mw := @List.getElem_of_mem
def lg := @List.length_drop
def kY := @List.mem_append
def lW := @List.length_take
def kI := @List.mapM_cons
def uw := @List.eq_nil_of_length_eq_zero
def lV := @List.length_nil
def o9 := @Option.bind_eq_bind
def kf := @List.mem_map
def wC := @Array.getElem?_setIfInBounds_ne
def jH := @Nat.add_mul
def lU := @List.drop_drop
def nD := @Nat.lt_succ_self
def pT := @List.mem_singleton
def uu := @List.length_eq_zero_iff
def AT := @Array.getElem?_setIfInBounds_self_of_lt
def sn := @List.getElem?_eq_none
def pS := @List.append_assoc
def od := @Option.pure_def
def sk := @Bool.and_eq_true_iff
def rn := @Bool.not_eq_false'
def xR := @Array.getD_eq_getD_getElem?
def pR := @List.nil_append
def pQ := @List.append_nil
def qy := @Option.getD_none
def rm := @Classical.not_not
def uX := @List.mem_of_mem_take
def ur := @Nat.pos_of_ne_zero
def zW := @Int.tmod_eq_emod_of_nonneg
def uW := @List.getElem?_take
def rl := @Bool.false_and
def wB := @Array.length_toList
def xQ := @List.take_append_drop
def sj := @List.mem_range
def uq := @List.foldl_cons
def uo := @UInt8.toNat_inj
def qx := @Nat.zero_add
def wA := @List.getElem?_drop
def uj := @List.take_left'
def zV := @Array.getElem?_push_lt
def uV := @List.not_mem_nil
def xP := @Int.toNat_of_nonneg
def xO := @List.length_pos_iff
def si := @Prod.mk.injEq
def rk := @Nat.le_trans
def zU := @List.length_replicate
def xN := @Nat.lt_of_lt_of_le
def zT := @List.mem_of_mem_drop
def wz := @List.take_length
def FN := @Array.eq_empty_of_size_eq_zero
def wy := @List.nodup_cons
def wx := @List.cons.injEq
def AS := @Array.getElem?_toList
def zS := @Array.ext_getElem?
def xM := @List.length_map
def xL := @List.drop_left'
def AR := @List.getElem?_range
def uU := @Nat.add_zero
def ui := @Nat.zero_le
def wu := @Nat.lt_irrefl
def FM := @Int.tdiv_eq_ediv_of_nonneg
def Dz := @Bool.and_eq_false_iff
def xK := @Bool.not_false
def zR := @Option.map_none
def AQ := @Nat.lt_succ_of_lt
def tn := @Sum.inr.injEq
def tl := @Bool.false_or
def tk := @List.map_cons
def tj := @List.all_cons
def Bl := @Int.eq_ofNat_of_zero_le
def Bk := @List.getElem?_set_self
def Bj := @List.drop_of_length_le
def Bi := @List.sublist_cons_self
def zb := @Nat.eq_zero_or_pos
def Bh := @Nat.le_of_ble_eq_true
def Bg := @Array.getElem?_modify
def xd := @List.map_append
def Bf := @List.length_singleton
def vd := @Sum.inl.injEq
def vc := @Bool.not_true
def u9 := @Bool.and_true
def za := @Nat.lt_trichotomy
def y9 := @List.take_add_one
def Be := @List.getElem?_set_ne
def xc := @Bool.and_false
def nE := @Ne.symm
def uZ := @Bool.or_self
def uY := @Nat.sub_self
def y8 := @List.flatMap_nil
def Bd := @List.flatMap_append
def Bc := @Bool.or_eq_true_iff
def EF := @List.getElem?_cons_zero
def EE := @Nat.add_sub_cancel_left
def xa := @Bool.and_self
def Bb := @BitVec.toNat_ofInt
def ED := @UInt32.toNat_shiftLeft
def HS := @Option.ite_none_left_eq_some
def EC := @List.contains_iff_mem
def y0 := @List.drop_zero
def wZ := @Int.pow_succ
def EB := @List.mem_append_left
def Ba := @Option.bind_none
def HR := @Array.getElem?_append_left
def EA := @List.mem_map_of_mem
def Ez := @List.replicate_zero
def HQ := @List.sublist_append_right
def HP := @List.extract_eq_take_drop
def A9 := @Nat.min_eq_left
def yZ := @Nat.mul_comm
def HO := @Array.getElem?_replicate
def yY := @List.all_nil
def HN := @List.getElem?_cons_succ
def Ey := @List.ext_getElem?
def Ex := @Int.toNat_natCast
def Ew := @List.nodup_append
def yX := @Nat.le_succ
def A8 := @Nat.add_assoc
def Ev := @Nat.shiftLeft_eq
def Eu := @List.any_eq_true
def Et := @Array.toList_inj
def Es := @Nat.mod_eq_of_lt
def Er := @List.cons_append
def HM := @List.getElem?_toArray
def Mm := @List.replicate_append_replicate
def Ep := @Option.some.inj
def Eo := @List.mem_filter
def Ml := @List.eq_nil_iff_forall_not_mem
def HL := @Array.toList_extract
def A0 := @Nat.succ_mul
def HK := @List.range_eq_range'
def En := @Int.natCast_pow
def AZ := @Int.lt_or_le
def HJ := @Bool.or_eq_false_iff
def HI := @List.replicate_succ
def Mj := @List.dropLast_concat_getLast
def AY := @Nat.le_zero
def AX := @Nat.sub_mul
def HH := @Nat.lt_or_gt_of_ne
def HG := @Array.foldl_toList
def Mi := @Nat.two_pow_add_eq_or_of_lt
def HF := @List.zip_cons_cons
def Em := @List.mapM_nil
def AW := @Array.ext'
def AU := @Nat.not_lt
def HE := @UInt32.toNat_inj
def HD := @Nat.min_eq_right
def HC := @List.drop_length
structure Ref where
 d:Nat
 t:Nat
 g:Nat
 k:Nat:=0
deriving DecidableEq,Inhabited
inductive AV where
 | v (x:Value)
 | agg (cs:List AV)
 | tup (vs:List AV)
 | bl (esz:Nat) (es:List AV) (cap:Option Nat)
 | bD (r:Ref) (off len:Nat) (cap:Option Nat)
 | dsl (r:Ref) (off len:Nat) (cap:Option Nat)
 | nsl (esz:Nat) (es:List AV) (cap:Option Nat)
 | fsl (esz:Nat) (es:List AV) (cap:Option Nat)
 | ptr (r:Ref) (i j:Nat)
 | iptr (esz:Nat) (es:List AV) (i j:Nat)
 | fn (f:Fn) (first captured:List AV)
 | ifc (t:TypeId) (x:AV)
 | yld (r:Ref)
 | mp (r:Ref)
 | ch (r:Ref)
 | uP (u:Value)
 | lp (f:FuncId) (nt:Nat) (ps:List Tmp) (assign body:Code) (tm:List AV)
def AV.undef:AV := .v Go.undef
instance:Inhabited AV:=⟨AV.undef⟩
def AV.cells:AV->List AV
 | .agg cs=>cs
 | x=>[x]
def AV.one:AV->Bool
 | .v (.tuple _) | .v (.agg _) | .agg _ | .tup _ | .fsl .. | .nsl .. | .lp .. => false
 | _=>true
structure aJ where
 esz:Nat
 es:List AV
 arr:Bool
 fN:Bool
deriving Inhabited
def scalar:Value->Bool
 | .bool _ | .int _ _ | .float _ _ | .complex _ _ _ | .string _=>true
 | .pointer none | .slice none 0 0 | .map none | .chan none | .nilFunc | .nilIface=>true
 | .tuple a=>a.isEmpty
 | _=>false
def fG(x:Value):Option AV:=if scalar x then some (.v x) else none
def ofValue:Value->Option AV
 | .agg cs=>(cs.toList.mapM fG).map .agg
 | .func f first captured=>if first.isEmpty&&captured.isEmpty then some (.fn f [] []) else none
 | .tuple a=>if a.isEmpty then some (.v (.tuple #[])) else (a.toList.mapM fG).map .tup
 | .iface t x=>(fG x).map (.ifc t)
 | x=>fG x
def DB:AV->Option Value
 | .v x=>some x
 | _=>none
def iy:AV->Option Value
 | .v x=>some x
 | .agg cs=>(cs.mapM DB).map λl => .agg l.toArray
 | _=>none
def aV{b:Type}(P:Program):Sem b->Option b
 | .pure a=>some a
 | .program k=>aV P (k P)
 | .mark _ k=>aV P k
 | _=>none
abbrev ab:=List (Ref × Option aJ)
abbrev cf:=Ref->Option aJ
def ab.get:ab->Ref->Option aJ
 | [],_=>none
 | (r',b) :: h,r=>if r'=r then b else ab.get h r
def ab.gen:ab->Nat->Nat->Nat
 | [],_,_=>0
 | (r',_) :: h,d,t=>if r'.d=d/\r'.t=t then r'.g+1 else ab.gen h d t
def ab.put:ab->Ref->Option aJ->ab
 | [],r,b=>[(r,b)]
 | (r',b') :: h,r,b=>if r'=r then (r,b) :: h else (r',b') :: ab.put h r b
def bZ:List AV->Nat->AV
 | [],_=>AV.undef
 | x :: _,0=>x
 | _ :: l,n+1=>bZ l n
def xj:List AV->Nat->AV->List AV
 | [],0,v=>[v]
 | [],n+1,v=>AV.undef :: xj [] n v
 | _ :: l,0,v=>v :: l
 | x :: l,n+1,v=>x :: xj l n v
structure St where
 tm:List AV
 hp:ab
def av(P:Program)(t:TypeId):Option Nat:=(P.info? t).map (·.size)
def ly(P:Program)(t:TypeId):Option Nat:=(P.info? t).map (·.bytes)
def ei(P:Program)(t:TypeId):Option AV:=((P.info? t).bind (·.zero)).bind ofValue
def eA(P:Program)(t:TypeId):Option Bool:=(P.underlying t).map fun | .struct _ | .array _ _=>true | _=>false
def oC(P:Program)(t:TypeId)(f:Nat):Option (Nat × TypeId):=
 match P.underlying t with
 | some (.struct a)=>(a[f]?).map λx=>(x.offset,x.type)
 | _=>none
def dV(P:Program)(t:TypeId):Option TypeId:=
 match P.underlying t with
 | some (.slice e)=>some e
 | _=>none
def mi(P:Program)(t:TypeId):Option (Nat × TypeId):=
 match P.underlying t with
 | some (.array n e)=>some (n,e)
 | _=>none
def cG(es:List AV)(i j n:Nat)(a:Bool):Option AV:=
 match es[i]? with
 | none=>none
 | some e=>
  if a then (if j+n<=e.cells.length/\0<n then some (.agg ((e.cells.drop j).take n)) else none) else e.cells[j]?
def patch(cs:List AV)(j:Nat)(new:List AV):List AV:=cs.take j++new++cs.drop (j+new.length)
def lM(e:AV)(j:Nat)(new:List AV):Option AV:=
 match e with
 | .agg cs=>if j+new.length<=cs.length then some (.agg (patch cs j new)) else none
 | _=>match j,new with
  | 0,[x]=>some x
  | _,_=>none
def fE(es:List AV)(i j:Nat)(new:List AV):Option (List AV):=
 match es[i]? with
 | none=>none
 | some e=>(lM e j new).map λa=>es.set i a
def view(g:cf):Nat->AV->Option AV
 | 0,_=>none
 | n+1,x=>
  match x with
  | .v x=>some (.v x)
  | .agg cs=>(cs.mapM (view g n)).map .agg
  | .tup cs=>(cs.mapM (view g n)).map .tup
  | .bl esz es cap=>some (.bl esz es cap)
  | .fsl .. => none
  | .iptr esz es i j=>some (.iptr esz es i j)
  | .bD r off len cap=>
   match g r with
   | some b=>if b.arr=true/\off+len<=b.es.length then some (.bl b.esz ((b.es.drop off).take len) cap) else none
   | none=>none
  | .nsl .. => none
  | .dsl r off len cap=>
   match g r with
   | some b=>if b.arr=false/\off+len<=b.es.length then (b.es.mapM (view g n)).map λes => .bl b.esz ((es.drop off).take len) cap else none
   | none=>none
  | .ptr r i j=>
   match g r with
   | some b=>if b.arr then some (.iptr b.esz b.es i j) else (b.es.mapM (view g n)).map λes => .iptr b.esz es i j
   | none=>none
  | .fn f a b=>match a.mapM (view g n),b.mapM (view g n) with
   | some a,some b=>some (.fn f a b)
   | _,_=>none
  | .ifc t x=>(view g n x).map (.ifc t)
  | .yld _ | .mp _ | .ch _ | .uP _ | .lp .. => none
def ad(g:cf):Nat->AV->List Ref
 | 0,_=>[]
 | n+1,x=>
  match x with
  | .agg cs | .tup cs=>cs.flatMap (ad g n)
  | .bD r _ _ _=>[r]
  | .dsl r _ _ _=>r :: (match g r with | some b=>b.es.flatMap (ad g n) | none=>[])
  | .ptr r _ _=>r :: (match g r with | some b=>if b.arr then [] else b.es.flatMap (ad g n) | none=>[])
  | .fn _ a b=>a.flatMap (ad g n)++b.flatMap (ad g n)
  | .ifc _ x=>ad g n x
  | .mp r=>[r]
  | .ch r=>[r]
  | _=>[]
def flat:Nat->AV->Bool
 | 0,_=>false
 | n+1,x=>
  match x with
  | .v _=>true
  | .agg cs | .tup cs=>cs.all (flat n)
  | .ifc _ x=>flat n x
  | .fn _ a b=>a.all (flat n)&&b.all (flat n)
  | _=>false
def bG(H:ab):List Ref->ab
 | []=>H
 | r :: rs=>match H.get r with
  | some b=>bG (H.put r (some { b with fN:=true})) rs
  | none=>bG H rs
def kX(g:cf)(a:List Ref):Bool:=a.all λr=>match g r with | some b=>b.fN | none=>false
def depth:Nat:=8
def aq(tm:List AV):Operand->Option AV
 | .tmp t=>some (bZ tm t)
 | .const v=>ofValue v
 | .func f=>some (.fn (.func f) [] [])
 | .global _=>none
def qK:AV->Option Int
 | .v (.int _ n)=>some n
 | _=>none
def zN:AV->Option Bool
 | .v (.bool b)=>some b
 | _=>none
def aX:Nat:=140737488355328
def bW(g:cf):AV->Option (Nat × List AV)
 | .v (.string s)=>some (1,s.data.toList.map λb => .v (.int .u8 b.toNat))
 | .bl esz es _=>some (esz,es)
 | .bD r off len _=>match g r with
  | some b=>if b.arr=true/\off+len<=b.es.length then some (b.esz,(b.es.drop off).take len) else none
  | none=>none
 | _=>none
def bounds(len:Nat)(cap:Option Nat)(lo hi a:Option Int):Option (Nat × Nat × Option Nat):=
 match a with
 | some m=>
  match hi with
  | some h=>if 0<=lo.getD 0/\lo.getD 0<=h/\h<=m/\m<=cap.getD len/\h<=len then some ((lo.getD 0).toNat,h.toNat,some (m.toNat - (lo.getD 0).toNat)) else none
  | none=>none
 | none=>if 0<=lo.getD 0/\lo.getD 0<=hi.getD len/\hi.getD len<=len then some ((lo.getD 0).toNat,(hi.getD len).toNat,cap.map (· - (lo.getD 0).toNat)) else none
def jR(tm:List AV):Option Operand->Option (Option Int)
 | none=>some none
 | some o=>match (aq tm o).bind qK with
  | some n=>some (some n)
  | none=>none
def vl(P:Program)(t:TypeId)(cs:List AV)(a:Nat):Option AV:=
 match eA P t,av P t with
 | some true,some n=>if a+n<=cs.length then some (.agg ((cs.drop a).take n)) else none
 | some false,_=>cs[a]?
 | _,_=>none
def qM(a:Nat->Option (Nat × Nat))(cells:List AV):List (Nat × AV)->Option (List AV)
 | []=>some cells
 | (i,v) :: rest=>
  match a i with
  | none=>none
  | some (off,size)=>
   if v.cells.length=size/\off+size<=cells.length then qM a (patch cells off v.cells) rest else none
def az(P:Program)(t:TypeId)(i:Nat):Option (Nat × Nat):=
 match oC P t i with
 | some (off,a)=>(av P a).map λn=>(off,n)
 | none=>none
def ic(P:Program)(t:TypeId):Option (List (Nat × Nat)):=
 match P.underlying t with
 | some (.struct a)=>a.toList.mapM λf=>(P.info? f.type).map λi=>(f.offset,i.size)
 | _=>none
def gq(es:List AV):List (Nat × AV)->Option (List AV)
 | []=>some es
 | (i,v) :: rest=>if i<es.length then gq (es.set i v) rest else none
def fj(tm:List AV)(ps:List (Nat × Operand)):Option (List (Nat × AV)):=
 ps.mapM λ(i,o)=>(aq tm o).map λx=>(i,x)
def rB(P:Program)(a:BinOp)(t:TypeId)(c b:Operand)(x y:Value):Option Value:=
 aV P (do eqGuard a t c b x y;binOp a t x y)
def pr:AV->Option Nat
 | .v (.slice none 0 0)=>some 0
 | .bl _ es _=>some es.length
 | .bD _ _ n _=>some n
 | .dsl _ _ n _=>some n
 | _=>none
def Fg(f:Value->Value->Sem Value)(P:Program)(args:List AV):Option AV:=
 match args.mapM DB with
 | some (x :: rest)=>(aV P (rest.foldlM f x)).bind fG
 | _=>none
def byteOf:AV->Option UInt8
 | .v (.int .u8 n)=>some (UInt8.ofNat n.toNat)
 | _=>none
abbrev gl:=Option (AV × List aJ)
def gJ(x:Option AV):gl:=x.map (·,[])
def Ch(d:Operand->Option AV)(c a b:Operand):gl:=
 match (d c).bind zN with
 | some true=>gJ (d a)
 | some false=>gJ (d b)
 | none=>none
def oG(P:Program)(r:Ref)(e:TypeId):gl:=
 match ei P e,av P e with
 | some z,some n=>if z.cells.length=n/\z.cells.all AV.one/\0<n then some (.ptr r 0 0,[⟨n,[z],false,false⟩]) else none
 | _,_=>none
def E5(P:Program)(r:Ref)(e:TypeId)(x:Option AV):gl:=
 match x,av P e with
 | some x,some n=>if x.cells.length=n/\x.cells.all AV.one/\0<n then some (.ptr r 0 0,[⟨n,[x],false,false⟩]) else none
 | _,_=>none
def kW(P:Program)(t:TypeId)(a:Option (List (Nat × AV))):gl:=
 match ei P t,a with
 | some (.agg z),some a=>
  match mi P t with
  | some (_,e)=>match av P e with
   | some n=>(qM (λi=>some (i * n,n)) z a).map λcs=>(.agg cs,[])
   | none=>none
  | none=>match ic P t with
   | some ps=>(qM (ps[·]?) z a).map λcs=>(.agg cs,[])
   | none=>none
 | _,_=>none
def dt(g:cf)(a:List (Nat × AV)):Option (List (Nat × AV)):=a.mapM λ(i,x)=>(view g depth x).map (i,·)
def ba(g:cf)(a:List AV):List Ref:=a.flatMap (ad g depth)
def mkSlice(P:Program)(g:cf)(t:TypeId)(n:Nat)(a:List (Nat × AV)):Option aJ:=
 match dV P t with
 | none=>none
 | some e=>match dt g a,ei P e,av P e with
  | some ws,some z,some s=>
   if 0<s/\n * s<=16777216/\z.cells.length=s/\z.cells.all AV.one/\ws.all (λp=>p.2.cells.length=s&&p.2.cells.all AV.one) then
    (gq (List.replicate n z) ws).map λes=>⟨s,es,true,false⟩
   else none
  | _,_,_=>none
def fQ(P:Program)(a:Bool)(g:cf)(r:Ref)(t:TypeId)(n:Nat)(c:Option (List (Nat × AV))):gl:=
 match c with
 | none=>none
 | some c=>if kX g (ba g (c.map (·.2))) then (mkSlice P g t n c).map λb=>(if a then (.bl b.esz b.es (some n),[]) else (.bD r 0 n (some n),[b])) else none
def lz(P:Program)(g:cf)(t:TypeId)(a:Option AV):gl:=
 match a,eA P t,av P t with
 | some (.ptr r' i j),some c,some n=>match g r' with
  | some b=>gJ (cG b.es i j n c)
  | none=>none
 | some (.iptr _ es i j),some c,some n=>gJ (cG es i j n c)
 | _,_,_=>none
def Gu(x:Option AV):gl:=
 match x with
 | some (.ptr r' i j)=>some (.ptr r' i j,[])
 | some (.iptr n es i j)=>some (.iptr n es i j,[])
 | some (.fn (.func f) a b)=>some (.fn (.func f) a b,[])
 | _=>none
def Az:AV->Bool
 | .bl .. | .bD .. | .dsl .. => true
 | _=>false
def jo:AV->Bool
 | .v (.slice none 0 0)=>true
 | _=>false
def bK(P:Program)(a:BinOp)(t:TypeId)(b c:Operand)(x y:Option AV):gl:=
 match x,y with
 | some x,some y=>
  if Az x&&jo y||Az y&&jo x then
   match P.underlying t,a with
   | some (.slice _),.eql=>some (.v (.bool false),[])
   | some (.slice _),.neq=>some (.v (.bool true),[])
   | _,_=>none
  else
   match iy x,iy y with
   | some x,some y=>gJ ((rB P a t b c x y).bind fG)
   | _,_=>none
 | _,_=>none
def Ru(P:Program)(a:UnOp)(x:Option AV):gl:=
 gJ (((x.bind DB).bind λx=>aV P (Op.unary a x)).bind fG)
def cI(P:Program)(t:TypeId):Bool:=
 match P.underlying t with
 | some (.slice e)=>(match P.underlying e with | some (.int .u8)=>true | _=>false)
 | _=>false
def isStr(P:Program)(t:TypeId):Bool:=match P.underlying t with | some .string=>true | _=>false
def bC(P:Program)(g:cf)(r:Ref)(src dst:TypeId)(x:Option AV):gl:=
 match x with
 | some (.v (.slice none 0 0))=>if cI P src&&isStr P dst then some (.v (.string .empty),[]) else none
 | some (.v (.string s))=>
  if isStr P src&&isStr P dst then some (.v (.string s),[])
  else if isStr P src&&cI P dst then
   (if s.size<=aX then some (.bD r 0 s.size none,[⟨1,s.data.toList.map λb => .v (.int .u8 b.toNat),true,false⟩]) else none)
  else none
 | some (.v x)=>gJ ((aV P (Go.convert src dst x)).bind fG)
 | some x=>if cI P src&&isStr P dst then
  match bW g x with
  | some (_,es)=>(es.mapM byteOf).map λl=>(.v (.string ⟨l.toArray⟩),[])
  | none=>none
  else if src == dst&&cI P src then
   match x with
   | .bD r' _ _ _=>(match g r' with
    | some b=>if b.esz=1 then some (x,[]) else none
    | none=>none)
   | _=>none
  else none
 | none=>none
def tK(P:Program)(t:TypeId)(x:Option AV):gl:=
 match P.underlying t with
 | some (.interface _)=>none
 | some _=>x.map λx=>(.ifc t x,[])
 | none=>none
def uB(f:Fn)(first captured:Option (List AV)):gl:=
 match first,captured with
 | some a,some b=>some (.fn f a b,[])
 | _,_=>none
def uy(P:Program)(r:Ref)(t:TypeId)(l c:Option AV):gl:=
 match dV P t,l.bind qK,c.bind qK with
 | some e,some l,some c=>match ei P e,av P e,ly P e with
  | some z,some s,some b=>
   if 0<=l/\l<=c/\c * b<=aX/\c<=9223372036854775807/\0<s/\z.cells.length=s/\z.cells.all AV.one then some (.bD r 0 l.toNat none,[⟨s,List.replicate l.toNat z,true,false⟩]) else none
  | _,_,_=>none
 | _,_,_=>none
def ca(P:Program)(g:cf)(t:TypeId)(x:Option AV)(lo hi a:Option (Option Int)):gl:=
 match lo,hi,a with
 | some lo,some hi,some a=>
  match x with
  | some (.v (.slice none 0 0))=>if ((dV P t).bind (av P)).isSome then (bounds 0 (some 0) lo hi a).map λ_=>(.v (.slice none 0 0),[]) else none
  | some (.v (.string s))=>if isStr P t&&a.isNone then (bounds s.size none lo hi none).map λ(l,h,_)=>(.v (.string (s.extract l h)),[]) else none
  | some (.bl esz es cap)=>if (dV P t).bind (av P)=some esz then (bounds es.length cap lo hi a).map λ(l,h,c)=>(.bl esz ((es.drop l).take (h - l)) c,[]) else none
  | some (.bD r' off len cap)=>(match g r' with
   | some b=>if (dV P t).bind (av P)=some b.esz then (bounds len cap lo hi a).map λ(l,h,c)=>(.bD r' (off+l) (h - l) c,[]) else none
   | none=>none)
  | some (.dsl r' off len cap)=>(match g r' with
   | some b=>if (dV P t).bind (av P)=some b.esz then (bounds len cap lo hi a).map λ(l,h,c)=>(.dsl r' (off+l) (h - l) c,[]) else none
   | none=>none)
  | _=>none
 | _,_,_=>none
def rz(P:Program)(g:cf)(t:TypeId)(x:Option AV)(lo hi a:Option (Option Int)):gl:=
 match lo,hi,a,x with
 | some lo,some hi,some none,some (.bD r' off len cap)=>(match g r' with
  | some b=>if (dV P t).bind (av P)=some b.esz/\0<=lo.getD 0/\lo.getD 0<=hi.getD len/\hi.getD len<=cap.getD len then
   some (.bD r' (off+(lo.getD 0).toNat) ((hi.getD len).toNat - (lo.getD 0).toNat) (cap.map (· - (lo.getD 0).toNat)),[]) else none
  | none=>none)
 | _,_,_,_=>none
def Gt(P:Program)(g:cf)(t:TypeId)(args:List AV):gl:=
 match args,dV P t with
 | [.bD r _ _ _,.bD r' _ _ _],some e=>(match g r,g r',av P e with
  | some b,some b',some z=>if r≠r'/\1<b.esz/\b.esz=z/\b'.esz=z then some (.v (.bool false),[]) else none
  | _,_,_=>none)
 | _,_=>none
def Ad(nI:FuncId->Option TypeId)(a:Bool)(f:Operand):Option TypeId:=match a,f with
 | false,.func b=>nI b
 | _,_=>none
@[simp] theorem tN(nI:FuncId->Option TypeId)(f:Operand):Ad nI true f=none:=by cases f<;>rfl
def jA(P:Program)(t:TypeId)(x:Option AV)(f:Nat):gl:=
 match az P t f with
 | some (off,s)=>if 0<s then
  match x with
  | some (.ptr r' i j)=>some (.ptr r' i (j+off),[])
  | some (.iptr n es i j)=>some (.iptr n es i (j+off),[])
  | _=>none
  else none
 | none=>none
def pE(P:Program)(t:TypeId)(x:Option AV)(f:Nat):gl:=
 match oC P t f,x with
 | some (off,a),some (.agg cs)=>gJ (vl P a cs off)
 | _,_=>none
def bE(P:Program)(g:cf)(t:TypeId)(x a:Option AV):gl:=
 match a.bind qK with
 | some k=>
  match dV P t with
  | some e=>match x,av P e with
   | some (.bl esz es _),some s=>if 0<=k/\k<es.length/\s=esz then some (.iptr esz es k.toNat 0,[]) else none
   | some (.bD r' off len _),some s=>(match g r' with
    | some b=>if 0<=k/\k<len/\s=b.esz then some (.ptr r' (off+k.toNat) 0,[]) else none
    | none=>none)
   | some (.dsl r' off len _),some s=>(match g r' with
    | some b=>if 0<=k/\k<len/\s=b.esz then some (.ptr r' (off+k.toNat) 0,[]) else none
    | none=>none)
   | _,_=>none
  | none=>match mi P t with
   | some (n,e)=>match x,av P e with
    | some (.ptr r' i j),some s=>if 0<=k/\k<n then some (.ptr r' i (j+k.toNat * s),[]) else none
    | some (.iptr esz es i j),some s=>if 0<=k/\k<n then some (.iptr esz es i (j+k.toNat * s),[]) else none
    | _,_=>none
   | none=>none
 | none=>none
def rV(P:Program)(t:TypeId)(x a:Option AV):gl:=
 match a.bind qK,x with
 | some k,some (.agg cs)=>(match mi P t with
  | some (n,e)=>(match av P e with
   | some s=>if 0<=k/\k<n then gJ (vl P e cs (k.toNat * s)) else none
   | none=>none)
  | none=>none)
 | some k,some (.v (.string s))=>if isStr P t/\0<=k then gJ ((s[k.toNat]?).map λb => .v (.int .u8 b.toNat)) else none
 | _,_=>none
def vS(P:Program)(x:Option AV)(a:TypeId)(ok:Bool):gl:=
 match P.underlying a,x with
 | some (.interface _),_=>none
 | some _,some (.ifc t y)=>
  if t=a then some ((if ok then .tup [y,.v (.bool true)] else y),[])
  else if ok then (ei P a).map λz=>(.tup [z,.v (.bool false)],[]) else none
 | some _,some (.v .nilIface)=>if ok then (ei P a).map λz=>(.tup [z,.v (.bool false)],[]) else none
 | _,_=>none
def pj(x:Option AV)(i:Nat):gl:=
 match x with
 | some (.tup a)=>gJ (a[i]?)
 | _=>none
def ml(a:List AV):aJ:=⟨0,.v (.bool true) :: a,false,false⟩
def kN(g:cf)(r:Ref):Option (List AV):=match g r with
 | some ⟨0,.v (.bool true) :: a,false,_⟩=>some a
 | _=>none
def CQ(cap:Nat)(b:Bool)(a:List AV):aJ:=⟨0,.v (.bool false) :: .v (.int .i64 cap) :: .v (.bool b) :: a,false,false⟩
def Ox(g:cf)(r:Ref):Option (Nat × Bool × List AV):=match g r with
 | some ⟨0,.v (.bool false) :: .v (.int .i64 cap) :: .v (.bool a) :: buf,false,_⟩=>some (cap.toNat,a,buf)
 | _=>none
def F9(P:Program)(t:TypeId):Option TypeId:=match P.underlying t with
 | some (.chan _ e)=>some e
 | _=>none
def Ic(P:Program)(t:TypeId):Option (TypeId × TypeId):=match P.underlying t with
 | some (.map k e)=>some (k,e)
 | _=>none
def CO:AV->Option Value
 | .tup [k,_]=>iy k
 | _=>none
def Fo:AV->Option AV
 | .tup [_,v]=>some v
 | _=>none
def yq(P:Program)(a:Bool)(b:TypeId)(k:Value)(c:List Value):Option (Option Nat):=
 match aV P (Instr.checkKey a 10000 b k) with
 | some _=>(aV P (Instr.findKey b k (c.map λx=>⟨x,Go.undef,0⟩))).map λo=>o.map (·.1)
 | none=>none
def lN(P:Program)(g:cf)(t:TypeId)(x k:Option AV)(ok:Bool):gl:=
 match Ic P t,x,k.bind iy with
 | some (c,e),some (.mp r),some d=>(match kN g r with
  | some a=>(match a.mapM CO with
   | some b=>(match yq P b.isEmpty c d b with
    | some (some i)=>(a[i]?.bind Fo).map λv=>((if ok then .tup [v,.v (.bool true)] else v),[])
    | some none=>(ei P e).map λz=>((if ok then .tup [z,.v (.bool false)] else z),[])
    | none=>none)
   | none=>none)
  | none=>none)
 | _,_,_=>none
def vR(P:Program)(g:cf)(t:Option TypeId)(r:Ref):gl:=
 match t.bind (Ic P),kN g r with
 | some _,some a=>some (.v (.int .i64 a.length),[])
 | _,_=>none
def JI:Value->Value->Bool
 | .bool a,.bool b=>a == b
 | .int k n,.int k' d=>decide (k=k')&&decide (n=d)
 | .string s,.string t=>decide (s=t)
 | .slice none a b,.slice none c b'=>Nat.beq a c&&Nat.beq b b'
 | .nilFunc,.nilFunc=>true
 | .nilIface,.nilIface=>true
 | _,_=>false
def Ej:Nat->AV->AV->Bool
 | 0,_,_=>false
 | n+1,x,y=>
  match x,y with
  | .v u,.v v=>JI u v
  | .agg cs,.agg ds=>Nat.beq cs.length ds.length&&(cs.zip ds).all λp=>Ej n p.1 p.2
  | .bl z es c,.bl b es' a=>Nat.beq z b&&decide (c=a)&&Nat.beq es.length es'.length&&(es.zip es').all λp=>Ej n p.1 p.2
  | _,_=>false
def Ca(r r':Ref):Bool:=Nat.beq r.t r'.t&&Nat.beq r.g r'.g&&Nat.beq r.d r'.d&&Nat.beq r.k r'.k
def wS:Nat->AV->AV->Bool
 | 0,_,_=>false
 | n+1,x,y=>
  match x,y with
  | .v u,.v v=>JI u v
  | .agg cs,.agg ds=>Nat.beq cs.length ds.length&&(cs.zip ds).all λp=>wS n p.1 p.2
  | .tup cs,.tup ds=>Nat.beq cs.length ds.length&&(cs.zip ds).all λp=>wS n p.1 p.2
  | .bl z es c,.bl h es' e=>Nat.beq z h&&decide (c=e)&&Nat.beq es.length es'.length&&(es.zip es').all λp=>wS n p.1 p.2
  | .bD r a b c,.bD r' d b' e=>Ca r r'&&Nat.beq a d&&Nat.beq b b'&&decide (c=e)
  | .dsl r a b c,.dsl r' d b' e=>Ca r r'&&Nat.beq a d&&Nat.beq b b'&&decide (c=e)
  | .ptr r i j,.ptr r' l m=>Ca r r'&&Nat.beq i l&&Nat.beq j m
  | .mp r,.mp r'=>Ca r r'
  | .ch r,.ch r'=>Ca r r'
  | .fn (.func f) a b,.fn (.func k) d b'=>Nat.beq f k&&(Nat.beq a.length d.length&&(a.zip d).all λp=>wS n p.1 p.2)&&(Nat.beq b.length b'.length&&(b.zip b').all λp=>wS n p.1 p.2)
  | .ifc t x,.ifc t' g=>Nat.beq t t'&&wS n x g
  | _,_=>false
def FB(k k':aJ):Bool:=Nat.beq k.esz k'.esz&&k.arr == k'.arr&&k.fN == k'.fN&&Nat.beq k.es.length k'.es.length&&(k.es.zip k'.es).all λp=>wS 8 p.1 p.2
def CD(H a:ab):Bool:=H.all λp=>match H.get p.1 with
 | none=>true
 | some k=>match a.get p.1 with
  | none=>false
  | some k'=>FB k k'
def NY(a b:List AV):Bool:=Nat.beq a.length b.length&&(a.zip b).all λp=>Ej 8 p.1 p.2
def Fh:List (FuncId × List AV × AV)->FuncId->List AV->Option AV
 | [],_,_=>none
 | (g,xs,y) :: T,f,args=>if Nat.beq g f&&NY xs args then some y else Fh T f args
def af(r:Ref):Nat->AV->List aJ->AV × List aJ
 | 0,x,bs=>(x,bs)
 | n+1,x,bs=>
  match x with
  | .fsl esz es cap=>if esz=0 then (.mp { r with k:=bs.length},bs++[⟨0,es,false,false⟩]) else (.bD { r with k:=bs.length} 0 es.length cap,bs++[⟨esz,es,true,false⟩])
  | .nsl esz es cap=>let (ys,bs):=es.foldl (λ(p:List AV × List aJ) c=>let (y,bs):=af r n c p.2;(p.1++[y],bs)) ([],bs);(.dsl { r with k:=bs.length} 0 es.length cap,bs++[⟨esz,ys,false,false⟩])
  | .agg cs=>let (ys,bs):=cs.foldl (λ(p:List AV × List aJ) c=>let (y,bs):=af r n c p.2;(p.1++[y],bs)) ([],bs);(.agg ys,bs)
  | .tup cs=>let (ys,bs):=cs.foldl (λ(p:List AV × List aJ) c=>let (y,bs):=af r n c p.2;(p.1++[y],bs)) ([],bs);(.tup ys,bs)
  | .ifc t x=>let (y,bs):=af r n x bs;(.ifc t y,bs)
  | x=>(x,bs)
inductive pY where
 | fn (f:FuncId)
 | yld (r:Ref)
def pG(m:Nat):Bool:=m == 1||m == 3
def yh:Nat->AV->Bool
 | 0,_=>false
 | n+1,x=>
  match x with
  | .v _=>true
  | .agg cs | .tup cs=>cs.all (yh n)
  | .fsl z es _=>z != 0&&es.all (flat depth)
  | .bl _ es _=>es.isEmpty
  | .ifc _ x=>yh n x
  | _=>false
structure Hw where
 f:ab->ab->Bool
 ok : ∀H H',f H H'=true ->∀q k,H.get q=some k->H'.get q=some k
def IT:Hw:=⟨λ_ _=>false,λ_ _ h=>by cases h⟩
structure Env where
 P:Program
 strict:Oper->Bool
 apart:Array Oper->List (Tmp × Tmp)
 mode:FuncId->Nat
 allowed:FuncId->Bool
 spec:FuncId->List AV->Option AV
 ok:Array Oper->Bool:=λ_=>true
 fN:Oper->Bool:=λ_=>false
 wide:Oper->Bool:=λ_=>false
 nI:FuncId->Option TypeId:=λ_=>none
 thrSpec:FuncId->List AV->ab->Option (AV × ab):=λ_ _ _=>none
 sm:Hw:=IT
 deep:Oper->Bool:=λ_=>false
def iZ(E:Env)(pc:FuncId->List AV->Option AV)(g:cf)(r:Ref)(f:Option AV)(args:List AV):gl:=
 match f with
 | some (.fn (.func a) first captured)=>
  if E.mode a=2 then none else
  match (first++args++captured).mapM (view g depth) with
  | some xs=>match pc a xs with
   | some y=>if flat depth y||kX g (ba g (first++args++captured))||(E.mode a == 3&&yh depth y) then some (af r depth y []) else none
   | none=>none
  | none=>none
 | _=>none
def De(P:Program)(t:Option TypeId)(x:AV):gl:=
 match t with
 | none=>none
 | some t=>match mi P t with
  | some (n,_)=>some (.v (.int .i64 n),[])
  | none=>if isStr P t then (match x with | .v (.string s)=>some (.v (.int .i64 s.size),[]) | _=>none)
   else if (dV P t).isSome then (pr x).map λn=>(.v (.int .i64 n),[]) else none
def kn(P:Program)(g:cf)(e:TypeId)(x:AV):Option (Nat × List AV):=
 match x with
 | .v (.slice none 0 0)=>(av P e).map λz=>(z,[])
 | .v (.int _ n)=>match ei P e,av P e with
  | some w,some z=>if 0<=n/\n<=aX/\w.cells.length=z/\w.cells.all AV.one then some (z,List.replicate n.toNat w) else none
  | _,_=>none
 | x=>bW g x
def isNum:AV->Bool
 | .v (.int _ _)=>true
 | _=>false
def isInt(P:Program)(t:TypeId):Bool:=match P.underlying t with | some (.int _)=>true | _=>false
def dy(P:Program)(g:cf)(r:Ref)(t t':Option TypeId)(s x:AV):gl:=
 match t.bind (dV P) with
 | none=>none
 | some e=>
  if (t'.bind P.underlying).isNone\/(t'.map (isInt P)).getD false≠isNum x then none else
  match av P e,ly P e,ei P e,kn P g e x with
  | some z,some by',some zz,some (a,new)=>
   if a≠z\/z=0\/by'=0\/zz.cells.length≠z then none else
   match s with
   | .v (.slice none 0 0)=>if new=[] then some (s,[]) else if new.length * by'<=aX then some (.bD r 0 new.length none,[⟨z,new,true,false⟩]) else none
   | .bl n es cap=>if n≠z then none else if new=[] then some (s,[]) else
    match cap with
    | some k=>if k<es.length+new.length/\(es.length+new.length) * by'<=aX then some (.bD r 0 (es.length+new.length) none,[⟨z,es++new,true,false⟩]) else none
    | none=>none
   | .bD r' off len cap=>(match g r' with
    | some b=>if b.esz≠z\/b.arr=false then none else if new=[] then some (s,[]) else
     (match cap with
     | some k=>if off+len<=b.es.length/\k<len+new.length/\(len+new.length) * by'<=aX then
      some (.bD r 0 (len+new.length) none,[⟨z,(b.es.drop off).take len++new,true,false⟩]) else none
     | none=>none)
    | none=>none)
   | _=>none
  | _,_,_,_=>none
def SP(P:Program)(t:Option TypeId)(x:AV):gl:=
 match t.bind (dV P),x with
 | some _,.v (.slice none 0 0)=>some (.v (.int .i64 0),[])
 | some _,.bl _ _ (some k)=>some (.v (.int .i64 k),[])
 | some _,.bD _ _ _ (some k)=>some (.v (.int .i64 k),[])
 | _,_=>none
def cW(P:Program)(c:Bool)(g:cf)(r:Ref)(b:Builtin)(a:Array TypeId)(args:List AV):gl:=
 match b,args with
 | .len,[.mp r']=>if c then none else vR P g a[0]? r'
 | .len,[x]=>De P a[0]? x
 | .min,args=>gJ (Fg Builtin.min2 P args)
 | .max,args=>gJ (Fg Builtin.max2 P args)
 | .append,[s,x]=>dy P g r a[0]? a[1]? s x
 | .cap,[x]=>SP P a[0]? x
 | _,_=>none
def I9(b:Bool)(bs:List aJ):List aJ:=if b then bs.map (λk => { k with fN:=true}) else bs
def bR(E:Env)(pc:FuncId->List AV->Option AV)(d:Bool)(g:cf)(tm:List AV)(r:Ref)(o:Oper):gl:=
 match o.op with
 | .move x | .assign x=>gJ (aq tm x)
 | .pick c a b=>Ch (aq tm) c a b
 | .alloc e=>oG E.P r e
 | .box e x=>E5 E.P r e (aq tm x)
 | .build t ps=>kW E.P t (fj tm ps.toList)
 | .buildSlice t n ps=>fQ E.P (d && !E.strict o) g r t n (fj tm ps.toList)
 | .load t a=>lz E.P g t (aq tm a)
 | .nilCheck x=>Gu (aq tm x)
 | .binOp op t m q _=>bK E.P op t m q (aq tm m) (aq tm q)
 | .unOp op _ x=>Ru E.P op (aq tm x)
 | .convert src dst x=>bC E.P g r src dst (aq tm x)
 | .makeInterface t x=>tK E.P t (aq tm x)
 | .makeFunc f first captured=>uB f (first.toList.mapM (aq tm)) (captured.toList.mapM (aq tm))
 | .makeSlice t l c=>uy E.P r t (aq tm l) (aq tm c)
 | .makeMap _ none=>some (.mp r,[ml []])
 | .lookup t x k ok=>lN E.P g t (aq tm x) (aq tm k) ok
 | .slice t x lo hi j=>cond (E.wide o && !d) (rz E.P g t (aq tm x) (jR tm lo) (jR tm hi) (jR tm j)) (ca E.P g t (aq tm x) (jR tm lo) (jR tm hi) (jR tm j))
 | .fieldAddr t x f=>jA E.P t (aq tm x) f
 | .field t x f=>pE E.P t (aq tm x) f
 | .indexAddr t x ix=>bE E.P g t (aq tm x) (aq tm ix)
 | .index t x ix=>rV E.P t (aq tm x) (aq tm ix)
 | .typeAssert x _ h ok=>vS E.P (aq tm x) h ok
 | .extract x i=>pj (aq tm x) i
 | .call c=>
  match c.args.toList.mapM (aq tm) with
  | none=>none
  | some args=>
   match c.callee with
   | .value f=>(match Ad E.nI d f with
    | some t=>Gt E.P g t args
    | none=>(iZ E pc g r (aq tm f) args).map λp=>(p.1,I9 (E.fN o) p.2))
   | .invoke _ _=>none
   | .builtin b=>cW E.P (d&&(E.strict o || !(match c.args.toList with | [.tmp _]=>true | _=>false))) g r b c.argTypes args
 | _=>none
def keyed(r:Ref):Nat->List aJ->ab->ab
 | _,[],g=>g
 | k,b :: bs,g=>keyed r (k+1) bs (({ r with k:=k},some b) :: g)
abbrev cb:=Option (AV × ab)
def iu(P:Program)(H:ab)(t:TypeId)(a x:Option AV):cb:=
 match a,x,av P t with
 | some (.ptr r' i j),some x,some n=>
  match H.get r' with
  | some b=>
   if x.cells.length=n/\x.cells.all AV.one/\b.fN=false then
    (if b.arr=true then
     match view H.get depth x with
     | some y=>if r'∈ad H.get depth x then none else if y.cells.all AV.one=true then (fE b.es i j y.cells).map λes=>(AV.undef,(bG H (ad H.get depth x)).put r' (some { b with es})) else none
     | none=>none
    else (fE b.es i j x.cells).map λes=>(AV.undef,H.put r' (some { b with es})))
   else none
  | none=>none
 | _,_,_=>none
def iM(P:Program)(H:ab)(r:Ref)(t:TypeId)(n:Nat)(a:Option (List (Nat × AV))):cb:=
 match a with
 | none=>none
 | some a=>(mkSlice P H.get t n a).map λb=>(.bD r 0 n (some n),(r,some b) :: bG H (ba H.get (a.map (·.2))))
def kK(E:Env)(pc:FuncId->List AV->Option AV)(tc:pY->List AV->ab->cb)(H:ab)(r:Ref)(f:Option AV)(args:List AV):cb:=
 match f with
 | some (.fn (.func g) first captured)=>
  if E.mode g=2 then tc (.fn g) (first++args++captured) H else
  match (first++args++captured).mapM (view H.get depth) with
  | some xs=>(pc g xs).map λy=>((af r depth y []).1,keyed r 0 (af r depth y []).2 (bG H (ba H.get (first++args++captured))))
  | none=>none
 | some (.yld q)=>tc (.yld q) args H
 | _=>none
def oe(b:Bool)(sm:Hw)(H:ab)(x:cb):cb:=match b,x with
 | true,some (y,a)=>if flat depth y&&(CD H a||sm.f H a) then some (y,H) else none
 | _,x=>x
def gT(P:Program)(H:ab)(t t':Option TypeId)(s x:AV):cb:=
 match t.bind (dV P) with
 | none=>none
 | some e=>
  if (t'.bind P.underlying).isNone\/(t'.map (isInt P)).getD false≠isNum x then none else
  match av P e,ly P e,ei P e,kn P H.get e x with
  | some z,some by',some zz,some (a,new)=>
   if a≠z\/z=0\/by'=0\/new=[]\/zz.cells.length≠z then none else
   match s with
   | .bD r' off len none=>(match H.get r' with
    | some b=>if off=0/\b.arr=true/\b.esz=z/\len=b.es.length/\(len+new.length) * by'<=aX then
     some (.bD ⟨r'.d,r'.t,H.gen r'.d r'.t,0⟩ 0 (len+new.length) none,(⟨r'.d,r'.t,H.gen r'.d r'.t,0⟩,some ⟨z,b.es++new,true,b.fN⟩) :: H.put r' none) else none
    | none=>none)
   | _=>none
  | _,_,_,_=>none
def FU(P:Program)(H:ab)(t:Option TypeId)(dst x:AV):cb:=
 match t.bind (dV P) with
 | none=>none
 | some e=>match av P e with
  | none=>none
  | some z=>match (if jo x then some (z,[]) else bW H.get x) with
   | none=>none
   | some (a,src)=>if a≠z\/z=0 then none else
    match dst with
    | .v (.slice none 0 0)=>some (.v (.int .i64 0),H)
    | .bD r' off len _=>(match H.get r' with
     | some b=>
      if b.arr=true/\b.esz=z/\b.fN=false/\off+len<=b.es.length then
       some (.v (.int .i64 (Nat.min src.length len:Nat)),H.put r' (some { b with es:=b.es.take off++src.take (Nat.min src.length len)++b.es.drop (off+Nat.min src.length len)})) else none
     | none=>none)
    | _=>none
def Bs(P:Program)(H:ab)(t:Option TypeId)(dst x:AV):cb:=
 match (t.bind (dV P)).bind (av P),dst,x with
 | some z,.bD r off len _,.bD r2 a tU _=>(match H.get r,H.get r2 with
  | some b,some b2=>
   if b.arr=true/\b2.arr=true/\b.esz=z/\b2.esz=z/\0<z/\b.fN=false/\off<=b.es.length/\a+Nat.min tU len<=b2.es.length then
    some (.v (.int .i64 (Nat.min tU len:Nat)),H.put r (some { b with es:=b.es.take off++(b2.es.drop a).take (Nat.min tU len)++b.es.drop (off+Nat.min tU len)})) else none
  | _,_=>none)
 | _,_,_=>none
def gm(P:Program)(H:ab)(t:TypeId)(m k x:Option AV):cb:=
 match Ic P t,m,k,x with
 | some (d,_),some (.mp r),some k,some x=>(match iy k,kN H.get r with
  | some c,some a=>(match a.mapM CO with
   | some b=>(match yq P false d c b with
    | some (some i)=>if ((b[i]?).map λe=>Instr.sameBits 10000 e c)=some true then some (AV.undef,H.put r (some (ml (a.set i (.tup [k,x]))))) else none
    | some none=>some (AV.undef,H.put r (some (ml (a++[.tup [k,x]]))))
    | none=>none)
   | none=>none)
  | _,_=>none)
 | _,_,_,_=>none
def mW(P:Program)(H:ab)(t:TypeId)(m k:Option AV):cb:=
 match Ic P t,m,k with
 | some (d,f),some (.mp r),some k=>(match iy k,kN H.get r with
  | some c,some a=>(match a.mapM CO with
   | some b=>(match yq P false d c b with
    | some (some i)=>if ((b[i]?).map λe=>Instr.sameBits 10000 e c)=some true then (a[i]?.bind Fo).map λv=>(.tup [v,.v (.int .i64 i)],H.put r (some (ml (a.set i (.tup [k,v]))))) else none
    | some none=>(ei P f).map λz=>(.tup [z,.v (.int .i64 a.length)],H.put r (some (ml (a++[.tup [k,z]]))))
    | none=>none)
   | none=>none)
  | _,_=>none)
 | _,_,_=>none
def jj(H:ab)(m s x:Option AV):cb:=
 match m,s,x with
 | some (.mp r),some (.v (.int _ n)),some x=>(match kN H.get r with
  | some a=>if 0<=n then (match a[n.toNat]? with
   | some (.tup [k,_])=>some (AV.undef,H.put r (some (ml (a.set n.toNat (.tup [k,x])))))
   | _=>none) else none
  | none=>none)
 | _,_,_=>none
def vG(P:Program)(H:ab)(r:Ref)(t:TypeId)(n:Option AV):cb:=
 match n,(F9 P t).bind (ly P) with
 | some (.v (.int _ n)),some b=>if 0<=n/\n<=1000000/\b<=1000000 then some (.ch r,keyed r 0 [CQ n.toNat false []] H) else none
 | _,_=>none
def Bp(H:ab)(c x:Option AV):cb:=
 match c,x with
 | some (.ch r),some x=>(match Ox H.get r with
  | some (cap,false,buf)=>if buf.length<cap/\flat depth x=true then some (AV.undef,H.put r (some (CQ cap false (buf++[x])))) else none
  | _=>none)
 | _,_=>none
def Tq(ok:Bool)(x:AV)(b:Bool):AV:=if ok then .tup [x,.v (.bool b)] else x
def DA(P:Program)(H:ab)(t:TypeId)(c:Option AV)(ok:Bool):cb:=
 match c,(F9 P t).bind (ei P) with
 | some (.ch r),some z=>(match Ox H.get r with
  | some (cap,a,x :: buf)=>some (Tq ok x true,H.put r (some (CQ cap a buf)))
  | some (_,true,[])=>some (Tq ok z false,H)
  | _=>none)
 | _,_=>none
def xT(P:Program)(H:ab)(r:Ref)(t:TypeId)(n:Nat)(a:Option (List (Nat × AV))):cb:=
 match a,dV P t with
 | some [(0,.agg cs)],some e=>(match ei P e,av P e with
  | some z,some s=>if n=1/\0<s/\s<=16777216/\z.cells.length=s/\z.cells.all AV.one=true/\cs.length=s/\cs.all AV.one=true then some (.dsl r 0 1 (some 1),(r,some ⟨s,[.agg cs],false,false⟩) :: H) else none
  | _,_=>none)
 | _,_=>none
def JH(P:Program)(H:ab)(r:Ref)(t t':Option TypeId)(s x:AV):cb:=
 match t.bind (dV P),x with
 | some e,.dsl rx 0 m _=>
  if (t'.bind P.underlying).isNone\/(t'.map (isInt P)).getD false≠false then none else
  (match av P e,ly P e,ei P e,H.get rx with
  | some z,some by',some zz,some a=>
   if a.arr=true\/a.esz≠z\/z=0\/by'=0\/a.es=[]\/zz.cells.length≠z\/m≠a.es.length then none else
   (match s with
   | .v (.slice none 0 0)=>if m * by'<=aX then some (.dsl r 0 m none,(r,some ⟨z,a.es,false,false⟩) :: H.put rx none) else none
   | .dsl r' 0 len none=>(match H.get r' with
    | some b=>if b.arr=false/\b.esz=z/\len=b.es.length/\r'≠rx/\(len+m) * by'<=aX then
     some (.dsl ⟨r'.d,r'.t,H.gen r'.d r'.t,0⟩ 0 (len+m) none,(⟨r'.d,r'.t,H.gen r'.d r'.t,0⟩,some ⟨z,b.es++a.es,false,b.fN⟩) :: (H.put rx none).put r' none) else none
    | none=>none)
   | _=>none)
  | _,_,_,_=>none)
 | _,_=>none
def Ak(E:Env)(a:Bool)(H:ab)(tm:List AV)(r:Ref)(o:Oper):Option cb:=
 if a || !E.deep o then none else
 match o.op with
 | .buildSlice t n ps=>some (xT E.P H r t n (fj tm ps.toList))
 | .call c=>(match c.callee with
  | .builtin .append=>some (match c.args.toList.mapM (aq tm) with
   | some [s,x]=>JH E.P H r c.argTypes[0]? c.argTypes[1]? s x
   | _=>none)
  | _=>none)
 | _=>none
def Kp:Op->Bool
 | .send .. | .recv .. => true
 | _=>false
def evalW(E:Env)(pc:FuncId->List AV->Option AV)(tc:pY->List AV->ab->cb)(H:ab)(tm:List AV)(r:Ref)(o:Oper):cb:=
 match o.op with
 | .store t a x=>iu E.P H t (aq tm a) (aq tm x)
 | .mapUpdate t m k x | .insert t m k x=>gm E.P H t (aq tm m) (aq tm k) (aq tm x)
 | .mapEntry t m k=>mW E.P H t (aq tm m) (aq tm k)
 | .entryStore _ m s x=>jj H (aq tm m) (aq tm s) (aq tm x)
 | .buildSlice t n ps=>iM E.P H r t n (fj tm ps.toList)
 | .makeChan t n=>vG E.P H r t (aq tm n)
 | .send c x=>Bp H (aq tm c) (aq tm x)
 | .recv t c ok=>DA E.P H t (aq tm c) ok
 | .call c=>
  match c.args.toList.mapM (aq tm) with
  | none=>none
  | some args=>
   match c.callee with
   | .value f=>oe (E.fN o) E.sm H (kK E pc tc H r (aq tm f) args)
   | .invoke _ _=>none
   | .builtin b=>
    match b,args with
    | .append,[s,x]=>gT E.P H c.argTypes[0]? c.argTypes[1]? s x
    | .copy,[dst,x]=>cond (E.wide o) (Bs E.P H c.argTypes[0]? dst x) (FU E.P H c.argTypes[0]? dst x)
    | _,_=>none
 | _=>none
def wanted(ops:Array Oper)(tm:List AV)(o:Oper):Option Bool:=
 match o.guard with
 | none=>some true
 | some (j,a)=>
  match (ops[j]?).bind (·.dst) with
  | some t=>(match bZ tm t with
   | .v (.bool b)=>some (b == a)
   | .v (.tuple c)=>if c.isEmpty then some false else none
   | _=>none)
  | none=>some false
def Sc(E:Env):Op->Bool
 | .store .. | .mapUpdate .. | .insert .. | .mapEntry .. | .entryStore .. => true
 | .call c=>match c.callee with
  | .builtin .append | .builtin .copy=>true
  | .value (.func g)=>E.mode g == 2
  | .value (.tmp _)=>true
  | _=>false
 | _=>false
def wi:Op->Bool
 | .buildSlice .. => true
 | _=>false
def gj(E:Env)(o:Oper):Bool:=(!E.strict o&&Sc E o.op)||(E.fN o&&wi o.op)
def ct(nt:Nat)(tm:List AV)(dst:Option Tmp)(x:AV):Option (List AV):=
 match dst with
 | none=>some tm
 | some d=>if d<nt then some (xj tm d x) else none
def evalOp(E:Env)(pc:FuncId->List AV->Option AV)(tc:pY->List AV->ab->cb)(nt dep:Nat)(a:Bool)(ops:Array Oper)(o:Oper)(st:St):Option St:=
 match wanted ops st.tm o with
 | none=>none
 | some false=>(ct nt st.tm o.dst AV.undef).map λtm => { st with tm}
 | some true=>
  match bR E pc a st.hp.get st.tm ⟨dep,o.dst.getD 0,st.hp.gen dep (o.dst.getD 0),0⟩ o with
  | some (x,bs)=>(ct nt st.tm o.dst x).map λtm=>⟨tm,keyed ⟨dep,o.dst.getD 0,st.hp.gen dep (o.dst.getD 0),0⟩ 0 bs st.hp⟩
  | none=>
   if a && !gj E o then none else
   match evalW E pc tc st.hp st.tm ⟨dep,o.dst.getD 0,st.hp.gen dep (o.dst.getD 0),0⟩ o with
   | some (x,H)=>(ct nt st.tm o.dst x).map λtm=>⟨tm,H⟩
   | none=>none
def uG(E:Env)(pc:FuncId->List AV->Option AV)(tc:pY->List AV->ab->cb)(nt dep:Nat)(a:Bool)(ops:Array Oper)(o:Oper)(st:St):Option St:=
 match Ak E a st.hp st.tm ⟨dep,o.dst.getD 0,st.hp.gen dep (o.dst.getD 0),0⟩ o with
 | none=>evalOp E pc tc nt dep a ops o st
 | some w=>(match wanted ops st.tm o with
  | none=>none
  | some false=>(ct nt st.tm o.dst AV.undef).map λtm => { st with tm}
  | some true=>(match w with
   | some (x,H)=>(ct nt st.tm o.dst x).map λtm=>⟨tm,H⟩
   | none=>none))
theorem Jc{E:Env}{pc:FuncId->List AV->Option AV}{tc:pY->List AV->ab->cb}{nt dep:Nat}{ops:Array Oper}{o:Oper}{st:St}:uG E pc tc nt dep true ops o st=evalOp E pc tc nt dep true ops o st:=rfl
def kU(E:Env)(pc:FuncId->List AV->Option AV)(tc:pY->List AV->ab->cb)(nt dep:Nat)(a:Bool)(ops:Array Oper):List Oper->St->Option St
 | [],st=>some st
 | o :: rest,st=>match uG E pc tc nt dep a ops o st with
  | some b=>kU E pc tc nt dep a ops rest b
  | none=>none
def jz(P:Program)(st:St):ResultVar->Option AV
 | .tmp t=>some (bZ st.tm t)
 | .cell a t=>match bZ st.tm a,eA P t,av P t with
  | .ptr r i j,some g,some n=>match st.hp.get r with
   | some b=>cG b.es i j n g
   | none=>none
  | _,_,_=>none
def sQ(P:Program)(fn:Func)(st:St):Option AV:=
 match fn.results.toList.mapM (jz P st) with
 | some []=>some (.v (.tuple #[]))
 | some [x]=>some x
 | some xs=>some (.tup xs)
 | none=>none
def codeOk(ok:Array Oper->Bool):Code->Bool
 | .region _ ops draw => !draw||ok ops
 | .seq a b | .cond _ a b=>codeOk ok a&&codeOk ok b
 | .block _ c | .loop c | .scope c=>codeOk ok c
 | .rangeFunc _ _ a b=>codeOk ok a&&codeOk ok b
 | _=>true
def lE(ok:Array Oper->Bool):Item->Bool
 | .code c | .inLoop c=>codeOk ok c
 | _=>true
def qO(E:Env)(run:Option Ref->Nat->Nat->List Item->St->Option St)(dep:Nat)(f:FuncId)(args:List AV)(H:ab):Option (AV × ab):=
 if E.allowed f then
  match E.P.funcs[f]? with
  | some fn=>match fn.body with
   | some c=>if args.length<=fn.ntmps then
    match run none fn.ntmps dep [.code c] ⟨args,H⟩ with
    | some st=>(sQ E.P fn st).map (·,st.hp)
    | none=>none
    else none
   | none=>none
  | none=>none
 else none
def bj(g:cf):Nat->AV->Option AV
 | 0,_=>none
 | n+1,x=>
  match x with
  | .agg cs=>(cs.mapM (bj g n)).map .agg
  | .tup cs=>(cs.mapM (bj g n)).map .tup
  | .ifc t x=>(bj g n x).map (.ifc t)
  | .bD r 0 len cap=>
   match g r with
   | some b=>if b.arr=true/\len<=b.es.length then some (if b.fN then .bl b.esz (b.es.take len) cap else .fsl b.esz (b.es.take len) cap) else none
   | none=>none
  | .dsl r 0 len cap=>
   match g r with
   | some b=>if b.arr=false/\len=b.es.length then (if b.fN then (b.es.mapM (view g n)).map λes => .bl b.esz es cap else (b.es.mapM (bj g n)).map λes => .nsl b.esz es cap) else none
   | none=>none
  | .mp r=>
   match kN g r with
   | some a=>if a.all (flat depth) then some (.fsl 0 (.v (.bool true) :: a) none) else none
   | none=>none
  | x=>view g (n+1) x
def ck(E:Env)(run:Option Ref->Nat->Nat->List Item->St->Option St)(f:FuncId)(args:List AV):Option AV:=
 match E.spec f args with
 | some y=>some y
 | none=>match qO E run 0 f args [] with
  | some (x,H)=>if pG (E.mode f)=true then (if (ad H.get depth x).Nodup then bj H.get depth x else none) else view H.get depth x
  | none=>none
def c9(st:Nat)(a:AV):aJ:=⟨0,[.v (.int .i64 st),a],false,false⟩
def sU(H:ab)(r:Ref):Option (Nat × AV):=match H.get r with
 | some ⟨0,[.v (.int .i64 st),inf],_,_⟩=>some (st.toNat,inf)
 | _=>none
def qF(tm:List AV):List Tmp->List AV->List AV
 | t :: a,x :: xs=>qF (xj tm t x) a xs
 | _,_=>tm
def vP(E:Env)(run:Option Ref->Nat->Nat->List Item->St->Option St)(dep:Nat)(r:Ref)(args:List AV)(H:ab):Option (AV × ab):=
 match sU H r with
 | some (0,.lp f nt ps assign body tm)=>
  if args.length=ps.length/\ps.all (· < nt)=true/\codeOk E.ok assign=true/\codeOk E.ok body=true then
   (match run (some r) nt dep [.code assign,.beginRound,.code body] ⟨qF tm ps args,H⟩ with
   | some st=>(match sU st.hp r with
    | some (0,_)=>some (.v (.bool true),st.hp)
    | some (n+2,_)=>some (.v (.bool false),st.hp)
    | _=>none)
   | none=>none)
  else none
 | _=>none
def dC(E:Env)(run:Option Ref->Nat->Nat->List Item->St->Option St)(dep:Nat)(t:pY)(args:List AV)(H:ab):Option (AV × ab):=
 match t with
 | .fn f=>(match E.thrSpec f args H with
  | some z=>some z
  | none=>if E.mode f=2 then qO E run (dep+1) f args H else none)
 | .yld r=>vP E run (dep+1) r args H
def rY(rd:Option Ref)(st:St)(n:Nat):Option St:=match rd with
 | none=>if n=2 then some st else none
 | some r=>match sU st.hp r with
  | some (1,inf)=>some { st with hp:=st.hp.put r (some (c9 n inf))}
  | _=>none
def nQ(E:Env)(ops:Array Oper):List (Tmp × Tmp):=E.apart ops
def iY:AV->Option Ref
 | .ptr r _ _=>some r
 | .bD r _ _ _=>some r
 | .dsl r _ _ _=>some r
 | .mp r=>some r
 | .ch r=>some r
 | _=>none
def z9(tm:List AV)(p:Tmp × Tmp):Bool:=match iY (bZ tm p.1),iY (bZ tm p.2) with
 | some r,some r'=>decide (r≠r')
 | _,_=>true
def sM(st:St)(o:Oper):Bool:=match o.op with
 | .store _ (.tmp t) _=>(match bZ st.tm t with
  | .ptr r _ _=>(match st.hp.get r with
   | some b => !b.arr
   | none=>false)
  | _=>true)
 | _=>true
def R6:Op->Option Tmp
 | .buildSlice _ _ ps=>(match ps.toList with
  | [(_,.tmp t)]=>some t
  | _=>none)
 | _=>none
def CT(E:Env)(st:St)(o:Oper):Bool := !(E.fN o&&wi o.op)||(match R6 o.op with
 | some t=>(match bZ st.tm t with
  | .bD .. => true
  | .v _=>true
  | _=>false)
 | none=>false)
def oZ(E:Env)(ops:Array Oper)(st:St):Bool:=(nQ E ops).isEmpty||((nQ E ops).all (z9 st.tm)&&(ops.toList.all (sM st)&&ops.toList.all (CT E st)))
def bI(E:Env):Nat->(rd:Option Ref)->(nt dep:Nat)->List Item->St->Option St
 | 0,_,_,_,_,_=>none
 | n+1,rd,nt,dep,items,st=>
  match items with
  | []=>(match rd with
   | none=>some st
   | some _=>rY rd st 0)
  | .beginRound :: k=>(match rd with
   | none=>none
   | some r=>match sU st.hp r with
    | some (0,inf)=>bI E n rd nt dep k { st with hp:=st.hp.put r (some (c9 1 inf))}
    | _=>none)
  | .code c :: k=>
   (match c with
   | .skip | .label _=>bI E n rd nt dep k st
   | .ret=>rY rd st 2
   | .seq a b=>bI E n rd nt dep (.code a :: .code b :: k) st
   | .cond c a b=>
    (match (aq st.tm c).bind zN with
    | some true=>bI E n rd nt dep (.code a :: k) st
    | some false=>bI E n rd nt dep (.code b :: k) st
    | none=>none)
   | .block id b=>bI E n rd nt dep (.code b :: .inBlock id :: k) st
   | .scope b=>bI E n rd nt dep (.code b :: .inScope b :: k) st
   | .loop b=>bI E n rd nt dep (.code b :: .inLoop b :: k) st
   | .exit id=>(match exitTo id k with
    | some k'=>bI E n rd nt dep k' st
    | none=>if rd.isSome then rY rd st (id+3) else none)
   | .region _ ops draw=>(match kU E (ck E (bI E n)) (dC E (bI E n) dep) nt dep draw ops ops.toList st with
    | some d=>if draw && !oZ E ops d then none else bI E n rd nt dep k d
    | none=>none)
   | .rangeFunc g ps assign body=>(match rd,aq st.tm g with
    | none,some (.fn (.func gi) first captured)=>
     (match dC E (bI E n) dep (.fn gi) (first++[.yld ⟨dep,nt,st.hp.gen dep nt,0⟩]++captured)
      ((⟨dep,nt,st.hp.gen dep nt,0⟩,some (c9 0 (.lp 0 nt ps.toList assign body st.tm))) :: st.hp) with
     | some (_,e)=>(match sU e ⟨dep,nt,st.hp.gen dep nt,0⟩ with
      | some (0,_)=>bI E n rd nt dep k ⟨st.tm,e.put ⟨dep,nt,st.hp.gen dep nt,0⟩ none⟩
      | some (2,_)=>some ⟨st.tm,e.put ⟨dep,nt,st.hp.gen dep nt,0⟩ none⟩
      | some (id+3,_)=>(match exitTo id k with
       | some k'=>bI E n rd nt dep k' ⟨st.tm,e.put ⟨dep,nt,st.hp.gen dep nt,0⟩ none⟩
       | none=>none)
      | _=>none)
     | none=>none)
    | _,_=>none)
   | _=>none)
  | .inLoop b :: k=>bI E n rd nt dep (.code b :: .inLoop b :: k) st
  | .inBlock _ :: k | .inScope _ :: k=>bI E n rd nt dep k st
  | _=>none
def dP(o:Oper):List Nat:=(o.after.toList.filter (Region.binds .any)).map (·.on)
def xu(a:List Nat):List Nat->Nat
 | []=>0
 | j :: b=>(2 ^ j ||| a.getD j 0) ||| xu a b
def cN:List Oper->List Nat->List Nat
 | [],acc=>acc
 | o :: os,acc=>cN os (acc++[xu acc (dP o)])
def IW(c:Call):Bool:=match c.args.toList with
 | [.tmp _]=>true
 | _=>false
def iz:Op->Bool
 | .move _ | .assign _ | .pick .. | .binOp .. | .unOp .. | .makeInterface .. | .makeFunc .. | .fieldAddr .. | .field .. | .index .. | .typeAssert .. | .extract .. | .nilCheck _ | .build .. => false
 | .call c=>match c.callee with
  | .builtin .len=>IW c
  | .builtin .min | .builtin .max=>false
  | _=>true
 | _=>true
def GP:Op->Bool
 | .call c=>(match c.callee with
  | .builtin .len=>true
  | _=>false)
 | _=>false
def sf(E:Env)(o:Oper):Bool:=iz o.op && !(E.strict o&&GP o.op)
def gx(ops:Array Oper)(i:Nat):Option Tmp:=(ops[i]?).bind (·.dst)
def lk(E:Env)(ops:Array Oper)(i:Nat):Bool:=(List.range (i+1)).any λj=>match ops[j]? with
 | some o=>gj E o
 | none=>false
def tf(ops:Array Oper)(A:List Nat)(oi a:Oper)(i j:Nat):Bool:=
 (a.dst.isNone||oi.dst != a.dst) &&
 (match a.dst with | some d => !(oi.looksAt ops).contains d||(A.getD i 0).testBit j | none=>true) &&
 (match oi.dst with | some d => !(a.looksAt ops).contains d||(A.getD i 0).testBit j | none=>true)
def IN(E:Env)(ops:Array Oper)(A:List Nat)(oi a:Oper)(i j:Nat):Bool:=
 tf ops A oi a i j &&
 (!(sf E oi&&sf E a&&lk E ops i)||(A.getD i 0).testBit j)
def yc(E:Env)(ops:Array Oper):Bool:=
 (List.range ops.size).all λi=>match ops[i]? with
  | some oi=>(dP oi).all (· < i)&&(!sf E oi||gj E oi||oi.dst.isSome) &&
   (List.range i).all λj=>match ops[j]? with
    | some a=>IN E ops (cN ops.toList []) oi a i j
    | none=>true
  | none=>true
def wP(P:Program):Op->Option Tmp
 | .load _ (.tmp t)=>some t
 | .indexAddr _ (.tmp t) _=>some t
 | .slice _ (.tmp t) _ _ _=>some t
 | .convert _ dst (.tmp t)=>if cI P dst then none else some t
 | .lookup _ (.tmp t) _ _=>some t
 | .call c=>match c.callee with
  | .builtin .len=>(match c.args.toList with
   | [.tmp t]=>some t
   | _=>none)
  | _=>none
 | _=>none
def storeT:Op->Option Tmp
 | .store _ (.tmp t) _=>some t
 | _=>none
def CW:Op->Option Tmp
 | .call c=>match c.callee with
  | .builtin .append=>(match c.args.toList with
   | .tmp t :: _=>some t
   | _=>none)
  | _=>none
 | _=>none
def Ly:Op->Option Tmp
 | .mapUpdate _ (.tmp t) _ _=>some t
 | .insert _ (.tmp t) _ _=>some t
 | .mapEntry _ (.tmp t) _=>some t
 | .entryStore _ (.tmp t) _ _=>some t
 | _=>none
def BH(o:Op):Option Tmp:=match Ly o with
 | some t=>some t
 | none=>CW o
def mR(E:Env)(o:Oper):Bool:=E.fN o && !E.strict o&&(match o.op with
 | .call c=>(match c.callee with
  | .value (.func g)=>E.mode g == 2
  | _=>false)
 | _=>false)
def cls(E:Env)(o:Oper):Nat:=
 if sf E o then (if (storeT o.op).isSome then 2 else if (wP E.P o.op).isSome then 1 else if gj E o then 4 else 3) else 0
def kj(E:Env)(o:Oper):Option Tmp:=match storeT o.op with
 | some t=>some t
 | none=>match wP E.P o.op with
  | some t=>some t
  | none=>if wi o.op then R6 o.op else BH o.op
def settled(E:Env)(ops:Array Oper)(oi c:Oper):Bool:=match kj E oi,kj E c with
 | some a,some b=>(nQ E ops).contains (a,b)||(nQ E ops).contains (b,a)
 | _,_=>false
def blind(E:Env)(o:Oper):Bool:=cls E o == 3&&(match o.op with
 | .alloc _ | .makeMap _ none=>true
 | .call c=>c.args.toList.isEmpty&&(match c.callee with
  | .value (.func _)=>true
  | _=>false)
 | _=>false)
def I3(E:Env)(o:Oper):Bool:=cls E o == 3&&(match o.op with
 | .alloc _ | .makeMap _ none=>true
 | _=>false)
def lR(E:Env)(oi a:Oper):Bool:=I3 E oi&&((CW a.op).isSome&&a.dst.isSome)
def nc(E:Env)(oi a:Oper):Bool:=(cls E oi == 2&&Nat.ble 3 (cls E a) && !blind E a)||(cls E a == 2&&Nat.ble 3 (cls E oi) && !blind E oi)||(Nat.ble 3 (cls E oi)&&Nat.ble 3 (cls E a)&&(cls E oi == 4||cls E a == 4) && !lR E oi a && !lR E a oi)
def yn(b a:Nat):Bool:=(b == 2&&(a == 1||a == 2))||(a == 2&&b == 1)||(b == 1&&a == 4)||(b == 4&&a == 1)
def IV(E:Env)(ops:Array Oper)(A:List Nat)(oi a:Oper)(i j:Nat):Bool:=
 tf ops A oi a i j &&
 (!nc E oi a||(A.getD i 0).testBit j) &&
 (!yn (cls E oi) (cls E a)||mR E oi||mR E a||(A.getD i 0).testBit j||settled E ops oi a)
def Ij(ops:Array Oper)(i:Nat)(t:Option Tmp):Bool:=match t with
 | some t=>(List.range ops.size).all λk=>gx ops k != some t||decide (k<i)
 | none=>false
def J9(E:Env)(ops:Array Oper)(i:Nat)(o:Oper):Bool:=match cls E o with
 | 0=>true
 | 3=>o.dst.isSome
 | _=>mR E o||Ij ops i (kj E o)
def NZ(E:Env)(ops:Array Oper):Bool := !(nQ E ops).isEmpty &&
 (List.range ops.size).all λi=>match ops[i]? with
  | some oi=>(dP oi).all (· < i)&&J9 E ops i oi &&
   (List.range i).all λj=>match ops[j]? with
    | some a=>IV E ops (cN ops.toList []) oi a i j
    | none=>true
  | none=>true
def zJ(E:Env)(ops:Array Oper):Bool:=yc E ops||NZ E ops
theorem lB{d:Type}{P:Program}{s:Sem d} : ∀ {a:d},aV P s=some a ->∀w,s.run P w = .ok a w:=by
 induction s with
 | pure a=>intro b h w;simp[aV]at h;subst h;rfl
 | program k c=>intro a h w;exact c P h w
 | mark m k c=>intro a h w;exact c h w
 | _=>intro a h;simp[aV]at h
theorem fg{e g:Type}{f:e->Option g} : ∀ {l:List e} {c:List g},l.mapM f=some c->c.length=l.length:=by
 intro l
 induction l with
 | nil=>intro c h;simp at h;subst h;rfl
 | cons a l j=>
  intro c h
  simp only[kI,od,o9,fD]at h
  obtain⟨b,_,bs,d,i⟩:=h
  simp at i
  subst i
  simp[j d]
theorem lO{j e:Type}{f:j->Option e} : ∀ {l:List j} {d:List e},l.mapM f=some d ->∀(i:Nat)(y:e),d[i]?=some y ->∃x,l[i]?=some x/\f x=some y:=by
 intro l
 induction l with
 | nil=>intro d h i y c;simp at h;subst h;simp at c
 | cons a l m=>
  intro d h i y c
  simp only[kI,od,o9,fD]at h
  obtain⟨b,n,bs,g,k⟩:=h
  simp at k
  subst k
  cases i with
  | zero=>simp at c;subst c;exact⟨a,rfl,n⟩
  | succ i=>simp at c;simpa using m g i y c
theorem jq{c e:Type}{f:c->Option e}{l:List c}{b:List e}(h:l.mapM f=some b)(i:Nat)(x:c)(d:l[i]?=some x) : ∃y,b[i]?=some y/\f x=some y:=by
 have g:=fg h
 have hi:i<b.length:=by rw[g];exact(dE.1 d).1
 obtain⟨k,a,j⟩:=lO h i b[i] (cw hi)
 rw[d]at a
 cases a
 exact⟨_,cw hi,j⟩
abbrev Mem:=Nat->Nat->Option Value
structure Loc where
 b:Nat
 esz:Nat
 n:Nat
abbrev Map:=Ref->Option Loc
def cQ:Map:=λ_=>none
inductive VR (M:Mem):Map->AV->Value->Prop
 | v {ι x} (h:scalar x=true):VR M ι (.v x) x
 | agg {ι cs vs} (hl:cs.length=vs.size) (h : ∀(i:Nat) c u,cs[i]?=some c->vs[i]?=some u->VR M ι c u):VR M ι (.agg cs) (.agg vs)
 | tup {ι cs vs} (h0:cs≠[]) (hl:cs.length=vs.size) (h : ∀(i:Nat) c u,cs[i]?=some c->vs[i]?=some u->VR M ι c u):VR M ι (.tup cs) (.tuple vs)
 | bl {ι esz es cap a c} (cell:Nat->Nat->Value) (hs:a.spot=none\/es=[]) (hc:es.length<=c) (hk : ∀k,cap=some k->c=k)
  (hm : ∀i j,i<es.length->j<esz->M a.block (a.off+(i * esz+j))=some (cell i j)/\(cell i j).oneCell'=true)
  (he : ∀e∈es,e.cells.length=esz)
  (h : ∀(i j:Nat) e x,es[i]?=some e->e.cells[j]?=some x->VR M cQ x (cell i j)):VR M ι (.bl esz es cap) (.slice (some a) es.length c)
 | bD {ι r off len cap l a c} (hr:ι r=some l) (hb:a.block=l.b) (hs:a.spot=none) (ha:c=0\/a.off=off * l.esz) (hc:len<=c) (hn:c=0\/off+c<=l.n)
  (hk : ∀k,cap=some k->c=k) (hz:0<l.esz):VR M ι (.bD r off len cap) (.slice (some a) len c)
 | dsl {ι r off len cap l a c} (hr:ι r=some l) (hb:a.block=l.b) (hs:a.spot=none) (ha:c=0\/a.off=off * l.esz) (hc:len<=c) (hn:c=0\/off+c<=l.n)
  (hk : ∀k,cap=some k->c=k) (hz:0<l.esz):VR M ι (.dsl r off len cap) (.slice (some a) len c)
 | ptr {ι r i j l} (hr:ι r=some l) (hz:0<l.esz):VR M ι (.ptr r i j) (.pointer (some ⟨l.b,i * l.esz+j,none⟩))
 | iptr {ι esz es i j b o} (cell:Nat->Nat->Value)
  (hm : ∀i j,i<es.length->j<esz->M b (o+(i * esz+j))=some (cell i j)/\(cell i j).oneCell'=true)
  (he : ∀e∈es,e.cells.length=esz)
  (h : ∀(i j:Nat) e x,es[i]?=some e->e.cells[j]?=some x->VR M cQ x (cell i j)):VR M ι (.iptr esz es i j) (.pointer (some ⟨b,o+(i * esz+j),none⟩))
 | fn {ι f a b a' b'} (ha:a.length=a'.size) (hb:b.length=b'.size) (h : ∀(i:Nat) c u,a[i]?=some c->a'[i]?=some u->VR M ι c u)
  (h' : ∀(i:Nat) c u,b[i]?=some c->b'[i]?=some u->VR M ι c u):VR M ι (.fn f a b) (.func f a' b')
 | ifc {ι t x u} (h:VR M ι x u):VR M ι (.ifc t x) (.iface t u)
 | yld {ι r l} (hr:ι r=some l) (hz:l.esz=0):VR M ι (.yld r) (.func (.yield l.b) #[] #[])
 | mp {ι r l} (hr:ι r=some l) (hz:l.esz=0):VR M ι (.mp r) (.map (some l.b))
 | ch {ι r l} (hr:ι r=some l) (hz:l.esz=0):VR M ι (.ch r) (.chan (some l.b))
 | uP {ι u} (h:u.oneCell'=true):VR M ι (.uP u) u
theorem VR.mono{M M':Mem}(B : ∀b o x,M b o=some x->M' b o=some x){ι:Map}{x:AV}{u:Value}(h:VR M ι x u) :
 ∀a:Map,(∀r l,ι r=some l->a r=some l)->VR M' a x u:=by
 induction h with
 | v h=>intro a _;exact .v h
 | agg z _ k=>intro a hi;exact .agg z λi c u d p=>k i c u d p a hi
 | tup C z _ k=>intro a hi;exact .tup C z λi c u d p=>k i c u d p a hi
 | bl cell t d w hm he _ k=>
  intro a hi
  exact .bl cell t d w (λi j n m=>⟨B _ _ _ (hm i j n m).1,(hm i j n m).2⟩) he λi j e x n m=>k i j e x n m cQ (λ_ _ h=>h)
 | bD f q t s d y w g=>intro a hi;exact .bD (hi _ _ f) q t s d y w g
 | dsl f q t s d y w g=>intro a hi;exact .dsl (hi _ _ f) q t s d y w g
 | ptr f g=>intro a hi;exact .ptr (hi _ _ f) g
 | yld f g=>intro a hi;exact .yld (hi _ _ f) g
 | mp f g=>intro a hi;exact .mp (hi _ _ f) g
 | ch f g=>intro a hi;exact .ch (hi _ _ f) g
 | uP h=>intro a _;exact .uP h
 | iptr cell hm he _ k=>
  intro a hi
  exact .iptr cell (λi j n m=>⟨B _ _ _ (hm i j n m).1,(hm i j n m).2⟩) he λi j e x n m=>k i j e x n m cQ (λ_ _ h=>h)
 | fn s q _ _ k A=>intro a hi;exact .fn s q (λi c u d p=>k i c u d p a hi) λi c u d p=>A i c u d p a hi
 | ifc _ k=>intro a hi;exact .ifc (k a hi)
theorem VR.up{M:Mem}{x:AV}{u:Value}(h:VR M cQ x u)(ι:Map):VR M ι x u:=h.mono (λ_ _ _ h=>h) ι (λ_ _ h=>by cases h)
def jD(M:Mem)(ι:Map)(a:List AV)(us:List Value):Prop:=a.length=us.length /\∀(i:Nat) x u,a[i]?=some x->us[i]?=some u->VR M ι x u
theorem jD.nil{M:Mem}{ι:Map}:jD M ι [] []:=⟨rfl,λi x u h=>by simp at h⟩
theorem jD.cons{M:Mem}{ι:Map}{x:AV}{u:Value}{d:List AV}{us:List Value}(h:VR M ι x u)(c:jD M ι d us):jD M ι (x :: d) (u :: us):=
 ⟨by simp[c.1],λi y v a b=>by
  cases i with
  | zero=>simp at a b;subst a;subst b;exact h
  | succ i=>simp at a b;exact c.2 i y v a b⟩
theorem jD.append{M:Mem}{ι:Map}{c d:List AV}{us f:List Value}(h:jD M ι c us)(e:jD M ι d f):jD M ι (c++d) (us++f):=
 ⟨by simp[h.1,e.1],λi y v b a=>by
  rcases dH i c.length with hi | hi
  ·rw[ia hi]at b
   rw[ia (h.1 ▸ hi)]at a
   exact h.2 i y v b a
  ·rw[iL hi]at b
   rw[iL (h.1 ▸ hi)]at a
   rw[<-h.1]at a
   exact e.2 _ y v b a⟩
theorem jD.mono{M M':Mem}{ι a:Map}{d:List AV}{us:List Value}(h:jD M ι d us)(g : ∀b o x,M b o=some x->M' b o=some x)(c : ∀r l,ι r=some l->a r=some l):jD M' a d us:=
 ⟨h.1,λi x u f e=>(h.2 i x u f e).mono g a c⟩
theorem jD.take{M:Mem}{ι:Map}{d:List AV}{us:List Value}(h:jD M ι d us)(n:Nat):jD M ι (d.take n) (us.take n):=
 ⟨by simp[h.1],λi x u a b=>by
  rw[uW]at a b
  split at a
  ·rename_i c;rw[if_pos c]at b;exact h.2 i x u a b
  ·cases a⟩
theorem jD.drop{M:Mem}{ι:Map}{c:List AV}{us:List Value}(h:jD M ι c us)(n:Nat):jD M ι (c.drop n) (us.drop n):=
 ⟨by simp[h.1],λi x u b a=>by
  rw[wA]at b a
  exact h.2 _ x u b a⟩
theorem VR.mP{M:Mem}{ι:Map}{cs:List AV}{b:Array Value}:VR M ι (.agg cs) (.agg b)↔jD M ι cs b.toList:=
 ⟨λh=>by cases h with | agg d h=>exact⟨by simpa using d,λi x u e a=>h i x u e (by simpa using a)⟩,
  λh => .agg (by simpa using h.1) λi c u f a=>h.2 i c u f (by simpa using a)⟩
theorem VR.cells{M:Mem}{ι:Map}{x:AV}{u:Value}(h:VR M ι x u):jD M ι x.cells u.cells.toList:=by
 have one : ∀ {x:AV} {u:Value},VR M ι x u->x.cells=[x]->u.cells = #[u]->jD M ι x.cells u.cells.toList:=by
  intro x u h k l
  rw[k,l]
  exact jD.cons h jD.nil
 cases h with
 | agg m h=>exact⟨by simpa [AV.cells,Value.cells] using m,λi x u k l=>h i x u (by simpa [AV.cells] using k) (by simpa [Value.cells] using l)⟩
 | v h=>
  refine one (.v h) rfl ?_
  cases u<;>first | rfl | (simp[scalar]at h)
 | tup o m h=>exact one (.tup o m h) rfl rfl
 | bl cell e c f hm he h=>exact one (.bl cell e c f hm he h) rfl rfl
 | bD a g e d c j f b=>exact one (.bD a g e d c j f b) rfl rfl
 | dsl a g e d c j f b=>exact one (.dsl a g e d c j f b) rfl rfl
 | ptr a b=>exact one (.ptr a b) rfl rfl
 | yld a b=>exact one (.yld a b) rfl rfl
 | mp a b=>exact one (.mp a b) rfl rfl
 | ch a b=>exact one (.ch a b) rfl rfl
 | uP h=>exact one (.uP h) rfl (by cases u<;>first | rfl | (cases h))
 | iptr cell hm he h=>exact one (.iptr cell hm he h) rfl rfl
 | fn d g h n=>exact one (.fn d g h n) rfl rfl
 | ifc h=>exact one (.ifc h) rfl rfl
theorem VR.one{M:Mem}{ι:Map}{x:AV}{u:Value}(h:VR M ι x u)(a:x.one=true):u.oneCell'=true:=by
 cases h with
 | v h=>cases u<;>first | rfl | (simp[AV.one]at a)
 | agg b h=>simp[AV.one]at a
 | tup c b h=>simp[AV.one]at a
 | bl=>rfl
 | bD=>rfl
 | dsl=>rfl
 | ptr=>rfl
 | iptr=>rfl
 | fn=>rfl
 | ifc=>rfl
 | yld=>rfl
 | mp=>rfl
 | ch=>rfl
 | uP h=>exact h
theorem lC{M:Mem}{ι:Map}{u:Value}{x:AV}(h:fG u=some x):VR M ι x u:=by
 unfold fG at h
 split at h
 ·cases h;exact .v (by assumption)
 ·cases h
theorem yj{M:Mem}{ι:Map}{us:List Value}{b:List AV}(h:us.mapM fG=some b):jD M ι b us:=
 ⟨fg h,λi x u d c=>by
  obtain⟨f,a,e⟩:=lO h i x d
  rw[c]at a;cases a
  exact lC e⟩
theorem gp{M:Mem}{ι:Map}{u:Value}{x:AV}(h:ofValue u=some x):VR M ι x u:=by
 cases u with
 | agg cs=>
  simp only[ofValue,aZ]at h
  obtain⟨xs,d,rfl⟩:=h
  exact VR.mP.2 (yj d)
 | func f a b=>
  simp only[ofValue]at h
  split at h
  ·rename_i g
   cases h
   simp at g
   obtain⟨rfl,rfl⟩:=g
   exact .fn rfl rfl (λi c u j=>by simp at j) (λi c u j=>by simp at j)
  ·cases h
 | tuple o=>
  simp only[ofValue]at h
  split at h
  ·rename_i k
   simp at k
   subst k
   cases h
   exact .v rfl
  ·rename_i k
   simp only[aZ]at h
   obtain⟨xs,d,rfl⟩:=h
   have l:=yj (M:=M) (ι:=ι) d
   refine .tup ?_ (by simpa using l.1) λi c u j m=>l.2 i c u j (by simpa using m)
   intro e
   subst e
   have:=l.1
   simp at this
   exact k (by simpa using FN this.symm)
 | iface t x=>
  simp only[ofValue,aZ]at h
  obtain⟨y,n,rfl⟩:=h
  exact .ifc (lC n)
 | _=>exact lC (by simpa [ofValue] using h)
theorem Ia{M:Mem}{ι:Map}{x:AV}{u v:Value}(h:VR M ι x u)(a:DB x=some v):u=v:=by
 cases h<;>simp[DB]at a
 exact a
theorem qD{M:Mem}{ι:Map}{x:AV}{u v:Value}(h:VR M ι x u)(e:iy x=some v):u=v:=by
 cases h<;>simp[iy]at e
 ·exact e
 ·rename_i cs f m k
  obtain⟨l,a,rfl⟩:=e
  congr 1
  apply zS
  intro i
  rcases dH i f.size with hi | hi
  ·have b:=fg a
   have d:i<l.length:=by omega
   obtain⟨c,j,g⟩:=lO a i l[i] (cw d)
   have:=Ia (k i c f[i] j (ir hi)) g
   simp[this,ir hi,cw d]
  ·have b:=fg a
   rw[Array.getElem?_eq_none hi]
   simp
   omega
def aJ.map(k:aJ)(ι:Map):Map:=if k.arr then cQ else ι
def xF(z a:Nat)(fz:Nat × Nat):Prop:=(∀o,o<a ->¬(fz.1<=o/\(o<fz.2\/fz.2<fz.1)))/\(1<z ->¬(fz.1<=a/\a<fz.2))
theorem xF.zero(z n:Nat):xF z n (0,0):=⟨λo _ h=>by simp at h,λ_ h=>by simp at h⟩
structure dU (M:Mem) (ι:Map) (w:World) (l:Loc) (k:aJ):Prop where
 esz:l.esz=k.esz
 heap : ∃arr T fz,w.heap[l.b]?=some (.cells arr T fz)/\arr.size=l.n * k.esz/\xF k.esz arr.size fz /\
  ∀(i j:Nat) e x,k.es[i]?=some e->e.cells[j]?=some x ->∃u,arr[i * k.esz+j]?=some u/\u.oneCell'=true/\VR M (k.map ι) x u
 len:k.es.length<=l.n
 cells : ∀e∈k.es,e.cells.length=k.esz
 frozen : ∀o x,M l.b o=some x->k.fN=true/\o<k.es.length * k.esz
def xY(n:Nat)(r:Loop):Prop:=match n with
 | 0=>r.state = .ready/\r.pending=none
 | 1=>r.state = .busy
 | 2=>r.state = .done/\r.pending=some .ret
 | id+3=>r.state = .done/\r.pending=some (.exit id)
def C1(M:Mem)(ι:Map)(w:World)(l:Loc)(k:aJ):Prop:=
 ∃(n nt:Nat) (ps:List Tmp) (assign body:Code) (tm:List AV) (r:Loop),k.esz=0/\k.arr=false/\k.es=[.v (.int .i64 n),.lp 0 nt ps assign body tm]/\w.heap[l.b]?=some (.loop r)/\r.params=ps.toArray/\r.assign=assign/\r.body=body /\
  r.tmps.size=nt/\(∀t,VR M ι (bZ tm t) (r.tmps.getD t undef))/\xY n r
def Hz(M:Mem)(ι:Map)(w:World)(l:Loc)(k:aJ):Prop:=
 ∃(c:List AV) (a:Array MapEntry),k.esz=0/\k.arr=false/\k.es = .v (.bool true) :: c/\w.heap[l.b]?=some (.map a a.size)/\a.size=c.length /\
  ∀(i:Nat) ent e,c[i]?=some ent->a[i]?=some e ->∃d f,ent = .tup [d,f]/\iy d=some e.key/\VR M ι f e.val/\e.born=i
def C3(M:Mem)(ι:Map)(w:World)(l:Loc)(k:aJ):Prop:=
 ∃(cap s r:Nat) (c:Bool) (a:List AV) (arr:Array Value),k.esz=0/\k.arr=false/\k.es = .v (.bool false) :: .v (.int .i64 cap) :: .v (.bool c) :: a/\w.heap[l.b]?=some (.chan cap arr c s r false) /\
  arr.size=a.length /\∀(i:Nat) x u,a[i]?=some x->arr[i]?=some u->VR M ι x u
def lb(M:Mem)(ι:Map)(w:World)(l:Loc)(k:aJ):Prop:=C1 M ι w l k\/Hz M ι w l k\/C3 M ι w l k
structure mg (M:Mem) (ι:Map) (w:World) (l:Loc) (k:aJ):Prop where
 esz:l.esz=k.esz
 cellsOk:0<k.esz->dU M ι w l k
 objOk:k.esz=0->lb M ι w l k
 frozen : ∀o x,M l.b o=some x->k.fN=true/\o<k.es.length * k.esz
theorem dU.LY{M:Mem}{ι:Map}{w:World}{l:Loc}{k:aJ}(h:dU M ι w l k)(a:0<k.esz):mg M ι w l k:=⟨h.esz,λ_=>h,λe=>by omega,h.frozen⟩
theorem lb.zero{M:Mem}{ι:Map}{w:World}{l:Loc}{k:aJ}(h:lb M ι w l k):k.esz=0/\k.arr=false:=by
 rcases h with ⟨n,nt,ps,as,d,tm,r,b,a,_⟩ | ⟨c,entries,b,a,_⟩ | ⟨_,_,_,_,_,_,b,a,_⟩
 ·exact⟨b,a⟩
 ·exact⟨b,a⟩
 ·exact⟨b,a⟩
theorem lb.obj{M:Mem}{ι:Map}{w:World}{l:Loc}{k:aJ}(h:lb M ι w l k):(∃r,w.heap[l.b]?=some (.loop r))\/(∃es c,w.heap[l.b]?=some (.map es c)) \/∃a b c d e f,w.heap[l.b]?=some (.chan a b c d e f):=by
 rcases h with ⟨n,nt,ps,as,i,tm,r,_,_,_,h,_⟩ | ⟨g,entries,_,_,_,h,_⟩ | ⟨_,_,_,_,_,_,_,_,_,h,_⟩
 ·exact .inl ⟨_,h⟩
 ·exact .inr (.inl ⟨_,_,h⟩)
 ·exact .inr (.inr ⟨_,_,_,_,_,_,h⟩)
theorem lb.same{M:Mem}{ι:Map}{w:World}{l:Loc}{k k':aJ}(h:lb M ι w l k)(j:k'.esz=k.esz)(g:k'.arr=k.arr)(i:k'.es=k.es):lb M ι w l k':=by
 rcases h with ⟨n,nt,ps,as,o,tm,r,e,a,b,f⟩ | ⟨d,entries,e,a,b,f⟩ | ⟨c,s,r,m,buf,arr,e,a,b,f⟩
 ·exact .inl ⟨n,nt,ps,as,o,tm,r,j.trans e,g.trans a,i.trans b,f⟩
 ·exact .inr (.inl ⟨d,entries,j.trans e,g.trans a,i.trans b,f⟩)
 ·exact .inr (.inr ⟨c,s,r,m,buf,arr,j.trans e,g.trans a,i.trans b,f⟩)
theorem lb.LY{M:Mem}{ι:Map}{w:World}{l:Loc}{k:aJ}(h:lb M ι w l k)(a:l.esz=0)(c : ∀o x,M l.b o=some x->False):mg M ι w l k:=
 ⟨by rw[a,h.zero.1],λe=>by have:=h.zero.1;omega,λ_=>h,λo x d=>(c o x d).elim⟩
theorem mg.pos{M:Mem}{ι:Map}{w:World}{l:Loc}{k:aJ}(h:mg M ι w l k)(a:k.arr=true):0<k.esz:=by
 rcases zb k.esz with e | e
 ·have:=(h.objOk e).zero.2;rw[a]at this;cases this
 ·exact e
structure eW (M:Mem) (ι:Map) (g:cf) (w:World):Prop where
 mem : ∀b o x,M b o=some x->w.cell? ⟨b,o,none⟩=some x
 live : ∀r k,g r=some k ->∃l,ι r=some l/\mg M ι w l k
 inj : ∀r r' k k' l l',g r=some k->g r'=some k'->ι r=some l->ι r'=some l'->l.b=l'.b->r=r'
theorem eW.at{M:Mem}{ι:Map}{g:cf}{w:World}(d:eW M ι g w){r:Ref}{b:aJ}{l:Loc}(e:ι r=some l)(h:0<l.esz)(f:g r=some b):dU M ι w l b:=by
 obtain⟨i,a,c⟩:=d.live r b f
 rw[e]at a;cases a
 exact c.cellsOk (by have:=c.esz;omega)
theorem lb.mono{M M':Mem}{ι d:Map}{w w':World}{l:Loc}{k:aJ}(h:lb M ι w l k)(B : ∀b o x,M b o=some x->M' b o=some x)(f : ∀r l,ι r=some l->d r=some l)(z:w'.heap[l.b]?=w.heap[l.b]?):lb M' d w' l k:=by
 rcases h with ⟨n,nt,ps,as,K,tm,r,v,C,y,g,j,p,m,N,J,G⟩ | ⟨q,entries,v,y,g,j,p,m⟩ | ⟨c,s,r,F,buf,arr,v,y,g,j,p,m⟩
 ·exact .inl ⟨n,nt,ps,as,K,tm,r,v,C,y,by rw[z];exact g,j,p,m,N,λt=>(J t).mono B d f,G⟩
 ·exact .inr (.inl ⟨q,entries,v,y,g,by rw[z];exact j,p,λi A e a b=>by obtain⟨E,H,L,I,D⟩:=m i A e a b;exact⟨E,H,L,I,D.1.mono B d f,D.2⟩⟩)
 ·exact .inr (.inr ⟨c,s,r,F,buf,arr,v,y,g,by rw[z];exact j,p,λi x u a b=>(m i x u a b).mono B d f⟩)
structure pN (M:Mem) (ι:Map) (g:cf) (w:World) (M':Mem) (ι':Map) (g':cf) (w':World):Prop where
 os:w'.os=w.os
 tape:w'.tape=w.tape
 output:w'.output=w.output
 size:w.heap.size<=w'.heap.size
 chg : ∀b,b<w.heap.size->(∀r k l,g r=some k->ι r=some l->l.b≠b)->w'.heap[b]?=w.heap[b]?
 mem : ∀b o x,M b o=some x->M' b o=some x
 map : ∀r l,ι r=some l->ι' r=some l
 live : ∀r k l,g' r=some k->ι' r=some l->w.heap.size<=l.b \/∃r0 k0 l0,g r0=some k0/\ι r0=some l0/\l0.b=l.b
 new : ∀b o x,M' b o=some x->M b o=some x\/w.heap.size<=b \/∃r0 k0 l0,g r0=some k0/\ι r0=some l0/\l0.b=b
theorem pN.refl{M:Mem}{ι:Map}{g:cf}{w:World}:pN M ι g w M ι g w:=
 ⟨rfl,rfl,rfl,aW _,λ_ _ _=>rfl,λ_ _ _ h=>h,λ_ _ h=>h,λr k l h a => .inr ⟨r,k,l,h,a,rfl⟩,λ_ _ _ h => .inl h⟩
theorem pN.trans{M ι g w M' ι' g' w' M'' ι'' g'' w''}(h:pN M ι g w M' ι' g' w')(d:pN M' ι' g' w' M'' ι'' g'' w''):pN M ι g w M'' ι'' g'' w'':=by
 have f : ∀b,b<w.heap.size->(∀r k l,g r=some k->ι r=some l->l.b≠b) ->∀r k l,g' r=some k->ι' r=some l->l.b≠b:=by
  intro b t c r k l B n e
  rcases h.live r k l B n with a | ⟨q,s,m,a,p,j⟩
  ·omega
  ·exact c q s m a p (j.trans e)
 refine⟨d.os.trans h.os,d.tape.trans h.tape,d.output.trans h.output,rk h.size d.size,?_,λb o x y=>d.mem b o x (h.mem b o x y),
  λr l n=>d.map r l (h.map r l n),?_,?_⟩
 ·intro b t c
  rw[d.chg b (xN t h.size) (f b t c),h.chg b t c]
 ·intro r k l B n
  rcases d.live r k l B n with a | ⟨q,s,m,a,p,j⟩
  ·exact .inl (rk h.size a)
  ·rcases h.live q s m a p with i | ⟨u,k1,z,i,v,A⟩
   ·exact .inl (j ▸ i)
   ·exact .inr ⟨u,k1,z,i,v,A.trans j⟩
 ·intro b o x y
  rcases d.new b o x y with a | a | ⟨q,s,m,a,p,j⟩
  ·exact h.new b o x a
  ·exact .inr (.inl (rk h.size a))
  ·rcases h.live q s m a p with i | ⟨u,k1,z,i,v,A⟩
   ·exact .inr (.inl (j ▸ i))
   ·exact .inr (.inr ⟨u,k1,z,i,v,A.trans j⟩)
theorem gA{w:World}{b o:Nat}{arr:Array Value}{T:TypeId}{fz:Nat × Nat}(h:w.heap[b]?=some (.cells arr T fz)):w.cell? ⟨b,o,none⟩=arr[o]?:=by
 simp[World.cell?,h]
theorem fk(b o n:Nat):(⟨b,o,none⟩:Addr).add n=⟨b,o+n,none⟩:=by
 unfold Addr.add;split<;>simp_all
theorem ik{a:Addr}(h:a.spot=none):a=⟨a.block,a.off,none⟩:=by cases a;simp_all
theorem qC{P:Program}{t:TypeId}{n:Nat}(h:av P t=some n) : ∃i,P.info? t=some i/\i.size=n:=by
 simpa [av] using h
theorem bP{P:Program}{t:TypeId}{n:Nat}(h:av P t=some n)(w:World):(sizeOf t).run P w = .ok n w:=by
 obtain⟨i,hi,rfl⟩:=qC h
 simp[sizeOf,typeInfo,hi]
theorem aN{P:Program}{t:TypeId}{d:TypeDesc}(h:P.underlying t=some d)(w:World):(underlying t).run P w = .ok d w:=by
 simp[underlying,h]
theorem vO{P:Program}{t:TypeId}{b:Bool}(h:eA P t=some b)(w:World):(isAgg t).run P w = .ok b w:=by
 simp only[eA,aZ]at h
 obtain⟨d,a,rfl⟩:=h
 simp only[isAgg,Sem.run_bind,aN a,Result.andThen_ok]
 cases d<;>rfl
theorem sO{P:Program}{t:TypeId}{z:AV}(h:ei P t=some z)(w:World) : ∃u,(zeroValue t).run P w = .ok u w/\ofValue u=some z:=by
 simp only[ei,fD]at h
 obtain⟨u,⟨i,hi,b⟩,a⟩:=h
 exact⟨u,by simp[zeroValue,typeInfo,hi,b],a⟩
def wX(M:Mem)(ι:Map)(w:World)(b o:Nat)(a:List AV):Prop:=
 ∀(j:Nat) x,a[j]?=some x ->∃u,w.cell? ⟨b,o+j,none⟩=some u/\u.oneCell'=true/\VR M ι x u
theorem wX.values{M ι w b o}{a:List AV}(h:wX M ι w b o a) : ∃us:List Value,jD M ι a us/\(∀u∈us,u.oneCell'=true) /\∀(j:Nat) u,us[j]?=some u->w.cell? ⟨b,o+j,none⟩=some u:=by
 induction a generalizing o with
 | nil=>exact⟨[],jD.nil,by simp,by simp⟩
 | cons x a i=>
  obtain⟨u,d,m,k⟩:=h 0 x rfl
  obtain⟨us,f,g,e⟩:=i (o:=o+1) λj y l=>by
   have:=h (j+1) y (by simpa using l)
   rwa [show o+(j+1)=o+1+j by omega]at this
  refine⟨u :: us,jD.cons k f,by simpa [m] using g,?_⟩
  intro j v c
  cases j with
  | zero=>simp at c;subst c;exact d
  | succ j=>
   simp at c
   have:=e j v c
   rwa [show o+(j+1)=o+1+j by omega]
theorem wX.sub{M ι w b o}{c:List AV}(h:wX M ι w b o c)(j n:Nat):wX M ι w b (o+j) ((c.drop j).take n):=by
 intro i x a
 rw[uW]at a
 split at a
 ·rw[wA]at a
  obtain⟨u,e,d⟩:=h _ x a
  exact⟨u,by rwa [show o+j+i=o+(j+i) by omega],d⟩
 ·cases a
theorem ru{P:Program}{t:TypeId}{f:Bool}{n:Nat}(h:eA P t=some f)(l:av P t=some n){M ι w b o}{cs:List AV}{j:Nat}{y:AV}
 (g:wX M ι w b o cs)
 (e:(if f then (if j+n<=cs.length/\0<n then some (AV.agg ((cs.drop j).take n)) else none) else cs[j]?)=some y) :
 ∃u,(loadVar t ⟨b,o+j,none⟩).run P w = .ok u w/\VR M ι y u:=by
 cases f with
 | false=>
  simp at e
  obtain⟨u,p,_,m⟩:=g j y e
  exact⟨u,by simp[loadVar,vO h,p],m⟩
 | true=>
  simp at e
  obtain⟨⟨x,s⟩,rfl⟩:=e
  obtain⟨us,c,_,a⟩:=(g.sub j n).values
  have d:us.length=n:=by rw[<-c.1];simp;omega
  refine⟨.agg us.toArray,?_,VR.mP.2 (by simpa using c)⟩
  have i:=run_loadCells_list (P:=P) w ⟨b,o+j,none⟩ us (λk v q=>by rw[fk];exact a k v q)
  rw[d]at i
  simp[loadVar,vO h,bP l,i]
theorem dU.cell{M ι w l k}(h:dU M ι w l k)(i:Nat){e:AV}(m:k.es[i]?=some e):wX M (k.map ι) w l.b (i * k.esz) e.cells:=by
 obtain⟨arr,T,fz,n,_,_,f⟩:=h.heap
 intro j x d
 obtain⟨u,a,g,c⟩:=f i j e x m d
 exact⟨u,by rw[gA n];exact a,g,c⟩
theorem aJ.map_le(k:aJ)(ι:Map) : ∀r l,k.map ι r=some l->ι r=some l:=by
 intro r l h
 unfold aJ.map at h
 split at h
 ·cases h
 ·exact h
theorem Ka{P:Program}{t:TypeId}{c:Bool}{n:Nat}(p:eA P t=some c)(l:av P t=some n){M ι g w}(q:eW M ι g w)
 {r:Ref} {i j:Nat} {k:aJ} {y:AV} {a:Value} (o:VR M ι (.ptr r i j) a) (x:g r=some k) (b:cG k.es i j n c=some y) :
 ∃u,(Instr.loadAt t a).run P w = .ok u w/\VR M ι y u:=by
 cases o with | ptr v s=>
 have f:=q.at v s x
 unfold cG at b
 split at b
 ·cases b
 ·rename_i e z
  obtain⟨u,d,m⟩:=ru p l (f.cell i z) b
  refine⟨u,?_,m.mono (λ_ _ _ h=>h) ι (k.map_le ι)⟩
  rw[<-f.esz]at d
  simp[Instr.loadAt,Instr.sureAddr,d]
theorem wX.S4{M:Mem}{w:World}(k : ∀b o x,M b o=some x->w.cell? ⟨b,o,none⟩=some x){esz b o i:Nat}{es:List AV}{cell:Nat->Nat->Value}
 (f : ∀i j,i<es.length->j<esz->M b (o+(i * esz+j))=some (cell i j)/\(cell i j).oneCell'=true)
 (g : ∀e∈es,e.cells.length=esz) (h : ∀(i j:Nat) e x,es[i]?=some e->e.cells[j]?=some x->VR M cQ x (cell i j)) {e:AV} (hi:es[i]?=some e):wX M cQ w b (o+i * esz) e.cells:=by
 intro j x d
 have c:j<esz:=by
  rw[<-g e (eY hi)]
  exact(dE.1 d).1
 have a:i<es.length:=(dE.1 hi).1
 refine⟨cell i j,?_,(f i j a c).2,h i j e x hi d⟩
 rw[show o+i * esz+j=o+(i * esz+j) by omega]
 exact k _ _ _ (f i j a c).1
theorem Ob{P:Program}{t:TypeId}{f:Bool}{n:Nat}(p:eA P t=some f)(g:av P t=some n){M ι w}(k : ∀b o x,M b o=some x->w.cell? ⟨b,o,none⟩=some x)
 {esz i j:Nat} {es:List AV} {y:AV} {a:Value} (m:VR M ι (.iptr esz es i j) a) (c:cG es i j n f=some y) :
 ∃u,(Instr.loadAt t a).run P w = .ok u w/\VR M ι y u:=by
 cases m with | iptr cell q he h=>
 rename_i b o
 unfold cG at c
 split at c
 ·cases c
 ·rename_i e hi
  obtain⟨u,d,l⟩:=ru p g (wX.S4 k q he h hi) c
  refine⟨u,?_,l.up ι⟩
  rw[show o+i * esz+j=o+(i * esz+j) by omega]at d
  simp[Instr.loadAt,Instr.sureAddr,d]
structure yU (w w':World) (o:Obj):Prop where
 os:w'.os=w.os
 tape:w'.tape=w.tape
 output:w'.output=w.output
 heap:w'.heap=w.heap.push o
theorem yU.cell{w w':World}{o:Obj}(h:yU w w' o){a:Addr}{x:Value}(b:w.cell? a=some x):w'.cell? a=some x:=by
 have c:=World.block_lt_of_cell? w a b
 unfold World.cell? at b ⊢
 rw[h.heap,zV c,<-ir c]
 exact b
theorem yU.old{w w':World}{o:Obj}(h:yU w w' o)(b:Nat)(a:b<w.heap.size):w'.heap[b]?=w.heap[b]?:=by
 rw[h.heap,zV a,<-ir a]
def iV(ι:Map)(q:Ref)(l:Loc):Map:=λr=>if r=q then some l else ι r
def jx(g:cf)(q:Ref)(k:aJ):cf:=λr=>if r=q then some k else g r
theorem AE{ι:Map}{q:Ref}{l:Loc}(b:ι q=none) : ∀r a,ι r=some a->iV ι q l r=some a:=by
 intro r a h
 unfold iV
 split
 ·subst_vars;rw[b]at h;cases h
 ·exact h
theorem eW.Qo{M ι g w}(h:eW M ι g w){q:Ref}(c:ι q=none):g q=none:=by
 cases b:g q with
 | none=>rfl
 | some k=>obtain⟨l,a,_⟩:=h.live q k b;rw[c]at a;cases a
theorem dU.lt{M ι w l k}(h:dU M ι w l k):l.b<w.heap.size:=by
 obtain⟨arr,T,fz,a,_⟩:=h.heap
 exact(fP.1 a).1
theorem lb.lt{M ι w l k}(h:lb M ι w l k):l.b<w.heap.size:=by
 rcases h.obj with ⟨_,a⟩ | ⟨_,_,a⟩ | ⟨_,_,_,_,_,_,a⟩
 ·exact(fP.1 a).1
 ·exact(fP.1 a).1
 ·exact(fP.1 a).1
theorem mg.lt{M ι w l k}(h:mg M ι w l k):l.b<w.heap.size:=by
 rcases zb k.esz with e | e
 ·exact(h.objOk e).lt
 ·exact(h.cellsOk e).lt
theorem mg.Oy{M ι w l k}(h:mg M ι w l k){arr:Array Value}{T:TypeId}{fz:Nat × Nat}(c:w.heap[l.b]?=some (.cells arr T fz)):dU M ι w l k/\0<k.esz:=by
 rcases zb k.esz with e | e
 ·rcases(h.objOk e).obj with ⟨_,a⟩ | ⟨_,_,a⟩ | ⟨_,_,_,_,_,_,a⟩
  ·rw[c]at a;cases a
  ·rw[c]at a;cases a
  ·rw[c]at a;cases a
 ·exact⟨h.cellsOk e,e⟩
theorem dU.cy{M ι w l k M' ι' w'}(h:dU M ι w l k)(s : ∀b o x,M b o=some x->M' b o=some x)(c : ∀r l,ι r=some l->ι' r=some l)
 (B:w'.heap[l.b]?=w.heap[l.b]?) (m : ∀o x,M' l.b o=some x->k.fN=true/\o<k.es.length * k.esz):dU M' ι' w' l k:=by
 obtain⟨arr,T,fz,z,v,g,n⟩:=h.heap
 refine⟨h.esz,⟨arr,T,fz,B ▸ z,v,g,?_⟩,h.len,h.cells,m⟩
 intro i j e x y p
 obtain⟨u,f,t,A⟩:=n i j e x y p
 refine⟨u,f,t,A.mono s _ ?_⟩
 intro r q a
 unfold aJ.map at a ⊢
 split
 ·rename_i d;rw[if_pos d]at a;exact a
 ·rename_i d;rw[if_neg d]at a;exact c r q a
theorem mg.cy{M ι w l k M' ι' w'}(h:mg M ι w l k)(c : ∀b o x,M b o=some x->M' b o=some x)(a : ∀r l,ι r=some l->ι' r=some l)
 (d:w'.heap[l.b]?=w.heap[l.b]?) (f : ∀o x,M' l.b o=some x->k.fN=true/\o<k.es.length * k.esz):mg M' ι' w' l k:=
 ⟨h.esz,λe=>(h.cellsOk e).cy c a d f,λe=>(h.objOk e).mono c a d,f⟩
theorem eW.alloc{M ι g w}(v:eW M ι g w){q:Ref}(U:ι q=none){w':World}{arr:Array Value}{T:TypeId}{fz:Nat × Nat}(m:yU w w' (.cells arr T fz))
 (k:aJ) (S:0<k.esz) (n:Nat) (I:arr.size=n * k.esz) (F:xF k.esz arr.size fz) (y:k.es.length<=n) (c : ∀e∈k.es,e.cells.length=k.esz)
 (N : ∀(i j:Nat) e x,k.es[i]?=some e->e.cells[j]?=some x ->∃u,arr[i * k.esz+j]?=some u/\u.oneCell'=true/\VR M (k.map ι) x u) :
 eW M (iV ι q ⟨w.heap.size,k.esz,n⟩) (jx g q k) w'/\pN M ι g w M (iV ι q ⟨w.heap.size,k.esz,n⟩) (jx g q k) w':=by
 have d:=AE (l:=⟨w.heap.size,k.esz,n⟩) U
 have A : ∀b o x,M b o=some x->b<w.heap.size:=λb o x h=>World.block_lt_of_cell? w ⟨b,o,none⟩ (v.mem b o x h)
 have B:w'.heap[w.heap.size]?=some (.cells arr T fz):=by rw[m.heap];simp
 refine⟨⟨λb o x h=>m.cell (v.mem b o x h),?_,?_⟩,⟨m.os,m.tape,m.output,by rw[m.heap];simp,λb f _=>m.old b f,λ_ _ _ h=>h,d,?_,λ_ _ _ h => .inl h⟩⟩
 ·intro r k' s
  unfold jx at s
  split at s
  ·rename_i e
   subst e
   cases s
   refine⟨⟨w.heap.size,k.esz,n⟩,by simp[iV],dU.LY ⟨rfl,⟨arr,T,fz,B,I,F,?_⟩,y,c,?_⟩ S⟩
   ·intro i j e x W K
    obtain⟨u,R,P,Q⟩:=N i j e x W K
    refine⟨u,R,P,Q.mono (λ_ _ _ h=>h) _ ?_⟩
    intro r' V a
    unfold aJ.map at a ⊢
    split
    ·rename_i G;rw[if_pos G]at a;exact a
    ·rename_i G;rw[if_neg G]at a;exact d r' V a
   ·intro o x h
    exact absurd (A _ _ _ h) (wu _)
  ·obtain⟨l,a,f⟩:=v.live r k' s
   exact⟨l,d r l a,f.cy (λ_ _ _ h=>h) d (m.old _ f.lt) f.frozen⟩
 ·intro r r' k1 J O L C z p t H
  unfold jx at C z
  unfold iV at p t
  by_cases E:r=q<;>by_cases D:r'=q
  ·rw[E,D]
  ·rw[if_pos E]at p;rw[if_neg D]at z t
   obtain⟨l,a,f⟩:=v.live r' J z
   rw[a]at t;cases t;cases p
   exact absurd f.lt (by rw[<-H];exact wu _)
  ·rw[if_neg E]at C p;rw[if_pos D]at t
   obtain⟨l,a,f⟩:=v.live r k1 C
   rw[a]at p;cases p;cases t
   exact absurd f.lt (by rw[H];exact wu _)
  ·rw[if_neg E]at C p;rw[if_neg D]at z t
   exact v.inj r r' k1 J O L C z p t H
 ·intro r k' l s a
  unfold jx at s
  unfold iV at a
  split at s
  ·rename_i e;rw[if_pos e]at a;cases a;exact .inl (aW _)
  ·rename_i e;rw[if_neg e]at a;exact .inr ⟨r,k',l,s,a,rfl⟩
def bA(w:World)(b:Nat)(o:Obj):World := { w with heap:=w.heap.setIfInBounds b o}
theorem fe{w:World}{b:Nat}{o:Obj}(a:b<w.heap.size):(bA w b o).heap[b]?=some o:=by simp[bA,a]
theorem dK{w:World}{b b':Nat}{o:Obj}(h:b≠b'):(bA w b o).heap[b']?=w.heap[b']?:=by simp[bA,wC h]
def bQ(arr:Array Value)(o:Nat)(us:List Value):Array Value:=(arr.toList.take o++us++arr.toList.drop (o+us.length)).toArray
theorem fR{arr:Array Value}{o:Nat}{us:List Value}(h:o+us.length<=arr.size)(i:Nat) :
 (bQ arr o us)[i]?=if o<=i/\i<o+us.length then us[i - o]? else arr[i]?:=by
 unfold bQ
 simp only[HM]
 have b:(arr.toList.take o).length=o:=by simp;omega
 rcases dH i o with a | a
 ·rw[pS,ia (by omega),uW,if_pos a,if_neg (by omega)]
  simp
 ·rcases dH i (o+us.length)with c | c
  ·rw[pS,iL (by omega),ia (by omega),if_pos ⟨a,c⟩,b]
  ·rw[iL (by simp;omega),wA,if_neg (by omega)]
   simp only[gG,b,AS]
   congr 1
   omega
theorem gz{arr:Array Value}{o:Nat}{us:List Value}(h:o+us.length<=arr.size):(bQ arr o us).size=arr.size:=by
 simp[bQ];omega
theorem kA{P:Program}{b:Nat}{T:TypeId}{fz:Nat × Nat}(o:Nat) : ∀(us:List Value)(i:Nat)(arr:Array Value)(w:World),w.heap[b]?=some (.cells arr T fz) ->
 o+i+us.length<=arr.size->(∀j,j<arr.size ->¬(fz.1<=j/\(j<fz.2\/fz.2<fz.1)))->(∀u∈us,u.oneCell'=true) ->
 (storeCells ⟨b,o,none⟩ us i).run P w = .ok () (bA w b (.cells (bQ arr (o+i) us) T fz)):=by
 intro us
 induction us with
 | nil=>
  intro i arr w a s m n
  have g:=(fP.1 a).1
  have e:bQ arr (o+i) []=arr:=by simp[bQ]
  have t:bA w b (.cells arr T fz)=w:=by
   have:w.heap.setIfInBounds b (.cells arr T fz)=w.heap:=by
    apply zS
    intro k
    by_cases c:b=k
    ·subst c;rw[a,AT g]
    ·rw[wC c]
   unfold bA
   rw[this]
  simp[storeCells,e,t]
 | cons u us B=>
  intro i arr w a s m n
  have g:=(fP.1 a).1
  simp only[ji]at s
  have y:w.cell? ⟨b,o+i,none⟩=some arr[o+i]:=by rw[gA a];exact ir (by omega)
  have l:w.frozen? ⟨b,o+i,none⟩=false:=by
   have:=m (o+i) (by omega)
   simp only[World.frozen?,a]
   simp only[Dz,decide_eq_false_iff_not]
   by_cases h:fz.1<=o+i
   ·exact .inr λz=>this ⟨h,.inl z⟩
   ·exact .inl h
  have d:w.setCell ⟨b,o+i,none⟩ u=bA w b (.cells (arr.setIfInBounds (o+i) u) T fz):=by
   unfold World.setCell bA
   congr 1
   apply zS
   intro k
   rw[Bg]
   by_cases c:b=k
   ·subst c;rw[a,AT g];simp
   ·simp[c,wC c]
  have f:=n u (by simp)
  have p:=B (i+1) (arr.setIfInBounds (o+i) u) (bA w b (.cells (arr.setIfInBounds (o+i) u) T fz)) (fe g) (by simp;omega) (by simpa using m) (λv A=>n v (by simp[A]))
  simp only[storeCells,Sem.run_bind,fk,run_store P w _ u _ f,y,l,d]
  simp only[gH, ↓reduceIte,Result.andThen_ok]
  rw[p]
  congr 1
  unfold bA
  simp only[Array.setIfInBounds_setIfInBounds]
  congr 3
  apply zS
  intro k
  rw[fR (by simp;omega),fR (by simp;omega)]
  by_cases x:k=o+i
  ·subst x
   rw[if_neg (by omega),if_pos ⟨aW _,by simp⟩]
   simp[show o+i<arr.size by omega]
  ·by_cases q:o+(i+1)<=k/\k<o+(i+1)+us.length
   ·rw[if_pos q,if_pos (by simp;omega)]
    rw[show k - (o+i)=(k - (o+(i+1)))+1 by omega]
    simp
   ·rw[if_neg q,if_neg (by simp;omega)]
    rw[wC (by omega)]
theorem eW.mark{M ι g w}(q:eW M ι g w){r:Ref}{k:aJ}{l:Loc}(t:g r=some k)(C:ι r=some l){arr:Array Value}{T:TypeId}{F fz:Nat × Nat}{w':World}
 (A:w.heap[l.b]?=some (.cells arr T F)) (m:w'=bA w l.b (.cells arr T fz)) (y:xF k.esz arr.size fz):eW M ι g w'/\pN M ι g w M ι g w':=by
 obtain⟨U,n,P⟩:=q.live r k t
 rw[C]at n;cases n
 have D:=P.lt
 have f:w'.heap[l.b]?=some (.cells arr T fz):=by rw[m];exact fe D
 have d : ∀b,l.b≠b->w'.heap[b]?=w.heap[b]?:=λb a=>by rw[m];exact dK a
 have i : ∀b o,w'.cell? ⟨b,o,none⟩=w.cell? ⟨b,o,none⟩:=by
  intro b o
  by_cases a:l.b=b
  ·subst a;rw[gA f,gA A]
  ·exact World.cell?_of_block (d b a)
 refine⟨⟨λb o x h=>by rw[i];exact q.mem b o x h,?_,q.inj⟩,?_⟩
 ·intro r' k1 s
  obtain⟨z,p,c⟩:=q.live r' k1 s
  refine⟨z,p,?_⟩
  by_cases a:l.b=z.b
  ·obtain⟨j,B⟩:=c.Oy (a ▸ A)
   obtain⟨G,S,J,u,I,R,N⟩:=j.heap
   rw[<-a,A]at u
   injection u with u;injection u with O H Q
   subst O;subst H
   have v:k1=k:=by
    have e:=q.inj r r' k k1 l z t s C p a
    subst e;rw[t]at s;exact(Ep s).symm
   exact dU.LY ⟨c.esz,⟨arr,T,fz,by rw[<-a];exact f,I,by rw[v];exact y,N⟩,j.len,j.cells,c.frozen⟩ B
  ·exact c.cy (λ_ _ _ h=>h) (λ_ _ h=>h) (d _ a) c.frozen
 ·refine⟨by rw[m];rfl,by rw[m];rfl,by rw[m];rfl,by rw[m];simp[bA],λb L E=>d b (E r k l t C),λ_ _ _ h=>h,λ_ _ h=>h,λr k l h K => .inr ⟨r,k,l,h,K,rfl⟩,λ_ _ _ h => .inl h⟩
theorem eW.write{M ι g w}(A:eW M ι g w){r:Ref}{k k':aJ}{l:Loc}(B:g r=some k)(E:ι r=some l)(U:0<l.esz){arr:Array Value}{T:TypeId}{fz:Nat × Nat}{w':World}
 (m:w'=bA w l.b (.cells arr T fz)) (a:k'.esz=k.esz) (P:k'.arr=k.arr) (O:arr.size=l.n * k.esz) (L:xF k.esz arr.size fz)
 (t:k'.es.length<=l.n) (c : ∀e∈k'.es,e.cells.length=k.esz) (d : ∀o x,M l.b o=some x->False)
 (V : ∀(i j:Nat) e x,k'.es[i]?=some e->e.cells[j]?=some x ->∃u,arr[i * k.esz+j]?=some u/\u.oneCell'=true/\VR M (k'.map ι) x u) :
 eW M ι (jx g r k') w'/\pN M ι g w M ι (jx g r k') w':=by
 obtain⟨Y,v,K⟩:=A.live r k B
 rw[E]at v;cases v
 have N:=K.lt
 refine⟨⟨?_,?_,?_⟩,?_⟩
 ·intro b o x h
  have s:l.b≠b:=λe=>d o x (e ▸ h)
  rw[World.cell?_of_block (w:=w) (by rw[m];exact dK s)]
  exact A.mem b o x h
 ·intro r' k1 z
  unfold jx at z
  split at z
  ·rename_i e
   subst e
   cases z
   refine⟨l,E,dU.LY ⟨by rw[K.esz,a],⟨arr,T,fz,by rw[m];exact fe N,by rw[a];exact O,by rw[a];exact L,by rw[a];exact V⟩,t,by rw[a];exact c,λo x h=>(d o x h).elim⟩ (by rw[a,<-K.esz];exact U)⟩
  ·rename_i s
   obtain⟨p,C,y⟩:=A.live r' k1 z
   have I:l.b≠p.b:=λe=>s (A.inj r' r k1 k p l z B C E e.symm)
   exact⟨p,C,y.cy (λ_ _ _ h=>h) (λ_ _ h=>h) (by rw[m];exact dK I) y.frozen⟩
 ·intro q r2 k1 X p R D F Q W S
  have f : ∀ {q:Ref} {k1:aJ},jx g r k' q=some k1 ->∃k,g q=some k:=by
   intro q k1 h
   unfold jx at h
   split at h
   ·rename_i e;exact⟨k,e ▸ B⟩
   ·exact⟨k1,h⟩
  obtain⟨_,G⟩:=f D
  obtain⟨_,H⟩:=f F
  exact A.inj q r2 _ _ p R G H Q W S
 ·refine⟨by rw[m];rfl,by rw[m];rfl,by rw[m];rfl,by rw[m];simp[bA],?_,λ_ _ _ h=>h,λ_ _ h=>h,?_,λ_ _ _ h => .inl h⟩
  ·intro b _ J
   rw[m]
   exact dK (J r k l B E)
  ·intro q k1 p D F
   unfold jx at D
   split at D
   ·rename_i e;subst e;exact .inr ⟨q,k,p,B,F,rfl⟩
   ·exact .inr ⟨q,k1,p,D,F,rfl⟩
end Go.Ab
namespace Go.Ab
open Classical
def Mv(ι:Map)(g:cf)(R:List Ref)(b o:Nat):Prop :=∃r∈R,∃k l,g r=some k/\ι r=some l/\l.b=b/\o<k.es.length * k.esz
noncomputable def iD(M:Mem)(ι:Map)(g:cf)(w:World)(R:List Ref):Mem:=λb o=>
 match M b o with
 | some x=>some x
 | none=>if Mv ι g R b o then w.cell? ⟨b,o,none⟩ else none
theorem o3{M ι g w R} : ∀b o x,M b o=some x->iD M ι g w R b o=some x:=by
 intro b o x h;simp[iD,h]
theorem qR{M ι g w R}(c : ∀b o x,M b o=some x->w.cell? ⟨b,o,none⟩=some x) : ∀b o x,iD M ι g w R b o=some x->w.cell? ⟨b,o,none⟩=some x:=by
 intro b o x h
 unfold iD at h
 split at h
 ·rename_i y a;cases h;exact c b o _ a
 ·split at h
  ·exact h
  ·cases h
theorem qS{M ι g w R b o x}(h:iD M ι g w R b o=some x):M b o=some x\/Mv ι g R b o:=by
 unfold iD at h
 split at h
 ·rename_i y a;cases h;exact .inl a
 ·split at h
  ·rename_i c;exact .inr c
  ·cases h
theorem zB{n esz i j:Nat}(hi:i<n)(a:j<esz):i * esz+j<n * esz:=by
 have:(i+1) * esz<=n * esz:=jN _ hi
 rw[jH]at this
 omega
theorem yN{M ι g w R}(n:eW M ι g w){r:Ref}{k:aJ}{l:Loc}(z:r∈R)(p:g r=some k)(o:ι r=some l){i j:Nat}(hi:i<k.es.length)(s:j<k.esz) :
 ∃u,iD M ι g w R l.b (i * k.esz+j)=some u/\u.oneCell'=true/\w.cell? ⟨l.b,i * k.esz+j,none⟩=some u /\
  ∀e x,k.es[i]?=some e->e.cells[j]?=some x->VR M (k.map ι) x u:=by
 obtain⟨G,a,f⟩:=n.live r k p
 rw[o]at a;cases a
 replace f:=f.cellsOk (by omega)
 obtain⟨arr,T,fz,C,H,F,v⟩:=f.heap
 have d:k.es[i]?=some k.es[i]:=cw hi
 have t:=f.cells k.es[i] (gD hi)
 have c:k.es[i].cells[j]?=some (k.es[i].cells[j]'(by omega)):=cw _
 obtain⟨u,E,B,D⟩:=v i j _ _ d c
 have h:w.cell? ⟨l.b,i * k.esz+j,none⟩=some u:=by rw[gA C];exact E
 refine⟨u,?_,B,h,?_⟩
 ·unfold iD
  split
  ·rename_i y A;have:=n.mem _ _ _ A;rw[h]at this;cases this;rfl
  ·rw[if_pos ⟨r,z,k,l,p,o,rfl,zB hi s⟩];exact h
 ·intro e x q m
  rw[d]at q;cases q
  rw[c]at m;cases m
  exact D
theorem FZ{g:cf}{n:Nat}{x y:AV}(h:view g (n+1) x=some y)(c : ∀cs,x ≠ .agg cs):x.cells=[x]/\y.cells=[y]:=by
 refine⟨by cases x<;>first | rfl | exact absurd rfl (c _),?_⟩
 cases x with
 | agg cs=>exact absurd rfl (c cs)
 | v x=>simp[view]at h;subst h;rfl
 | tup cs=>simp only[view,aZ]at h;obtain⟨_,_,rfl⟩:=h;rfl
 | bl=>simp[view]at h;subst h;rfl
 | iptr=>simp[view]at h;subst h;rfl
 | fsl=>simp[view]at h
 | bD r off len cap=>
  simp only[view]at h
  split at h
  ·split at h
   ·cases h;rfl
   ·cases h
  ·cases h
 | dsl r off len cap=>
  simp only[view]at h
  split at h
  ·split at h
   ·simp only[aZ]at h;obtain⟨_,_,rfl⟩:=h;rfl
   ·cases h
  ·cases h
 | nsl=>simp[view]at h
 | ptr r i j=>
  simp only[view]at h
  split at h
  ·split at h
   ·cases h;rfl
   ·simp only[aZ]at h;obtain⟨_,_,rfl⟩:=h;rfl
  ·cases h
 | fn f a b=>
  simp only[view]at h
  split at h
  ·cases h;rfl
  ·cases h
 | ifc t x=>simp only[view,aZ]at h;obtain⟨_,_,rfl⟩:=h;rfl
 | yld=>simp[view]at h
 | mp=>simp[view]at h
 | ch=>simp[view]at h
 | uP=>simp[view]at h
 | lp=>simp[view]at h
theorem tq{g:cf}{n:Nat}{e f:AV}(h:view g (n+1) e=some f) :
 f.cells.length=e.cells.length /\∀(j:Nat) b,f.cells[j]?=some b ->∃m x,m<=n+1/\e.cells[j]?=some x/\view g m x=some b /\∀r∈ad g m x,r∈ad g (n+1) e:=by
 by_cases c : ∃cs,e = .agg cs
 ·obtain⟨cs,rfl⟩:=c
  simp only[view,aZ]at h
  obtain⟨q,d,rfl⟩:=h
  refine⟨by simp[AV.cells,fg d],?_⟩
  intro j b a
  obtain⟨x,c,p⟩:=lO d j b (by simpa [AV.cells] using a)
  refine⟨n,x,by omega,by simpa [AV.cells] using c,p,?_⟩
  intro r i
  simp only[ad,hY]
  exact⟨x,eY c,i⟩
 ·obtain⟨l,k⟩:=FZ h (λcs o=>c ⟨cs,o⟩)
  refine⟨by rw[l,k];rfl,?_⟩
  intro j b a
  rw[k]at a
  cases j with
  | zero=>
   simp at a
   subst a
   exact⟨n+1,e,aW _,by rw[l];rfl,h,λr i=>i⟩
  | succ j=>simp at a
theorem xU{M ι g w R}(hS:eW M ι g w) : ∀(n:Nat)(x y:AV)(u:Value),view g n x=some y->(∀r∈ad g n x,r∈R)->VR M ι x u->VR (iD M ι g w R) cQ y u:=by
 intro n
 induction n using Nat.strongRecOn with | ind n ih=>
 intro x y u h K O
 cases n with
 | zero=>simp[view]at h
 | succ n=>
  have D : ∀ {cs ys:List AV} {us:List Value},cs.mapM (view g n)=some ys->(∀r∈cs.flatMap (ad g n),r∈R)->jD M ι cs us->jD (iD M ι g w R) cQ ys us:=by
   intro cs ys us G K Zx
   refine⟨by rw[fg G];exact Zx.1,λi y' u hy L=>?_⟩
   obtain⟨x,C,hf⟩:=lO G i y' hy
   exact ih n (by omega) x y' u hf (λr I=>K r (hY.2 ⟨x,eY C,I⟩)) (Zx.2 i x u C L)
  cases x with
  | v x=>simp[view]at h;subst h;cases O with | v hs=>exact .v hs
  | agg cs=>
   simp only[view,aZ]at h
   obtain⟨ys,G,rfl⟩:=h
   cases O with | agg hl U=>
   exact VR.mP.2 (D G (by simpa [ad] using K) (VR.mP.1 (.agg hl U)))
  | tup cs=>
   simp only[view,aZ]at h
   obtain⟨ys,G,rfl⟩:=h
   cases O with | tup h0 hl U=>
   rename_i vs
   have:=D (us:=vs.toList) G (by simpa [ad] using K) ⟨by simpa using hl,λi x u C L=>U i x u C (by simpa using L)⟩
   refine .tup ?_ (by simpa using this.1) λi c u hc L=>this.2 i c u hc (by simpa using L)
   intro e
   subst e
   have E:=fg G
   exact h0 (uw (by simpa using E.symm))
  | bl esz es cap=>
   simp[view]at h;subst h
   cases O with | bl cell hs hc N hm F U=>
   exact(VR.bl (M:=M) (ι:=cQ) cell hs hc N hm F U).mono o3 _ (λ_ _ h=>h)
  | iptr esz es i j=>
   simp[view]at h;subst h
   cases O with | iptr cell hm F U=>
   exact(VR.iptr (M:=M) (ι:=cQ) cell hm F U).mono o3 _ (λ_ _ h=>h)
  | fsl=>simp[view]at h
  | bD r off len cap=>
   simp only[view]at h
   split at h
   ·rename_i k N
    split at h
    ·rename_i U
     cases h
     obtain⟨z,A⟩:=U
     cases O with | bD I hb hs ha hc hn Z W=>
     rename_i l a c
     have V:r∈R:=K r (by simp[ad])
     have p:=hS.at I W N
     have P:((k.es.drop off).take len).length=len:=by simp;omega
     have Zt : ∀i,i<len->((k.es.drop off).take len)[i]?=k.es[off+i]?:=by
      intro i hi
      rw[uW,if_pos hi,wA]
     have H:0<len->a.off=off * k.esz:=by
      intro h0
      rcases ha with h | h
      ·omega
      ·rw[h,p.esz]
     have key : ∀i j,i<len->j<k.esz ->∃u,iD M ι g w R a.block (a.off+(i * k.esz+j))=some u/\u.oneCell'=true /\∀e x,k.es[off+i]?=some e->e.cells[j]?=some x->VR M (k.map ι) x u:=by
      intro i j hi B
      obtain⟨u,E,J,_,Y⟩:=yN hS V N I (i:=off+i) (j:=j) (by omega) B
      refine⟨u,?_,J,Y⟩
      rw[H (by omega),hb,show off * k.esz+(i * k.esz+j)=(off+i) * k.esz+j by rw[jH];omega]
      exact E
     let cell:Nat->Nat->Value:=λi j=>(iD M ι g w R a.block (a.off+(i * k.esz+j))).getD undef
     have:=VR.bl (M:=iD M ι g w R) (ι:=cQ) (esz:=k.esz) (es:=(k.es.drop off).take len) (cap:=cap) (a:=a) (c:=c) cell (.inl hs) (by omega) Z
      (by
       intro i j hi B
       rw[P]at hi
       obtain⟨u,E,J,_⟩:=key i j hi B
       simp[cell,E,J])
      (by
       intro e F
       exact p.cells e (zT (uX F)))
      (by
       intro i j e x hi C
       have q:i<len:=by have:=(dE.1 hi).1;omega
       rw[Zt i q]at hi
       have B:j<k.esz:=by
        rw[<-p.cells e (eY hi)]
        exact(dE.1 C).1
       obtain⟨u,E,J,Y⟩:=key i j q B
       have:=Y e x hi C
       rw[aJ.map,if_pos z]at this
       simp only[cell,E,bO]
       exact this.mono o3 _ (λ_ _ h=>h))
     rw[P]at this
     exact this
    ·cases h
   ·cases h
  | nsl=>simp[view]at h
  | dsl r off len cap=>
   simp only[view]at h
   split at h
   ·rename_i k N
    split at h
    ·rename_i U
     obtain⟨z,A⟩:=U
     simp only[aZ]at h
     obtain⟨es',d,rfl⟩:=h
     cases O with | dsl I hb hs ha hc hn Z W=>
     rename_i l a c
     have V:r∈R:=K r (by simp[ad])
     have p:=hS.at I W N
     have ZH:=fg d
     have P:((es'.drop off).take len).length=len:=by simp;omega
     have Zt : ∀i,i<len->((es'.drop off).take len)[i]?=es'[off+i]?:=by
      intro i hi
      rw[uW,if_pos hi,wA]
     have H:0<len->a.off=off * k.esz:=by
      intro h0
      rcases ha with h | h
      ·omega
      ·rw[h,p.esz]
     have key : ∀i j,i<len->j<k.esz ->∃u,iD M ι g w R a.block (a.off+(i * k.esz+j))=some u/\u.oneCell'=true /\∀e x,k.es[off+i]?=some e->e.cells[j]?=some x->VR M (k.map ι) x u:=by
      intro i j hi B
      obtain⟨u,E,J,_,Y⟩:=yN hS V N I (i:=off+i) (j:=j) (by omega) B
      refine⟨u,?_,J,Y⟩
      rw[H (by omega),hb,show off * k.esz+(i * k.esz+j)=(off+i) * k.esz+j by rw[jH];omega]
      exact E
     let cell:Nat->Nat->Value:=λi j=>(iD M ι g w R a.block (a.off+(i * k.esz+j))).getD undef
     cases n with
     | zero=>
      cases T:k.es with
      | nil=>
       rw[T]at d A
       simp at d A
       subst d
       obtain⟨rfl,rfl⟩:=A
       have:=VR.bl (M:=iD M ι g w R) (ι:=cQ) (esz:=k.esz) (es:=[]) (cap:=cap) (a:=a) (c:=c) cell (.inr rfl) (by simp) Z (by intro i j hi;simp at hi) (by simp) (by intro i j e x hi;simp at hi)
       simpa using this
      | cons e es=>
       rw[T]at d
       simp[view]at d
     | succ n=>
      have:=VR.bl (M:=iD M ι g w R) (ι:=cQ) (esz:=k.esz) (es:=(es'.drop off).take len) (cap:=cap) (a:=a) (c:=c) cell (.inl hs) (by omega) Z
       (by
        intro i j hi B
        rw[P]at hi
        obtain⟨u,E,J,_⟩:=key i j hi B
        simp[cell,E,J])
       (by
        intro e' Zs
        have Zy:=zT (uX Zs)
        obtain⟨S,q,rfl⟩:=mw Zy
        obtain⟨e,F,hf⟩:=lO d S _ (cw q)
        rw[(tq hf).1]
        exact p.cells e (eY F))
       (by
        intro S j' e' x' q Zw
        have Zz:S<len:=by have:=(dE.1 q).1;omega
        rw[Zt S Zz]at q
        obtain⟨e,F,hf⟩:=lO d (off+S) e' q
        obtain⟨m,x,hm,C,Zv,Q⟩:=(tq hf).2 j' x' Zw
        have B:j'<k.esz:=by
         rw[<-p.cells e (eY F)]
         exact(dE.1 C).1
        obtain⟨u,E,J,Y⟩:=key S j' Zz B
        have X:=Y e x F C
        rw[aJ.map,if_neg (by simp[z])]at X
        simp only[cell,E,bO]
        refine ih m (by omega) x x' _ Zv ?_ X
        intro r' Zu
        refine K r' ?_
        simp only[ad,N,eU,hY]
        exact .inr ⟨e,eY F,Q r' Zu⟩)
      rw[P]at this
      exact this
    ·cases h
   ·cases h
  | ptr r i j=>
   cases O with | ptr I W=>
   rename_i l
   simp only[view]at h
   split at h
   ·rename_i k N
    have V:r∈R:=K r (by simp[ad])
    have p:=hS.at I W N
    let cell:Nat->Nat->Value:=λi j=>(iD M ι g w R l.b (0+(i * k.esz+j))).getD undef
    have s : ∀i j,i<k.es.length->j<k.esz->iD M ι g w R l.b (0+(i * k.esz+j))=some (cell i j)/\(cell i j).oneCell'=true /\∀e x,k.es[i]?=some e->e.cells[j]?=some x->VR M (k.map ι) x (cell i j):=by
     intro i j hi B
     obtain⟨u,E,J,_,Y⟩:=yN hS V N I hi B
     rw[qx]at *
     simp only[cell,qx,E,bO]
     exact⟨trivial,J,Y⟩
    split at h
    ·rename_i z
     cases h
     have:=VR.iptr (M:=iD M ι g w R) (ι:=cQ) (esz:=k.esz) (es:=k.es) (i:=i) (j:=j) (b:=l.b) (o:=0) cell (λi j hi B=>⟨(s i j hi B).1,(s i j hi B).2.1⟩) p.cells
      (by
       intro i j e x hi C
       have q:=(dE.1 hi).1
       have B:j<k.esz:=by
        rw[<-p.cells e (eY hi)]
        exact(dE.1 C).1
       have:=(s i j q B).2.2 e x hi C
       rw[aJ.map,if_pos z]at this
       exact this.mono o3 _ (λ_ _ h=>h))
     rw[qx]at this
     rw[p.esz]
     exact this
    ·rename_i z
     simp only[aZ]at h
     obtain⟨es',d,rfl⟩:=h
     cases n with
     | zero=>
      cases T:k.es with
      | nil=>
       rw[T]at d
       simp at d
       subst d
       have:=VR.iptr (M:=iD M ι g w R) (ι:=cQ) (esz:=k.esz) (es:=[]) (i:=i) (j:=j) (b:=l.b) (o:=0) cell (by intro i j hi;simp at hi) (by simp) (by intro i j e x hi;simp at hi)
       rw[qx]at this
       rw[p.esz]
       exact this
      | cons e es=>
       rw[T]at d
       simp[view]at d
     | succ n=>
      have A:=fg d
      have:=VR.iptr (M:=iD M ι g w R) (ι:=cQ) (esz:=k.esz) (es:=es') (i:=i) (j:=j) (b:=l.b) (o:=0) cell
       (λi j hi B=>⟨(s i j (A ▸ hi) B).1,(s i j (A ▸ hi) B).2.1⟩)
       (by
        intro e' Zs
        obtain⟨S,q,rfl⟩:=mw Zs
        obtain⟨e,F,hf⟩:=lO d S _ (cw q)
        rw[(tq hf).1]
        exact p.cells e (eY F))
       (by
        intro S j' e' x' q Zw
        obtain⟨e,F,hf⟩:=lO d S e' q
        obtain⟨m,x,hm,C,Zv,Q⟩:=(tq hf).2 j' x' Zw
        have ZG:=(dE.1 F).1
        have B:j'<k.esz:=by
         rw[<-p.cells e (eY F)]
         exact(dE.1 C).1
        have X:=(s S j' ZG B).2.2 e x F C
        rw[aJ.map,if_neg z]at X
        refine ih m (by omega) x x' _ Zv ?_ X
        intro r' Zu
        refine K r' ?_
        simp only[ad,N,if_neg z,eU,hY]
        exact .inr ⟨e,eY F,Q r' Zu⟩)
      rw[qx]at this
      rw[p.esz]
      exact this
   ·cases h
  | fn f a b=>
   simp only[view]at h
   split at h
   ·rename_i a' b' ZF ZB
    cases h
    cases O with | fn ZC ZA ZE ZD=>
    rename_i va vb
    simp only[ad,kY]at K
    have E:=D (us:=va.toList) ZF (λr I=>K r (.inl I)) ⟨by simpa using ZC,λi x u C L=>ZE i x u C (by simpa using L)⟩
    have J:=D (us:=vb.toList) ZB (λr I=>K r (.inr I)) ⟨by simpa using ZA,λi x u C L=>ZD i x u C (by simpa using L)⟩
    exact .fn (by simpa using E.1) (by simpa using J.1) (λi c u hc L=>E.2 i c u hc (by simpa using L)) (λi c u hc L=>J.2 i c u hc (by simpa using L))
   ·cases h
  | ifc t x=>
   simp only[view,aZ]at h
   obtain⟨y,hy,rfl⟩:=h
   cases O with | ifc O=>
   exact .ifc (ih n (by omega) x y _ hy (by simpa [ad] using K) O)
  | yld=>simp[view]at h
  | mp=>simp[view]at h
  | ch=>simp[view]at h
  | uP=>simp[view]at h
  | lp=>simp[view]at h
def pI(g:cf)(R:List Ref):cf:=λr=>if r∈R then (g r).map λk => { k with fN:=true} else g r
theorem vv{M ι g w R}(C:eW M ι g w):eW (iD M ι g w R) ι (pI g R) w/\pN M ι g w (iD M ι g w R) ι (pI g R) w:=by
 have c : ∀ {r k},pI g R r=some k ->∃a,g r=some a/\k = { a with fN:=k.fN}/\(r∈R->k.fN=true)/\(a.fN=true->k.fN=true):=by
  intro r k h
  unfold pI at h
  split at h
  ·simp only[aZ]at h
   obtain⟨a,D,rfl⟩:=h
   exact⟨a,D,rfl,λ_=>rfl,λ_=>rfl⟩
  ·rename_i F
   exact⟨k,h,rfl,λE=>absurd E F,λh=>h⟩
 refine⟨⟨qR C.mem,?_,?_⟩,⟨rfl,rfl,rfl,aW _,λ_ _ _=>rfl,o3,λ_ _ h=>h,?_,?_⟩⟩
 ·intro r k h
  obtain⟨a,t,H,F,hm⟩:=c h
  obtain⟨l,v,d⟩:=C.live r a t
  refine⟨l,v,?_⟩
  have s:k.es=a.es:=by rw[H]
  have n:k.esz=a.esz:=by rw[H]
  have I:k.arr=a.arr:=by rw[H]
  have p : ∀o x,iD M ι g w R l.b o=some x->k.fN=true/\o<k.es.length * k.esz:=by
   intro o x y
   rw[s,n]
   rcases qS y with h | ⟨r',z,k',A,m,f,q,B⟩
   ·exact⟨hm (d.frozen o x h).1,(d.frozen o x h).2⟩
   ·have e:=C.inj r' r k' a A l m t f v q
    subst e
    rw[t]at m;cases m
    exact⟨F z,B⟩
  refine⟨by rw[n];exact d.esz,λG=>?_,λG=>?_,p⟩
  ·replace d:=d.cellsOk (by rw[<-n];exact G)
   obtain⟨arr,T,fz,K,P,O,Q⟩:=d.heap
   refine⟨by rw[n];exact d.esz,⟨arr,T,fz,K,by rw[n];exact P,by rw[n];exact O,?_⟩,by rw[s];exact d.len,by rw[s,n];exact d.cells,p⟩
   intro i j e x J y
   rw[s]at J
   rw[n]
   obtain⟨u,N,B,L⟩:=Q i j e x J y
   refine⟨u,N,B,?_⟩
   have:k.map ι=a.map ι:=by unfold aJ.map;rw[I]
   rw[this]
   exact L.mono o3 _ (λ_ _ h=>h)
  ·exact((d.objOk (by rw[<-n];exact G)).mono (M':=iD M ι g w R) o3 (λ_ _ h=>h) rfl).same n I s
 ·intro r r' k k' l A h E v f d
  obtain⟨a,t,_⟩:=c h
  obtain⟨k1,s,_⟩:=c E
  exact C.inj r r' _ _ l A t s v f d
 ·intro r k l h v
  obtain⟨a,t,_⟩:=c h
  exact .inr ⟨r,a,l,t,v,rfl⟩
 ·intro b o x y
  rcases qS y with h | ⟨r',z,k',A,m,f,q,B⟩
  ·exact .inl h
  ·exact .inr (.inr ⟨r',k',A,m,f,q⟩)
theorem GZ{g:cf}{R:List Ref}(h:kX g R=true):pI g R=g:=by
 funext r
 unfold pI
 split
 ·rename_i a
  simp only[kX,da]at h
  have:=h r a
  cases b:g r with
  | none=>rfl
  | some k=>
   rw[b]at this
   simp at this
   simp[<-this]
 ·rfl
end Go.Ab
